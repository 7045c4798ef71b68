
import Derived.Test.YtcggfogkfhlmlaaGreatDoorV3
import Derived.Test.YtcggfogkfhlmlaaGreatDoorU6
import Derived.Test.YtcggfogkfhlmlaaGreatDoorV2
set_option linter.unusedVariables false
set_option linter.defProp false
set_option linter.unusedSimpArgs false
set_option maxRecDepth 100000
set_option maxHeartbeats 8000000
namespace Go.Proofs.YtcggfogkfhlmlaaGreatDoor
open Go Go.V
def ZFz:Cz [] 59:=ec
def ZFa:Cz [] 19:=ec
attribute [local go_sem] Nat.reduceEqDiff Nat.reduceAdd Nat.reduceMul reduceIte Nat.reduceLeDiff Nat.reduceLT Nat.reduceBEq reduceCtorEq
def Zby(w:List UInt8):Int:=match Za9 w with|some e=>e.many|none=> -1
def ZsN{w:List UInt8}(h:(Ze3.all fun p=> !(w==p.1))=true):Zby w= -1:=by(have:Za9 w=none:=by unfold Za9;rw[Ybk,YaQ];intro p hp hpw;have h2:=Yn.1 h p hp;rw[eq_of_beq hpw]at h2;simp at h2);unfold Zby;rw[this]
def many38{w:List UInt8}(hs:w.length<=1000):Fq 59 [.c (.str w)] (iv (Zby w)):=by have hm:=vM;refine vE ZFz.h fun C hP hN hC hL=>?_;simp only[ZFz];refine vR ?_;cases h000:(w==[101,109,112,116,121]);rotate_left;{rw[show Zby w=0 from by rw[eq_of_beq h000];rfl];refine vY ?_;(refine vT ?_;try exact trivial)};refine vD ?_;refine vR ?_;cases h001:(w==[115,116,97,110,100]);rotate_left;{rw[show Zby w=0 from by rw[eq_of_beq h001];rfl];refine vY ?_;(refine vT ?_;try exact trivial)};refine vD ?_;refine vR ?_;cases h002:(w==[108,111,110,103,101,115,116]);rotate_left;{rw[show Zby w=0 from by rw[eq_of_beq h002];rfl];refine vY ?_;(refine vT ?_;try exact trivial)};refine vD ?_;refine vR ?_;cases h003:(w==[101,110,100]);rotate_left;{rw[show Zby w=0 from by rw[eq_of_beq h003];rfl];refine vY ?_;(refine vT ?_;try exact trivial)};refine vD ?_;refine vR ?_;cases h004:(w==[115,111,111,110,101,115,116]);rotate_left;{rw[show Zby w=0 from by rw[eq_of_beq h004];rfl];refine vY ?_;(refine vT ?_;try exact trivial)};refine vD ?_;refine vR ?_;cases h005:(w==[99,97,115,104]);rotate_left;{rw[show Zby w=0 from by rw[eq_of_beq h005];rfl];refine vY ?_;(refine vT ?_;try exact trivial)};refine vD ?_;refine vR ?_;cases h006:(w==[99,97,110]);rotate_left;{rw[show Zby w=0 from by rw[eq_of_beq h006];rfl];refine vY ?_;(refine vT ?_;try exact trivial)};refine vD ?_;refine vR ?_;cases h007:(w==[109,105,115,115,105,110,103]);rotate_left;{rw[show Zby w=0 from by rw[eq_of_beq h007];rfl];refine vY ?_;(refine vT ?_;try exact trivial)};refine vD ?_;refine vR ?_;cases h008:(w==[119,104,105,99,104]);rotate_left;{rw[show Zby w=0 from by rw[eq_of_beq h008];rfl];refine vY ?_;(refine vT ?_;try exact trivial)};refine vD ?_;refine vR ?_;cases h009:(w==[115,107,105,112,112,101,100]);rotate_left;{rw[show Zby w=0 from by rw[eq_of_beq h009];rfl];refine vY ?_;(refine vT ?_;try exact trivial)};refine vD ?_;refine vR ?_;cases h010:(w==[115,104,111,114,116]);rotate_left;{rw[show Zby w=0 from by rw[eq_of_beq h010];rfl];refine vY ?_;(refine vT ?_;try exact trivial)};refine vD ?_;refine vR ?_;cases h100:(w==[99,111,105,110]);rotate_left;{rw[show Zby w=1 from by rw[eq_of_beq h100];rfl];refine vY ?_;(refine vT ?_;try exact trivial)};refine vD ?_;refine vR ?_;cases h101:(w==[109,97,114,107]);rotate_left;{rw[show Zby w=1 from by rw[eq_of_beq h101];rfl];refine vY ?_;(refine vT ?_;try exact trivial)};refine vD ?_;refine vR ?_;cases h102:(w==[115,108,117,103]);rotate_left;{rw[show Zby w=1 from by rw[eq_of_beq h102];rfl];refine vY ?_;(refine vT ?_;try exact trivial)};refine vD ?_;refine vR ?_;cases h103:(w==[108,111,115,101]);rotate_left;{rw[show Zby w=1 from by rw[eq_of_beq h103];rfl];refine vY ?_;(refine vT ?_;try exact trivial)};refine vD ?_;refine vR ?_;cases h104:(w==[115,107,105,112,115]);rotate_left;{rw[show Zby w=1 from by rw[eq_of_beq h104];rfl];refine vY ?_;(refine vT ?_;try exact trivial)};refine vD ?_;refine vR ?_;cases h105:(w==[103,105,118,101,115]);rotate_left;{rw[show Zby w=1 from by rw[eq_of_beq h105];rfl];refine vY ?_;(refine vT ?_;try exact trivial)};refine vD ?_;refine vR ?_;cases h106:(w==[99,104,101,97,112,101,115,116]);rotate_left;{rw[show Zby w=1 from by rw[eq_of_beq h106];rfl];refine vY ?_;(refine vT ?_;try exact trivial)};refine vD ?_;refine vR ?_;cases h107:(w==[119,97,105,116]);rotate_left;{rw[show Zby w=1 from by rw[eq_of_beq h107];rfl];refine vY ?_;(refine vT ?_;try exact trivial)};refine vD ?_;refine vR ?_;cases h108:(w==[97,116]);rotate_left;{rw[show Zby w=1 from by rw[eq_of_beq h108];rfl];refine vY ?_;(refine vT ?_;try exact trivial)};refine vD ?_;refine vR ?_;cases h200:(w==[112,114,101,115,115]);rotate_left;{rw[show Zby w=2 from by rw[eq_of_beq h200];rfl];refine vY ?_;(refine vT ?_;try exact trivial)};refine vD ?_;refine vR ?_;cases h201:(w==[108,97,116,101,115,116]);rotate_left;{rw[show Zby w=2 from by rw[eq_of_beq h201];rfl];refine vY ?_;(refine vT ?_;try exact trivial)};refine vD ?_;refine vR ?_;rw[ZsN (by simp only[Ze3,YaE,Ybr,h000,h001,h002,h003,h004,h005,h006,h007,h008,h009,h010,h100,h101,h102,h103,h104,h105,h106,h107,h108,h200,h201,YbG,YcE])];(refine vT ?_;try exact trivial)
def ZyH(w:List UInt8)(h:Za9 w≠none):Zby w=wM w:=by(unfold Zby wM;cases hw:Za9 w with|none=>exact absurd hw h|some e=>rfl)
def Zf2(s:List UInt8):AV:=match ZaA s with
 |some (w,ns)=> .tup [.c (.str w),.c (Zai ns),.c (.bool true)]
 |none=> .tup [.c (.str []),.c (.raw (.slice none 0 0)),.c (.bool false)]
def Zkn(sep:List UInt8):∀(k:Nat)(s:List UInt8),(Lib.splitK sep 0 k s).length<=k+1
 |0,s=>by simp[Lib.splitK]
 |k+1,s=>by unfold Lib.splitK;split;{simp};{have:=Zkn sep k (s.drop ((Lib.index s sep).toNat+sep.length));simp only[Yo];omega}
def ZuS(s:List UInt8):(Zhm s).length<=s.length+2:=by have h1:=Zkn [32] (Lib.count s [32]) s;have h2:=Lib.count_le s [32];unfold Zhm Lib.split;omega
def Zf9{s:List UInt8}(hs:s.length<=1000):Fq 19 [.c (.str s)] (Zf2 s):=by
 have hm:=vM;obtain⟨w,args,hc⟩:=ZkV s;have hsp:=ZzY hs;rw[hc]at hsp;have hwl:w.length<=1000:=by have:=ZkW (s:=s) (w:=w) (by rw[hc];exact YbJ ..);omega
 refine vE ZFa.h fun C hP hN hC hL=>?_
 simp only[ZFa];refine vR ?_;have h00:(([CD.str w]::args.map fun x=>[CD.str x]).getD (Int.toNat 0) []).getD 0 default=CD.str w:=rfl;(refine Zal (hsp) ?_;simp only[go_sem,hP,Zaw,Yc,Yo,h00];refine vQ ?_;(repeat(refine vV ?_;(try simp only[go_sem,hP,Zaw,Yc,Yo,h00]);refine vQ ?_)));have hlen:args.length<=2000:=by have:=ZuS s;rw[hc,Yo]at this;omega
 have wl:=w64 (n:=(((args.length+1:Nat):Int))-1) Kc Kc;(refine Zal (many38 hwl) ?_;simp only[go_sem,hP,Yc,Yo,wl];refine vQ ?_;(repeat(refine vV ?_;(try simp only[go_sem,hP,Yc,Yo,wl]);refine vQ ?_)));by_cases hbad:Zby w≠(args.length:Int)
 ·have hno:ZaA s = none:=ZeP hc (by
   cases hw:Za9 w with
   |none=>exact .inl rfl
   |some e=>exact .inr (.inl fun h=>hbad (by rw[ZyH w (by rw[hw];simp),h])))
  unfold Zf2;rw[hno];refine vC ?_ ?_<;>intro h
  ·exact vUt
  ·exfalso;simp at h;exact hbad Kc
 ·have hmw:Zby w=(args.length:Int):=Decidable.of_not_not hbad;have hw:∃e,Za9 w=some e:=by
   cases hw:Za9 w with
   |none=>unfold Zby at hmw;rw[hw]at hmw;simp only at hmw;omega
   |some e=>exact⟨e,rfl⟩
  obtain⟨e,hw⟩:=hw;have hem:(args.length:Int)=e.many:=by unfold Zby at hmw;rw[hw]at hmw;exact hmw.symm
  refine vC ?_ ?_<;>intro h
  ·exfalso;simp at h;omega
  clear h;refine vR ?_;refine Zbn 3 38 3 1 Kb Kb rfl rfl ?_;simp only[go_sem];refine ZaE (fun k:Nat=>⟨upd (upd (upd (upd (upd e0 2 (.c (.str []))) 3 (.gr 38)) 4 (.c (.bool false))) 5 (.c (Zaw (w::args)))) 6 (iv ((k:Int)+1)),upd o0 38 (.grow 3 1 (((args.take k).map ZlA).map fun n=>[CD.int .i64 n]))⟩) (fun k=>k<=args.length/\(args.take k).all Zb4=true) (fun k=>args.length-k) 0 ⟨YC _,rfl⟩ ?_ ?_
  ·refine Zaf (by(try simp only[go_sem]);exact vEr) (by(try simp only[go_sem]);exact Zaa)
  rintro k ⟨hk,hr⟩;have w1:((k:Int)+1).toNat=k+1:=by omega
  (repeat(refine vV ?_;(try simp only[go_sem,hP,Zaw,Yc,Yo,w1]);refine vQ ?_))
  refine vC ?_ ?_<;>intro h
  ·have hi:k<args.length:=by simp at h;omega
   clear h;have hg:(([CD.str w]::args.map fun x=>[CD.str x]).getD (k+1) [])=[CD.str (args.getD k [])]:=Zlx hi;have hal:(args.getD k []).length<=1000:=by
    have:args.getD k []∈Zhm s:=by rw[hc,Yb,Yd hi];exact Ya6 _ (Yv hi)
    have:=ZkW this;omega
   have hnum:=ZtK hal;have htk:args.take (k+1)=args.take k++[args.getD k []]:=by rw[Yq hi,Yb,Yd hi];rfl
   have hin:args.getD k []∈args:=by rw[Yb,Yd hi];exact Yv hi
   have hw1:=vw (n:=(k:Int)+1+1);have htl:(args.take k).length=k:=by rw[Y4];omega
   generalize args.getD k []=x at hg hnum htk hin;(repeat(refine vV ?_;(try simp only[go_sem,hP,w1,hg,Yc,Yo]);refine vQ ?_));(refine Zal (hnum) ?_;refine vS ?_)
   cases hx:Zb4 x with
   |true=>
    refine vD ?_;refine vW2 (vA hw1 htl) ?_;refine⟨k+1,⟨Kc,?_⟩,Kc,?_⟩
    ·rw[htk,YcJ,hr];simp[hx]
    ·rw[htk,Yy,Yy];refine Zaf (by simp only[go_sem];exact Zaj) (by simp only[go_sem,Ye,Yg];exact Zaa)
   |false=>
    have hno:ZaA s = none:=ZeP hc (.inr (.inr (by
     cases ha:args.all Zb4 with
     |false=>rfl
     |true=>have:=Yn.1 ha x hin;rw[hx]at this;cases this)))
    unfold Zf2;rw[hno];refine vC ?_ ?_<;>intro h
    ·exact vUt
    ·cases h
  ·have hkl:k=args.length:=by
    have:¬(k<args.length):=by simp at h;omega
    omega
   subst hkl;rw[YL]at hr|-;have hyes:ZaA s=some (w,args.map ZlA):=by
    unfold ZaA;rw[hc];simp only[hw];rw[Yt ⟨hem,hr⟩]
   unfold Zf2;rw[hyes];(repeat(refine vV ?_;(try simp only[go_sem,hP,h00,Yc,Yo]);refine vQ ?_));(refine vT ?_;try exact trivial)
def ZFW:Cz [] 88:=ec
def ZFn:Cz [] 41:=ec
def ZE7:Cz [] 16:=ec
def ZAR{b:Bx}(h:bxB b=true):Ze1 b=true:=by
 simp only[bxB,Yf,Yl]at h;obtain⟨⟨⟨⟨⟨⟨⟨h1,h2⟩,h3⟩,h4⟩,h5⟩,h6⟩,h7⟩,h8⟩:=h;have k4:=ZaI h4;have k5:=ZaI h5;have k6:=ZaI h6;have hmk:∀k,mkK b.fo b.ma k=true->∀i,i<k->b.ma.getD i 0<=b.fo.getD i 0:=by
  intro k;induction k with
  |zero=>intro _ i hi;omega
  |succ k ih=>intro h i hi;simp only[mkK,Yf,Yl]at h;rcases YaG i k with h9|h9;{exact ih h.1 i h9};{(obtain rfl:i=k:=by omega);exact h.2}
 have hmar:∀k,k<=b.fo.length->Zpg b k=true:=by(intro k;induction k with|zero=>intro _;rfl|succ k ih=>intro hk;have a1:=hmk _ h7 k Kc;have a2:=ZaY k5.2 (k:=k) Kc;simp only[Zpg,ih Kc,YV,Zad,Yf,Yl];omega)
 have hsum:∀k,k<=b.fo.length->sumK b.fo b.sl k=((ZbN b).take k).sum/\(b.fo.take k).sum<=sumK b.fo b.sl k/\(b.sl.take k).sum<=sumK b.fo b.sl k:=by
  intro k;induction k with
  |zero=>intro _;simp[sumK]
  |succ k ih=>intro hk;obtain⟨i1,i2,i3⟩:=ih Kc;(have hp:k<(ZbN b).length:=by simp[ZbN,Zgm];omega);have a1:=ZaY k4.2 (k:=k) Kc;have a2:=ZaY k6.2 (k:=k) Kc;rw[Yq hp,Ya4,Yq (l:=b.fo) Kc,Ya4,Yq (l:=b.sl) Kc,Ya4,sumK];simp only[ZbN,Zgm,Ybx,Zbg (l:=b.fo) (k:=k) Kc,Zbg (l:=b.sl) (k:=k) Kc]at a1 a2 i1|-;simp only[YaF,Yc8];omega
 have hpl:(ZbN b).length=b.fo.length:=by simp[ZbN,Zgm];omega
 obtain⟨hs1,hs2,hs3⟩:=hsum b.fo.length (Yi _);rw[YG Kc]at hs1 hs2 hs3;have hput:Zgq b.wh (ZbN b)=true:=by
  unfold Zgq;have e1:((ZbN b).length==b.wh.co.length)=true:=by rw[YaX,hpl,k4.1]
  have e2:(ZbN b).any Zhi=false:=by
   rw[YaU];intro n hn;have h0:∀m∈ZbN b,0<=m:=by intro m hm;obtain⟨i,hi,rfl⟩:=YbS.1 hm;have a1:=ZaY k4.2 (k:=i) Kc;have a2:=ZaY k6.2 (k:=i) Kc;simp only[ZbN,Zgm,Ybx];rw[Zbg Kc]at a1 a2;omega
   have hle:n<=(ZbN b).sum:=by
    clear hs1 hpl e1;revert h0 hn;induction ZbN b with
    |nil=>intro hn;cases hn
    |cons a l ih=>intro hn h0;(have hnn:∀l:List Int,(∀m∈l,0<=m)->0<=l.sum:=by(intro l h;induction l with|nil=>simp|cons a l ih=>simp only[YaF];have:=h a Kd;have:=ih fun m hm=>h m (by simp[hm]);omega));simp only[YaF];rcases YF.1 hn with rfl|hn;{have:=hnn l fun m hm=>h0 m (by simp[hm]);omega};{have:=ih hn (fun m hm=>h0 m (by simp[hm]));have:=h0 a Kd;omega}
   have:=h0 n hn;simp[Zhi,Zad];omega
  rw[e1,e2];rfl
 unfold Ze1 ZiR;rw[h1,h4,h6,h2,h3,hmar _ (Yi _),hput];rw[YaX.2 (show b.ma.length=b.fo.length by rw[k5.1,k4.1]),Yaa (show b.fo.sum<=12 by omega),Yaa (show b.sl.sum<=12 by omega),Yaa (show(ZbN b).sum<=12 by omega)];rfl
def ZAZ(b:Bx):Zuh b=if bxB b then 0 else 50:=by unfold Zuh;(have:Ze1 b=bxB b:=by rw[Yaq];exact⟨ZCJ,ZAR⟩);rw[this]
def Zsx{w:Wh}(hw:-9223372036854775807<=w.ro/\w.ro<=9223372036854775807)(n:Int):Fq 88 [w.av,iv n] (.c (.bool (Zad n 0 (w.ro-1)))):=by have w1:=vw (n:=w.ro-1);refine vE ZFW.h fun C hP hN hC hL=>?_;simp only[ZFW,Wh.av,Wh.avs];refine vW w1 ?_;(refine Zal (Zd3 n 0 (w.ro-1)) ?_;refine vX w1 ?_);(refine vT ?_;try exact trivial)
def Zsy{w:Wh}(hw:-9223372036854775807<=w.ro/\w.ro<=9223372036854775807)(p c:Int):Fq 41 [w.av,.agg [iv p,iv c]] (.c (.bool (Zad p 0 (w.ro-1)&&Zad c 0 20))):=by have h1:=Zsx hw p;simp only[Wh.av,Wh.avs]at h1;refine vE ZFn.h fun C hP hN hC hL=>?_;simp only[ZFn,Wh.av,Wh.avs];refine vR ?_;(refine Zal (h1) ?_;refine vS ?_);(refine ZaV (fun hG=>Zd3 c 0 20) ?_;refine vS ?_);(refine vT ?_;try exact trivial)
def rcheck6(b:Bar):Fq 16 [b.av] (iv (ZeI b)):=by have h1:=check8 b.box;have h2:=rcheck41 b.tray;rw[ZAZ]at h1;refine vE ZE7.h fun C hP hN hC hL=>?_;(simp only[ZE7,Bar.av,Bar.avs];simp only[Bx.av,Bx.avs]at h1;simp only[Tray.av]at h2;refine vR ?_;cases hbx:bxB b.box with|false=>(have e1:ZeI b=120:=by unfold ZeI Za5;rw[hbx];rfl);rw[hbx]at h1;rw[e1];(refine Zal (h1) ?_;refine vS ?_);(refine Zay ?_;refine vS ?_);(refine Zay ?_;refine vS ?_);refine vC ?_ ?_<;>intro h;{exact vUt};{cases h}|true=>rw[hbx]at h1;(refine Zal (h1) ?_;refine vS ?_);(refine ZaV (fun hG=>h2) ?_;refine vS ?_);(have hro:-9223372036854775807<=b.box.wh.ro/\b.box.wh.ro<=9223372036854775807:=by have:=(Zbc hbx).wh.ro;omega);have h3:=Zsy hro b.pl b.cr;simp only[Wh.av,Wh.avs]at h3;(refine ZaV (fun hG=>h3) ?_;refine vS ?_);(have hE:ZeI b=if(b.tray.ok&&(Zad b.pl 0 (b.box.wh.ro-1)&&Zad b.cr 0 20))=true then 0 else 120:=by(have:Za5 b=(b.tray.ok&&(Zad b.pl 0 (b.box.wh.ro-1)&&Zad b.cr 0 20)):=by unfold Za5;rw[hbx,YV];congr 1;rw[Yaq];simp only[Zad,Yf,Yl];omega);unfold ZeI;rw[this]);rw[hE];cases ht:b.tray.ok<;>cases hw:(Zad b.pl 0 (b.box.wh.ro-1)&&Zad b.cr 0 20);(all_goals refine vC ?_ ?_<;>intro h);all_goals(first|exact absurd h Kb|((refine vU ?_;try exact trivial);done)))
def ZFT:Cz [] 85:=ec [(2,3584,[.b [1,2,5,6] [.b [0] [.l [3,4,7,8,9,10,11],.l [4,3,7,8,9,10,11]],.l [4,0,3,7,8,9,10,11]]])]
def ir39:Cz [] 39:=ec [(1,768,[])]
def ZFk:Cz [] 37:=ec [(3,258048,[.b [0,2,4] [.b [1,6,7] [.b [3] [.l [5,8,9,10,11,12,13,14,15,16,17],.b [8,9,10] [.l [5,11,12,13,14,15,16,17],.l [11,5,12,13,14,15,16,17]]],.b [5] [.l [3,8,9,10,11,12,13,14,15,16,17],.l [8,3,9,10,11,12,13,14,15,16,17]],.b [8] [.b [3,9,10] [.l [5,11,12,13,14,15,16,17],.l [11,5,12,13,14,15,16,17]],.l [5,3,9,10,11,12,13,14,15,16,17]]],.b [3] [.b [1,6,7] [.l [5,8,9,10,11,12,13,14,15,16,17],.b [8,9,10] [.l [5,11,12,13,14,15,16,17],.l [11,5,12,13,14,15,16,17]]],.l [5,1,6,7,8,9,10,11,12,13,14,15,16,17]],.b [5] [.b [1,6,7] [.l [3,8,9,10,11,12,13,14,15,16,17],.l [8,3,9,10,11,12,13,14,15,16,17]],.l [3,1,6,7,8,9,10,11,12,13,14,15,16,17]]]])]
def copy29(t:Tray)(hn:t.recs.length<=1000)(hp:t.pres.length<=1000):Fq 85 [t.av] t.av:=by
 have hmax:=vM;refine vE ZFT.h fun C hP hN hC hL=>?_;simp only[ZFT,Tray.av];refine vR ?_;(refine ZaS ?_;simp only[go_sem,hP,ZaT,Zbb,Zf7,ZdX,YM,YI,Yc];(repeat'(refine And.intro ?_ ?_)));all_goals try omega
 all_goals
  (repeat(refine vV ?_;(try simp only[go_sem,hP,ZaT,Zbb,Zf7,ZdX,YM,YI,Yc]);refine vQ ?_))
  (refine vT ?_;try exact trivial)
def Zw6{b:Bar}(hb:BarLn b):Fq 39 [b.av] b.av:=by have h1:=copy10 hb.no hb.co hb.fo hb.ma hb.sl;have h2:=copy29 b.tray hb.rc hb.pr;simp only[Bx.av,Bx.avs]at h1;simp only[Tray.av]at h2;refine vE ir39.h fun C hP hN hC hL=>?_;simp only[ir39,Bar.av,Bar.avs];refine vR ?_;(refine ZaM (h1) rfl rfl rfl rfl rfl ?_;refine vS ?_);(refine ZaM (h2) rfl rfl rfl rfl rfl ?_;refine vS ?_);(refine vT ?_;try exact trivial)
def ZaR(b:Bar):Bar:={b with box:={b.box with fo:=List.replicate b.box.wh.co.length 0,ma:=List.replicate b.box.wh.co.length 0,sl:=List.replicate b.box.wh.co.length 0,pl:=0},pl:=0,cr:=0}
def ZvJ(n:Nat):(List.replicate n [AV.c (CD.int .i64 0)]).flatten=Zac zc (List.replicate n 0) 0:=by
 unfold Zac Za4;induction n with
 |zero=>rfl
 |succ n ih=>simp only[YP,Ye,YaC,List.replicate_zero,Yas,zc,Yy,Yg]at ih|-;rw[ih]
def emptied8{b:Bar}(hb:BarLn b):Fq 37 [b.av] (ZaR b).av:=by have hmax:=vM;have hco:=hb.co;have h1:=Zw6 hb;simp only[Bar.av,Bar.avs]at h1;refine vE ZFk.h fun C hP hN hC hL=>?_;simp only[ZFk,Bar.av,Bar.avs];refine vR0 ?_;(refine Zal (h1) ?_;refine vS0 ?_);obtain⟨n,hn⟩:∃n,n=b.box.wh.co.length:=⟨_,rfl⟩;rw[<-hn]at hco;refine ZcB (fun σ'=>Sub σ' ⟨upd (upd e0 2 (.bp 2 0)) 3 (.bp 3 0),upd (upd (upd (upd (upd o0 2 (.box ZwK)) 13 (.box (Zac zc (List.replicate n 0) 0))) 15 (.box (Zac zc (List.replicate n 0) 0))) 17 (.box (Zac zc (List.replicate n 0) 0))) 3 (.box [iv b.box.wh.ro,.c (Zai b.box.wh.no),.c (Zai b.box.wh.co),.vw 1 13 0 n n,.vw 1 15 0 n n,.vw 1 17 0 n n,iv 0,iv b.box.sk,iv b.pl,iv b.cr,.c (ZaT b.tray.recs),iv b.tray.at_,iv b.tray.way,iv b.tray.step,.c (Zbb b.tray.pres)])⟩) ?_ ?_;{refine ZaS ?_;simp only[go_sem,hP];(repeat'(refine And.intro ?_ ?_));(all_goals first|omega|skip);all_goals(refine Zaf (by simp only[go_sem];exact vEr) (by unfold ZwK Zai;simp only[go_sem,ZvJ,Yr,<-hn];exact Zaa))};{intro σ' hs;refine Zav hs ?_;unfold ZwK;refine vR ?_;have hl:(List.replicate n (0:Int)).length=n:=Ybe;have hf:=Zdd (List.replicate n 0);have hg:=Zdc (List.replicate n 0);rw[hl]at hf hg;refine ZcM 13 (ds:=Za4 zc (List.replicate n 0)) (junk:=List.replicate 0 .non) rfl ?_;simp only[go_sem,hf,Yi,hg,frz_cellsG];refine ZcM 15 (ds:=Za4 zc (List.replicate n 0)) (junk:=List.replicate 0 .non) rfl ?_;simp only[go_sem,hf,Yi,hg,frz_cellsG];refine ZcM 17 (ds:=Za4 zc (List.replicate n 0)) (junk:=List.replicate 0 .non) rfl ?_;simp only[go_sem,hf,Yi,hg,frz_cellsG];(refine Zas ?_;simp only[Zaz,inQ,ZfE,Zcb,Zaq,ZbJ];simp only[go_sem,Zbu,AV.port,AV.portL,YU,ZaR,Zai,<-hn];(first|exact AVle.of rfl|refine AVle.of ?_|skip))}
def ZF0:Cz [] 99:=ec
def ZFt:Cz [] 53:=ec
def ZeC{l:List Int}(h:∀n∈l,0<=n/\n<=12):∀k,k<=l.length->0<=(l.take k).sum/\(l.take k).sum<=12*k
 |0,_=>by simp
 |k+1,hk=>by have ih:=ZeC h k Kc;have hl:l[k]'Kc∈l:=Yv _;have:=h _ hl;rw[Yq Kc,Ya4,YaF,Yc8];omega
def ZpB{l:List Int}{k:Nat}(h:k<l.length):(l.take (k+1)).sum=(l.take k).sum+l.getD k 0:=by rw[Yq h,Ya4,Yb,Yd h];simp
def ZeY(b:Bx):Int:=b.fo.sum+b.sl.sum
def ZCm{b:Bx}(hb:BxOk b):Fq 99 [b.av] (iv (ZeY b)):=by have hm:=vM;have hcl:=hb.wh.cl;have hfl:=hb.fl;have hsl:=hb.sl;refine vE ZF0.h fun C hP hN hC hL=>?_;simp only[ZF0,Bx.av,Bx.avs];refine vR ?_;refine ZaE (fun k:Nat=>⟨upd (upd (upd (upd e0 1 (.bp 1 0)) 2 (iv 0)) 3 (iv (b.fo.take k).sum)) 4 (iv k),upd o0 1 (.box b.avs)⟩) (fun k=>k<=b.fo.length) (fun k=>b.fo.length-k) 0 (YC _) ?_ ?_;{refine Zaf (by simp only[go_sem];exact vEr) (by unfold Bx.avs;simp only[go_sem];exact Zaa)};intro k hk;unfold Bx.avs;have hbd:=ZeC hb.fo k hk;refine vR0 ?_;refine vC ?_ ?_<;>intro h;{(have hi:k<b.fo.length:=by simpa using h);have hg:=Zau hi;have hw:=vw (n:=(k:Int)+1);have hx:=ZaY hb.fo hi;have hsn:=ZpB hi;have hw2:=vw (n:=(b.fo.take k).sum+b.fo.getD k 0);refine vW1 (vA hg (vA hw hw2)) ?_;refine⟨k+1,Kc,Kc,?_⟩;rw[hsn];refine Zaf (by simp only[go_sem,hw2];exact vEr) (by simp only[go_sem];exact Zaa)};{(have hkl:k=b.fo.length:=by(have:¬(k<b.fo.length):=by simpa using h);omega);subst hkl;rw[YL]at hbd|-;refine vR ?_;refine ZaE (fun k:Nat=>⟨upd (upd (upd (upd e0 1 (.bp 1 0)) 2 (iv 0)) 3 (iv (b.fo.sum+(b.sl.take k).sum))) 5 (iv k),upd o0 1 (.box b.avs)⟩) (fun k=>k<=b.sl.length) (fun k=>b.sl.length-k) 0 (YC _) ?_ ?_;{refine Zaf (by simp only[go_sem];simp only[Yaz,Yc8,YcK];exact vEr) (by unfold Bx.avs Zai;simp only[go_sem];exact Zaa)};intro k hk;unfold Bx.avs;have hbs:=ZeC hb.sn k hk;refine vR0 ?_;refine vC ?_ ?_<;>intro h;{(have hi:k<b.sl.length:=by simpa using h);have hg:=Zau hi;have hw:=vw (n:=(k:Int)+1);have hx:=ZaY hb.sn hi;have hsn:=ZpB hi;have hw2:=vw (n:=b.fo.sum+(b.sl.take k).sum+b.sl.getD k 0);refine vW1 (vA hg (vA hw hw2)) ?_;refine⟨k+1,Kc,Kc,?_⟩;rw[hsn,<-Int.add_assoc];refine Zaf (by simp only[go_sem,hw2];exact vEr) (by simp only[go_sem];exact Zaa)};{(have hkl:k=b.sl.length:=by(have:¬(k<b.sl.length):=by simpa using h);omega);subst hkl;rw[YL];(refine vU ?_;try exact trivial)}}
def ZcA:List UInt8:=[108,97,116,101,115,116]
def Zws:List UInt8:=[115,111,111,110,101,115,116]
def Zz6(s:List UInt8):Bool:=match ZaA s with
 |some (w,ns)=>(w==ZcA)&&decide (400<ns.getD 1 0)&&decide (ns.getD 1 0<=9999)
 |none=>false
def ZoZ(s:List UInt8):Bool:=match ZaA s with
 |some (w,ns)=>(w==ZcA)&&decide (400<ns.getD 1 0)&&decide (ns.getD 1 0<=9999)||(w==Zws)
 |none=>false
def ZmB{s w:List UInt8}{ns:List Int}(h:ZaA s=some (w,ns)):(ns.length:Int)=Zby w:=by unfold ZaA at h;split at h;{cases h};{split at h;{cases h};{rename_i e he;split at h;{rename_i hc;cases h;unfold Zby;rw[he,Yc];exact hc.1};{cases h}}}
def gd0:(([]:List (List CD)).getD 1 []).getD 0 default=CD.sl 1 []:=rfl
def gd1(a:List CD):([a].getD 1 []).getD 0 default=CD.sl 1 []:=rfl
def gd2(a c:List CD)(l:List (List CD)):(a::c::l).getD 1 []=c:=rfl
def Zyp{s:List UInt8}(hs:s.length<=1000):Fq 53 [.c (.str s)] (.c (.bool (ZoZ s))):=by
 have hm:=vM;have hp:=Zf9 hs;unfold Zf2 at hp;unfold ZoZ;refine vE ZFt.h fun C hP hN hC hL=>?_
 simp only[ZFt];refine vR ?_;cases h:ZaA s with
 |none=>
  rw[h]at hp;(refine Zal (hp) ?_;refine vS ?_);(refine vT ?_;try exact trivial)
 |some wn=>
  obtain⟨w,ns⟩:=wn;rw[h]at hp;have hl:=ZmB h;simp only at hp|-;have h2:(w==ZcA)=true->1<ns.length:=fun h=>by
   rw[eq_of_beq h]at hl;have:Zby ZcA=2:=rfl;omega
  cases hw:(w==ZcA)with
  |true=>
   have hl2:=h2 hw;have hg:=Zau hl2;unfold ZcA at hw;generalize ns.getD 1 0=x at hg;(refine Zal (hp) ?_;simp only[go_sem,hP,Zai,Yc,hg,hw,Ybh];refine vQ ?_;(repeat(refine vV ?_;(try simp only[go_sem,hP,Zai,Yc,hg,hw,Ybh]);refine vQ ?_)));(refine vT ?_;try exact trivial)
  |false=>
   unfold ZcA at hw;rcases ns with _|⟨a,_|⟨c,r⟩⟩
   all_goals(
    (refine Zal (hp) ?_;simp only[go_sem,hP,Zai,hw,Ye,Yg,Ybh,gd0,gd1,gd2];refine vQ ?_;(repeat(refine vV ?_;(try simp only[go_sem,hP,Zai,hw,Ye,Yg,Ybh,gd0,gd1,gd2]);refine vQ ?_)))
    (refine vT ?_;try exact trivial))
def ZFu:Cz [] 54:=ec
def ZnM:List UInt8:=[109,97,114,107]
def ZmX:List UInt8:=[115,108,117,103]
def Zln(s:List UInt8):Bool:=match ZaA s with
 |some (w,_)=>(w==Zmb)||(w==ZnM)||(w==ZmX)
 |none=>false
def Zkg(l:List (List UInt8)):Int:=(l.countP Zln:Nat)
def Ztt{l:List (List UInt8)}{k:Nat}(h:k<l.length):Zkg (l.take (k+1))=Zkg (l.take k)+if Zln (l.getD k [])=true then 1 else 0:=by unfold Zkg;rw[Yq h,List.countP_append,Yb,Yd h];simp only[YbZ,List.countP_nil,YaT];split<;>omega
def Zzd(l:List (List UInt8))(k:Nat):0<=Zkg (l.take k)/\Zkg (l.take k)<=l.length:=by unfold Zkg;have:=List.countP_le_length (p:=Zln) (l:=l.take k);rw[Y4]at this;omega
def ZqN(b:Bar)(l:List (List UInt8)):Bool:=Za5 b&&(decide (4<ZeY b.box+Zkg l)||decide ((3:Int)<b.box.fo.length))
def ZCK(b:Bar){l:List (List UInt8)}(hl:l.length<=60)(hs:∀s∈l,s.length<=1000):Fq 54 [b.av,.c (Zaw l)] (.c (.bool (ZqN b l))):=by
 have hm:=vM;have hck:=rcheck6 b;simp only[Bar.av,Bar.avs]at hck;refine vE ZFu.h fun C hP hN hC hL=>?_
 simp only[ZFu,Bar.av,Bar.avs];refine vR ?_;(refine Zal (hck) ?_;refine vS ?_);unfold ZqN ZeI;cases hB:Za5 b with
 |false=>
  refine vC ?_ ?_<;>intro h
  ·exact vUt
  ·cases h
 |true=>
  have hbx:bxB b.box=true:=by unfold Za5 at hB;simp only[Yf]at hB;exact hB.1
  have hok:=Zbc hbx;have hmb:=ZCm hok;have s1:=ZeC hok.fo b.box.fo.length (Yi _);have s2:=ZeC hok.sn b.box.sl.length (Yi _);rw[YL]at s1 s2;have hcl:=hok.wh.cl;have hfl:=hok.fl;have hsl:=hok.sl;have hmn:0<=ZeY b.box/\ZeY b.box<=1000:=by unfold ZeY;omega
  simp only[Bx.av,Bx.avs]at hmb;refine vD ?_;refine vR ?_;(refine Zal (hmb) ?_;refine vS ?_);generalize ZeY b.box=mb at hmn;refine ZaE (fun k:Nat=>⟨upd (upd (upd (upd (upd e0 1 (.c (Zaw l))) 2 (.bp 2 0)) 4 (.c (.bool false))) 5 (iv (mb+Zkg (l.take k)))) 6 (iv k),upd o0 2 (.box b.avs)⟩) (fun k=>k<=l.length) (fun k=>l.length-k) 0 (YC _) ?_ ?_
  ·refine Zaf (by(try simp only[go_sem]);(refine vEz ?_;first|trivial|exact AWk.of (by unfold Zkg;simp))) (by unfold Bar.avs;(try simp only[go_sem]);exact Zaa)
  intro k hk;have hpn:=Zzd l k;unfold Bar.avs;refine vR2 ?_;refine vC ?_ ?_<;>intro h
  ·have hi:k<l.length:=by simpa using h
   clear h;have hg:=Zd1 hi;have hsn:=Ztt hi;have hw:=vw (n:=(k:Int)+1);have hin:l.getD k []∈l:=by rw[Yb,Yd hi];exact Yv hi
   generalize l.getD k []=s at hg hsn hin;have hp:=Zf9 (hs s hin);have hw2:=vw (n:=mb+Zkg (l.take k)+1);unfold Zf2 at hp;unfold Zln at hsn;generalize Zkg (l.take k)=pn at*;refine vW1 hg ?_;cases hps:ZaA s with
   |none=>
    rw[hps]at hp hsn;(refine Zal (hp) ?_;refine vS ?_);refine vC ?_ ?_<;>intro h
    ·cases h
    refine vW hw ?_;refine⟨k+1,Kc,Kc,?_⟩;rw[hsn];refine Zaf (by simp only[go_sem];exact Zaj) (by simp only[go_sem];exact Zaa)
   |some wn=>
    obtain⟨w,ns⟩:=wn;rw[hps]at hp hsn;simp only at hp hsn;unfold Zmb ZnM ZmX at hsn;refine Zal hp ?_;cases h1:(w==[99,111,105,110])<;>cases h2:(w==[109,97,114,107])<;>cases h3:(w==[115,108,117,103])
    all_goals(
     simp only[h1,h2,h3,YcX,Bool.or_true,Bool.or_false,Bool.or_self,YJ,Yp,YA,YcK]at hsn;refine vN ?_;refine vW (vA h1 (vA h2 h3)) ?_;refine Zcy rfl (fun h=>?_) (fun h=>?_))
    all_goals(first|exact absurd h Kb|skip)
    all_goals(
     refine vW (vA hw hw2) ?_;refine⟨k+1,Kc,Kc,?_⟩;first|rw[hsn,<-Int.add_assoc]|rw[hsn]
     refine Zaf (by simp only[go_sem];exact Zaj) (by simp only[go_sem];exact Zaa))
  ·have hkl:k=l.length:=by
    have:¬(k<l.length):=by simpa using h
    omega
   subst hkl;rw[YL]at hpn|-;refine vR0 ?_;(refine vT ?_;try exact trivial)
def ZE6:Cz [] 15:=ec
def Zgy(b:Bar)(l:List (List UInt8)):Bool:=ZDe b.tray||decide ((60:Int)<l.length)||decide ((40:Int)<b.box.fo.length)||decide ((40:Int)<b.box.ma.length)||decide ((40:Int)<b.box.sl.length)||decide ((40:Int)<b.box.wh.no.length)||decide ((40:Int)<b.box.wh.co.length)
def ZqX(b:Bar)(s:List UInt8):Bool:=decide ((200:Int)<s.length)||(ZoZ s&&decide ((4:Int)<b.tray.recs.length))||Zz6 s
def Zsa(b:Bar)(l:List (List UInt8)):Bool:=Zgy b l||(l.any (ZqX b)||ZqN b l)
def Zuz{α:Type}(p:α->Bool){l:List α}{k:Nat}(h:k<l.length)(d:α):(l.take (k+1)).any p=((l.take k).any p||p (l.getD k d)):=by rw[Yq h,List.any_append,Yb,Yd h];simp
def far5(b:Bar)(l:List (List UInt8)):Fq 15 [b.av,.c (Zaw l)] (.c (.bool (Zsa b l))):=by
 have hm:=vM;have hf:=ZDJ b.tray;simp only[Tray.av]at hf;refine vE ZE6.h fun C hP hN hC hL=>?_
 simp only[ZE6,Bar.av,Bar.avs];refine vR ?_;(refine Zal (hf) ?_;simp only[go_sem,hP,Zaw,Zai,Yc];refine vQ ?_;(repeat(refine vV ?_;(try simp only[go_sem,hP,Zaw,Zai,Yc]);refine vQ ?_)));refine Zav (σ':=⟨upd (upd (upd (upd e0 1 (.c (Zaw l))) 2 (.bp 2 0)) 4 (.c (.bool false))) 53 (.c (.bool (Zgy b l))),upd o0 2 (.box b.avs)⟩) (Zaf (by(try simp only[go_sem]);exact vEr) (by unfold Bar.avs;(try simp only[go_sem]);exact Zaa)) ?_;unfold Zsa;cases hh:Zgy b l with
 |true=>
  refine vC ?_ ?_<;>intro h
  ·exact vUt
  ·cases h
 |false=>
  have hl:l.length<=60:=by
   unfold Zgy at hh;simp only[Ybw,Yax]at hh;omega
  have hrc:b.tray.recs.length<=40:=by
   unfold Zgy ZDe at hh;simp only[Ybw,Yax]at hh;have:=hh.1.1.1.1.1.1.1;unfold Tray.n at this;omega
  refine vD ?_;refine vR ?_;refine ZaE (fun k:Nat=>⟨upd (upd (upd (upd e0 1 (.c (Zaw l))) 2 (.bp 2 0)) 4 (.c (.bool false))) 5 (iv k),upd o0 2 (.box b.avs)⟩) (fun k=>k<=l.length/\(l.take k).any (ZqX b)=false) (fun k=>l.length-k) 0 ⟨YC _,rfl⟩ ?_ ?_
  ·refine Zaf (by(try simp only[go_sem]);exact vEr) (by unfold Bar.avs;(try simp only[go_sem]);exact Zaa)
  rintro k ⟨hk,hr⟩;unfold Bar.avs;refine vR2 ?_;refine vC ?_ ?_<;>intro h
  ·have hi:k<l.length:=by simpa using h
   clear h;have hg:=Zd1 hi;have hsn:=Zuz (ZqX b) hi [];rw[hr,Ybp]at hsn;have hw0:=vw (n:=(k:Int)+1);have hin:l.getD k []∈l:=by rw[Yb,Yd hi];exact Yv hi
   have hfar:ZqX b (l.getD k [])=true->(l.any (ZqX b)||ZqN b l)=true:=fun h=>by
    rw[Ybn.2 ⟨_,hin,h⟩];rfl
   generalize l.getD k []=s at hg hsn hin hfar;refine vW1 hg ?_;by_cases hs:s.length<=200
   ·have hhv:=Zyp (s:=s) Kc;have hs':decide ((200:Int)<s.length)=false:=YaL Kc;rw[hs'];(refine ZaV (fun hG=>hhv) ?_;refine vX3 trivial ?_);refine Zav (σ':=⟨upd (upd (upd (upd (upd e0 1 (.c (Zaw l))) 2 (.bp 2 0)) 4 (.c (.bool false))) 5 (iv k)) 79 (.c (.bool (ZoZ s&&decide ((4:Int)<b.tray.recs.length)))),upd o0 2 (.box b.avs)⟩) (Zaf (by(try simp only[go_sem]);exact vEr) (by unfold Bar.avs;(try simp only[go_sem]);exact Zaa)) ?_;refine vC ?_ ?_<;>intro h
    ·rw[hfar (by unfold ZqX;rw[h];simp)];exact vUt
    ·have hlat:ZqX b s=Zz6 s:=by unfold ZqX;rw[hs',h];rfl
     rw[hlat]at hsn hfar;clear h;have hp:=Zf9 (s:=s) Kc;unfold Zf2 at hp;unfold Bar.avs;(repeat(refine vV ?_;(try simp only[go_sem,hP,Zaw,hg,Yc,Yr]);refine vQ ?_));cases hps:ZaA s with
     |none=>
      have hlb:Zz6 s=false:=by unfold Zz6;rw[hps]
      rw[hps]at hp;(refine Zal (hp) ?_;refine vS ?_);refine Zcy rfl (fun h=>?_) (fun h=>?_)
      ·cases h
      refine vW hw0 ?_;refine⟨k+1,⟨Kc,hsn.trans hlb⟩,Kc,?_⟩;refine Zaf (by simp only[go_sem];exact vEr) (by simp only[go_sem];exact Zaa)
     |some wn=>
      obtain⟨w,ns⟩:=wn;have hl:=ZmB hps;have hlb:Zz6 s=((w==ZcA)&&decide (400<ns.getD 1 0)&&decide (ns.getD 1 0<=9999)):=by unfold Zz6;rw[hps]
      rw[hps]at hp;simp only at hp;cases hw:(w==ZcA)with
      |true=>
       have hl2:1<ns.length:=by
        rw[eq_of_beq hw]at hl;have:Zby ZcA=2:=rfl;omega
       have hgn:=Zau hl2;rw[hw]at hlb;unfold ZcA at hw;generalize ns.getD 1 0=x at hgn hlb;(refine Zal (hp) ?_;simp only[go_sem,hP,Zai,Yc,hgn,hw,Ybh];refine vQ ?_;(repeat(refine vV ?_;(try simp only[go_sem,hP,Zai,Yc,hgn,hw,Ybh]);refine vQ ?_)));rw[YV]at hlb;refine Zcy rfl (fun h=>?_) (fun h=>?_)
       ·rw[hfar (hlb.trans h)];exact vUt
       ·rw[h]at hlb;refine vW hw0 ?_;refine⟨k+1,⟨Kc,hsn.trans hlb⟩,Kc,?_⟩;refine Zaf (by simp only[go_sem];exact vEr) (by simp only[go_sem];exact Zaa)
      |false=>
       rw[hw]at hlb;unfold ZcA at hw;rcases ns with _|⟨a,_|⟨c,r⟩⟩
       all_goals(
        (refine Zal (hp) ?_;simp only[go_sem,hP,Zai,hw,Ye,Yg,Ybh,gd0,gd1,gd2];refine vQ ?_;(repeat(refine vV ?_;(try simp only[go_sem,hP,Zai,hw,Ye,Yg,Ybh,gd0,gd1,gd2]);refine vQ ?_))))
       all_goals(
        refine Zcy rfl (fun h=>?_) (fun h=>?_)
        ·cases h
        refine vW hw0 ?_;refine⟨k+1,⟨Kc,hsn.trans hlb⟩,Kc,?_⟩;refine Zaf (by simp only[go_sem];exact vEr) (by simp only[go_sem];exact Zaa))
   ·have hs':decide ((200:Int)<s.length)=true:=Yaa Kc;have hft:ZqX b s=true:=by unfold ZqX;rw[hs'];rfl
    rw[hs',hfar hft];(refine Zay ?_;refine vS ?_);refine vC ?_ ?_<;>intro h
    ·exact vUt
    ·cases h
  ·have hkl:k=l.length:=by
    have:¬(k<l.length):=by simpa using h
    omega
   subst hkl;rw[YL]at hr;have hs:∀s∈l,s.length<=1000:=fun s hs=>by
    have:=YaU.1 hr s hs;unfold ZqX at this;simp at this;omega
   have hrich:=ZCK b hl hs;simp only[Bar.av,Bar.avs,Zaw]at hrich;rw[hr,Ybp];refine vR ?_;(refine Zal (hrich) ?_;refine vS ?_);(refine vT ?_;try exact trivial)
def ZBu:Cz [] 111:=ec [(1,1966080,[])]
def ZBK:Cz [] 142:=ec [(0,786559,[]),(1,6144,[])]
abbrev ZAp:List Nat:=[0]
def ZBL:Cz [] 143:=ec
def ZBW:Cz [] 170:=ec
abbrev ZAv:List Nat:=[0,1,7]
def ZBM:Cz [] 144:=ec
def bcd(b:Bool):List CD:=[.bool b]
def Zgt(b:Bool):(bcd b).length=1:=rfl
def Zc5(t:Tray)(s:Cs):List AV:=[.c (ZaT t.recs),iv t.at_,iv t.way,iv t.step,.c (Zbb t.pres),.c (Zbb s.q),.vw 1 1001 0 (2*t.n) (2*t.n),iv s.now,iv s.at_,iv (wayI s.up),iv s.side,.gr 1002,.gr 1003,iv s.steps,iv s.end_]
def ZbT(t:Tray)(s:Cs):List Ob:=[.box (Zc5 t s),.box (Zac bcd s.pins 0),.grow 129 4 (s.spells.map Sp.cds),.grow 121 2 (s.plays.map Pr.cds)]
def Zwt(l:List Sp):((l.map Sp.cds).all fun e=>e.length==4)=true:=by rw[Yn];intro e he;obtain⟨n,_,rfl⟩:=Ys.1 he;rfl
def Znq(t:Tray)(s:Cs):(ZaX (ZbT t s) [] 1002).isPlace=false:=rfl
def Znr(t:Tray)(s:Cs):(ZaX (ZbT t s) [] 1003).isPlace=false:=rfl
def mark71(t:Tray)(s:Cs)(side:Int)(h1:s.spells.length<=5000):
  Fl 111 [.bp 1000 0,iv side] (ZbT t s) [] (fun res l'=>res= .tup []/\l'=ZbT t (s.mark side)):=by have hmax:=vM;have hs4:=Zwt s.spells;refine Zdq ZBu.h (by first|simp|exact YT rfl) (Yi _) Kb Kb fun C hP hN hC hpin hL=>?_;rw[Zbm,ZdU (by first|simp|exact YT rfl)];simp only[ZBu,Zbj,ZaB,Yg,Ye,Nat.reduceAdd,ZbT,Zc5];refine ZkD ?_;(repeat(refine vV ?_;(try simp only[go_sem,hP,hs4,Yw,Yc]);refine vQ ?_));refine⟨_,fun a w hg=>ZeF (d:=25) (n:=1002) Kb (fun h=>by have:=hpin 1002 h;rw[Znq]at this;cases this) rfl hg,?_⟩;simp only[go_sem];(refine vM1 ?_;refine⟨_,ZbT t (s.mark side),rfl,Zab rfl rfl ?_ ?_ rfl,?_⟩);{simp only[go_sem,Zag,Ob.keepP,AV.keepP,AV.keepPL,ZbT,Zc5,Cs.mark,Yy,Sp.cds]};{simp only[go_sem,ZbL]};{exact⟨rfl,rfl⟩}
def Zvb(v:Bool):List Bool->Int->Int
 |[],_=> -1
 |b::l,k=>if v==b then k else Zvb v l (k+1)
def Zo2:∀(l:List Bool)(k:Int),0<=k->decide (0<=Zvb true l k)= !(l.all (!·))
 |[],k,_=>rfl
 |b::l,k,hk=>by cases b;{have e:Zvb true (false::l) k=Zvb true l (k+1):=rfl;rw[e,Zo2 l (k+1) Kc];rfl};{have e:Zvb true (true::l) k=k:=rfl;rw[e];simp;omega}
def Zyu(l:List Bool)(v:Bool)(hl:l.length<=1000):Fq 170 [.c (.sl 1 (l.map bcd)),bv v] (iv (Zvb v l 0)):=by refine vE ZBW.h fun C hP hN hC hL=>?_;simp only[ZBW];refine vR4 ?_;(refine Zam ZAv [] (fun k:Nat=>k<=l.length/\Zvb v l 0=Zvb v (l.drop k) k) (fun k=>l.length-k) (fun k=>[(8,iv k)]) (fun _=>[]) 0 ⟨YC _,rfl⟩ ?_ ?_);{exact Zak};{intro k ⟨hk,hx⟩;simp only[go_sem];refine vR ?_;refine vC ?_ ?_<;>intro h;{(have h:k<l.length:=by simpa using h);(have hI:(k:Int)<(l.length:Int):=by omega);have hw2:=vw (n:=(k:Int)+1);rw[Yan h]at hx;simp only[Zvb]at hx;(repeat(refine vV ?_;(try simp only[go_sem,hP,Zax h,hI,Yc,bcd]);refine vQ ?_));cases hb:(v==l[k]);{rw[hb]at hx;refine vC ?_ ?_<;>intro h;{simp at h};{refine vW hw2 ?_;refine⟨k+1,⟨Kc,by rw[hx];rfl⟩,Kc,?_⟩;exact Zak}};{rw[hb]at hx;refine vC ?_ ?_<;>intro h;{(refine vU ?_;try exact trivial);rw[hx];rfl};{simp at h}}};{(have h:k=l.length:=by simp at h;omega);subst h;(refine vU ?_;try exact trivial);rw[hx,Ycv];rfl}}
def Zqd(l:List Bool)(hl:l.length<=1000):Fq 143 [.c (.sl 1 (l.map bcd)),bv true] (bv (!(l.all (!·)))):=by refine vE ZBL.h fun C hP hN hC hL=>?_;simp only[ZBL];refine vR ?_;(refine Zal (Zyu l true hl) ?_;refine vS ?_);(refine vT ?_;try exact trivial);exact congrArg (fun b=>AV.c (CD.bool b)) (Zo2 l 0 (Yar _))
def ZCl{t:Tray}(ht:TrayOk t)(s:Nat)(hs:s<2*t.n):Fq 144 [t.av,iv s] (iv (Zi9 t s)):=by have hn6:=ht.n6;(have e1:((s:Int)).tmod 2=((s % 2:Nat):Int):=by rw[Ybm Kc];omega);(have e2:((s:Int)).tdiv 2=((s/2:Nat):Int):=by rw[Ybl Kc];omega);(have hk:s/2<t.recs.length:=by show s/2<t.n;omega);(have hI:((s/2:Nat):Int)<(t.recs.length:Int):=by omega);have w1:=vw (n:=((s/2:Nat):Int));(have hrc:t.rc (s/2)=t.recs[s/2]:=by unfold Tray.rc;simp[hk]);refine vE ZBM.h fun C hP hN hC hL=>?_;simp only[ZBM,Tray.av];refine vW e1 ?_;refine vC ?_ ?_<;>intro h;{(have h:s % 2=0:=by simp at h;omega);(repeat(refine vV ?_;(try simp only[go_sem,hP,e2,w1,ZaT,Yc,hI,Zax hk,Rec.cds,YB]);refine vQ ?_));(refine vT ?_;try exact trivial);rw[Zi9,Yt h,hrc]};{(have h:¬s % 2=0:=by simp at h;omega);(repeat(refine vV ?_;(try simp only[go_sem,hP,e2,w1,ZaT,Yc,hI,Zax hk,Rec.cds,YB]);refine vQ ?_));(refine vT ?_;try exact trivial);rw[Zi9,Yx h,hrc]}
def press81{t:Tray}(ht:TrayOk t){s:Cs}(hs:CsOk t s)(hq:s.q.length<=1000):
  Fl 142 [.bp 1000 0] (ZbT t s) [] (fun res l'=>res= .tup []/\l'=ZbT t s.press):=by
 have hn6:=ht.n6;have hp:=hs.pins;have hqo:=hs.q;refine vF ZBK.h fun C hP hN hC hL=>?_;simp only[ZBK,Zbj,ZaB,Yg,Ye,Nat.reduceAdd,ZbT,Zc5]
 refine vR ?_;refine Zam ZAp [1000,1001] (fun p:List Pr×List Bool=>p.1.length<=1000/\p.2.length=2*t.n/\(∀x∈p.1,0<=x.side/\x.side<2*(t.n:Int))/\ZaZ s.now s.q s.pins=ZaZ s.now p.1 p.2) (fun p=>p.1.length) (fun _=>[])
  (fun p=>[(1000,.box (Zc5 t {s with q:=p.1,pins:=p.2})),(1001,.box (Zac bcd p.2 0))]) (s.q,s.pins) ⟨hq,hp,fun x hx=>(hqo x hx).1,rfl⟩ ?_ ?_
 {simp only[Zc5];exact Zak};{(rintro⟨q,pins⟩ ⟨hl,hpl,hqs,hpq⟩;simp only at hl hpl hqs hpq;simp only[go_sem,Zc5];cases q with|nil=>(repeat(refine vV ?_;(try simp only[go_sem,hP,Zbb,Yg,YI,YbY]);refine vQ ?_));refine vC ?_ ?_<;>intro h;{simp at h};{(refine ZaO ?_;simp only[go_sem]);(refine vM1 ?_;refine⟨_,ZbT t s.press,rfl,Zab rfl rfl ?_ ?_ rfl,?_⟩);{(have e1:s.press.q=[]:=by simp only[Cs.press,hpq];rfl);(have e2:s.press.pins=pins:=by simp only[Cs.press,hpq];rfl);simp only[ZbT,Zc5,e1,e2];simp only[go_sem,Zag,Ob.keepP,AV.keepP,AV.keepPL,Cs.press,Zbb,Yg]};{simp only[go_sem,ZbL]};{exact⟨rfl,rfl⟩}}|cons p q=>have hps:=hqs p Kd;have hlen:q.length+1<=1000:=hl;(have hd:decide ((0:Int)<((q.length+1:Nat):Int))=true:=by simp);(have e1:(((q.length+1:Nat):Int)).toNat=q.length+1:=by omega);have e2:(q.map Pr.cds).take q.length=q.map Pr.cds:=YG Kd;(have hI:(0:Int)<((q.length+1:Nat):Int):=by omega);(have hI1:(1:Int)<=((q.length+1:Nat):Int):=by omega);have z1:((0:Int)).toNat=0:=rfl;have z2:((1:Int)).toNat=1:=rfl;simp only[ZaZ]at hpq;(repeat(refine vV ?_;(try simp only[go_sem,hP,Zbb,Ye,Yo,hd,hI,z1,Pr.cds]);refine vQ ?_));refine vC ?_ ?_<;>intro h;{(have h:p.time<=s.now:=by simpa using h);rw[Yt h]at hpq;(have hk:p.side.toNat<pins.length:=by omega);(have hcl:(Zac bcd pins 0).length=2*t.n:=by rw[ZaF Zgt,hpl];omega);(have hset:(Zac bcd pins 0).set p.side.toNat (.c (.bool true))=Zac bcd (pins.set p.side.toNat true) 0:=by have:=Za8 Zgt hk 0 0 Kb (.bool true) true rfl;rwa [Yab,Yad]at this);(have hI2:p.side<((2*t.n:Nat):Int):=by omega);(have hc1:p.side.toNat<2*t.n:=by omega);(have hc2:p.side.toNat+1<=2*t.n:=by omega);(repeat(refine vV ?_;(try simp only[go_sem,hP,Zbb,Ye,Yo,hI,hI1,z1,z2,e1,e2,hps.1,hI2,hcl,hc1,hc2,hset,Pr.cds]);refine vQ ?_));refine⟨(q,pins.set p.side.toNat true),⟨by simp only;omega,by simpa using hpl,fun x hx=>hqs x (by simp[hx]),hpq⟩,Kd,?_⟩;simp only[Zc5,Zbb];exact Zak};{(have h:¬p.time<=s.now:=by simpa using h);rw[Yx h]at hpq;(refine ZaO ?_;simp only[go_sem]);(refine vM1 ?_;refine⟨_,ZbT t s.press,rfl,Zab rfl rfl ?_ ?_ rfl,?_⟩);{(have e1:s.press.q=p::q:=by simp only[Cs.press,hpq]);(have e2:s.press.pins=pins:=by simp only[Cs.press,hpq]);simp only[ZbT,Zc5,e1,e2];simp only[go_sem,Zag,Ob.keepP,AV.keepP,AV.keepPL,Cs.press,Zbb,Ye,Pr.cds]};{simp only[go_sem,ZbL]};{exact⟨rfl,rfl⟩}})}
def ZBN:Cz [] 145:=ec [(0,3072,[]),(3,7680,[])]
def next84{t:Tray}(ht:TrayOk t){s:Cs}(hs:CsOk t s)(h1:s.spells.length<=5000)(h2:s.now<=1000000)(h3:0<=s.steps/\s.steps<=1000000):
  Fl 145 [.bp 1000 0] (ZbT t s) [] (fun res l'=>res= .tup []/\l'=ZbT t (s.next t)):=by have hn6:=ht.n6;have hat:=hs.at_;have hnow:=hs.now;have hst:=ht.step;have hnl:t.recs.length=t.n:=rfl;have w1:=vw (n:=s.now+t.step);have w2:=vw (n:=s.steps+1);refine vF ZBN.h fun C hP hN hC hL=>?_;simp only[ZBN,Zbj,ZaB,Yg,Ye,Nat.reduceAdd,ZbT,Zc5];cases hu:s.up;{have hw:wayI false= -1:=rfl;(have hwn:IntKind.i64.wrap (0 - -1)=1:=by decide);have w3:=vw (n:=(s.at_:Int)+ -1);(have hI2:decide ((s.at_:Int)+ -1<(t.n:Int))=true:=by simp;omega);by_cases h0:0<s.at_;{(have ea:(s.at_:Int)+ -1=((s.at_-1:Nat):Int):=by omega);rw[ea]at w3 hI2;(have em:s.move t= {s with at_:=s.at_-1,now:=s.now+t.step,steps:=s.steps+1}:=by simp[Cs.move,hu,h0]);have hmk:=mark71 t {s with at_:=s.at_-1,now:=s.now+t.step,steps:=s.steps+1} (-1) h1;refine vW3 (vA hw (vA ea (vA w3 (vA hnl hI2)))) ?_;refine vC ?_ ?_<;>intro h;{refine vW (vA w1 w2) ?_;(refine Zah [1000,1001,1002,1003] (hmk) rfl rfl rfl Kb rfl (by simp only[go_sem,Zar,Ob.lend,AV.lend,AV.lendL,ZbT,Zc5,hu,hw,ZaT]) ?_);rintro r l' ⟨rfl,rfl⟩;(refine⟨_,_,rfl,(by simp only[ZbT,Zc5,Zap,Ob.back,AV.back,AV.backL,back_cellsG,hu,hw];rfl),?_⟩;simp only[go_sem,hP,Zae,hu,hw]);(refine vM1 ?_;refine⟨_,ZbT t (s.next t),rfl,Zab rfl rfl ?_ ?_ rfl,?_⟩);{simp only[Cs.next,em];simp only[go_sem,Zag,Ob.keepP,AV.keepP,AV.keepPL,ZbT,Zc5,Cs.mark,hu,hw,ZaT]};{simp only[go_sem,ZbL]};{exact⟨rfl,rfl⟩}};{simp at h}};{(have ea:s.at_=0:=by omega);(have em:s.move t= {s with up:=true}:=by simp[Cs.move,hu,h0]);have hmk:=mark71 t {s with up:=true} (-1) h1;(have hd:decide ((0:Int)<=(s.at_:Int)+ -1)=false:=by simp;omega);refine vW3 (vA hw (vA w3 (vA hnl (vA hI2 hd)))) ?_;refine vC ?_ ?_<;>intro h;{simp at h};{refine vW hwn ?_;(refine Zah [1000,1001,1002,1003] (hmk) rfl rfl rfl Kb rfl (by simp only[go_sem,Zar,Ob.lend,AV.lend,AV.lendL,ZbT,Zc5,hu,hw,wayI,ZaT]) ?_);rintro r l' ⟨rfl,rfl⟩;(refine⟨_,_,rfl,(by simp only[ZbT,Zc5,Zap,Ob.back,AV.back,AV.backL,back_cellsG,hu,hw];rfl),?_⟩;simp only[go_sem,hP,Zae,hu,hw]);(refine vM1 ?_;refine⟨_,ZbT t (s.next t),rfl,Zab rfl rfl ?_ ?_ rfl,?_⟩);{simp only[Cs.next,em];simp only[go_sem,Zag,Ob.keepP,AV.keepP,AV.keepPL,ZbT,Zc5,Cs.mark,wayI,ZaT]};{simp only[go_sem,ZbL]};{exact⟨rfl,rfl⟩}}}};{have hw:wayI true=1:=rfl;(have hwn:IntKind.i64.wrap (0-1)= -1:=by decide);have w3:=vw (n:=(s.at_:Int)+1);(have hI2:decide ((0:Int)<=(s.at_:Int)+1)=true:=by simp;omega);by_cases h0:s.at_+1<t.n;{(have ea:(s.at_:Int)+1=((s.at_+1:Nat):Int):=by omega);rw[ea]at w3 hI2;(have em:s.move t= {s with at_:=s.at_+1,now:=s.now+t.step,steps:=s.steps+1}:=by simp[Cs.move,hu,h0]);have hmk:=mark71 t {s with at_:=s.at_+1,now:=s.now+t.step,steps:=s.steps+1} (-1) h1;(have hd:decide (((s.at_+1:Nat):Int)<(t.n:Int))=true:=by simp;omega);refine vW3 (vA hw (vA ea (vA w3 (vA hnl (vA hI2 hd))))) ?_;refine vC ?_ ?_<;>intro h;{refine vW (vA w1 w2) ?_;(refine Zah [1000,1001,1002,1003] (hmk) rfl rfl rfl Kb rfl (by simp only[go_sem,Zar,Ob.lend,AV.lend,AV.lendL,ZbT,Zc5,hu,hw,ZaT]) ?_);rintro r l' ⟨rfl,rfl⟩;(refine⟨_,_,rfl,(by simp only[ZbT,Zc5,Zap,Ob.back,AV.back,AV.backL,back_cellsG,hu,hw];rfl),?_⟩;simp only[go_sem,hP,Zae,hu,hw]);(refine vM1 ?_;refine⟨_,ZbT t (s.next t),rfl,Zab rfl rfl ?_ ?_ rfl,?_⟩);{simp only[Cs.next,em];simp only[go_sem,Zag,Ob.keepP,AV.keepP,AV.keepPL,ZbT,Zc5,Cs.mark,hu,hw,ZaT]};{simp only[go_sem,ZbL]};{exact⟨rfl,rfl⟩}};{simp at h}};{(have em:s.move t= {s with up:=false}:=by simp[Cs.move,hu,h0]);have hmk:=mark71 t {s with up:=false} (-1) h1;(have hd:decide ((s.at_:Int)+1<(t.n:Int))=false:=by simp;omega);refine vW3 (vA hw (vA w3 (vA hnl (vA hI2 hd)))) ?_;refine vC ?_ ?_<;>intro h;{simp at h};{refine vW hwn ?_;(refine Zah [1000,1001,1002,1003] (hmk) rfl rfl rfl Kb rfl (by simp only[go_sem,Zar,Ob.lend,AV.lend,AV.lendL,ZbT,Zc5,hu,hw,wayI,ZaT]) ?_);rintro r l' ⟨rfl,rfl⟩;(refine⟨_,_,rfl,(by simp only[ZbT,Zc5,Zap,Ob.back,AV.back,AV.backL,back_cellsG,hu,hw];rfl),?_⟩;simp only[go_sem,hP,Zae,hu,hw]);(refine vM1 ?_;refine⟨_,ZbT t (s.next t),rfl,Zab rfl rfl ?_ ?_ rfl,?_⟩);{simp only[Cs.next,em];simp only[go_sem,Zag,Ob.keepP,AV.keepP,AV.keepPL,ZbT,Zc5,Cs.mark,wayI,ZaT]};{simp only[go_sem,ZbL]};{exact⟨rfl,rfl⟩}}}}
def Zyw:Cz [] 112:=ec [(12,245760,[]),(14,15360,[])]
abbrev ZzP:VC:=Zyw.v.body.r.r.r.r.r
def Zuw(t:Tray)(s:Cs)(res:AV)(l':List Ob):Prop:=(s.act t=none/\res=bv false/\l'=ZbT t s.press)\/∃s',s.act t=some s'/\res=bv true/\l'=ZbT t s'
def Zta(now:Int):∀(q:List Pr)(pins:List Bool),(ZaZ now q pins).1.length<=q.length:=fun q pins=>by obtain⟨k,hk⟩:=Zb7 now q pins;rw[hk,Yac];omega
def act72{t:Tray}(ht:TrayOk t){s:Cs}(hs:CsOk t s)(hq:s.q.length<=1000)(h1:s.spells.length<=4900)(h2:s.now<=900000)(h3:0<=s.steps/\s.steps<=900000)(h4:s.plays.length<=5000):
  Fl 112 [.bp 1000 0] (ZbT t s) [] (Zuw t s):=by
 have hmax:=vM;have hn6:=ht.n6;have hpr:=press81 ht hs hq;have hs1:=hs.press;have hact:s.act t=s.press.act1 t:=rfl;have hq1:s.press.q.length<=1000:=YaP (Zta _ _ _) hq;have e1:s.press.spells=s.spells:=rfl;have e2:s.press.now=s.now:=rfl;have e3:s.press.steps=s.steps:=rfl;have e4:s.press.plays=s.plays:=rfl;rw[<-e1]at h1;rw[<-e2]at h2;rw[<-e3]at h3;rw[<-e4]at h4;refine Zdq Zyw.h (by first|simp|exact YT rfl) (Yi _) Kb Kb fun C hP hN hC hpin hL=>?_;rw[Zbm,ZdU (by first|simp|exact YT rfl)];simp only[Zyw,Zbj,ZaB,Yg,Ye,Nat.reduceAdd,ZbT,Zc5];refine ZkD ?_;refine vR ?_;(refine Zah [1000,1001,1002,1003] (hpr) rfl rfl rfl Kb rfl (by simp only[go_sem,Zar,Ob.lend,AV.lend,AV.lendL,ZbT,Zc5]) ?_);rintro r l' ⟨rfl,rfl⟩;(refine⟨_,_,rfl,(by simp only[ZbT,Zc5,Zap,Ob.back,AV.back,AV.backL,back_cellsG,];rfl),?_⟩;simp only[go_sem,hP,Zae]);(have hpost:∀r l',Zuw t s r l'=((s.press.act1 t=none/\r=bv false/\l'=ZbT t s.press)\/∃s',s.press.act1 t=some s'/\r=bv true/\l'=ZbT t s'):=fun r l'=>by unfold Zuw;rw[hact]);generalize s.press=s1 at*;have hpl:=hs1.pins;have hat:=hs1.at_;(have hel:∀own:Nat->Ob,own 1001= .box (Zac bcd s1.pins 0)->AV.elemsV own (.vw 1 1001 0 (2*t.n) (2*t.n))=some (1,s1.pins.map bcd):=fun own h=>by have:=ZfS Zgt own 1001 s1.pins 0 (2*t.n) h;rwa [hpl]at this);refine vR ?_;refine ZAe (Zqd s1.pins Kc) rfl rfl rfl rfl ?_ rfl ?_;{(show AV.vportL _ [.vw 1 1001 0 (2*t.n) (2*t.n),bv true]=_;simp only[AV.vportL,AV.vport];rw[hel]);{rfl};{rfl}};simp only[go_sem,hP];refine vR ?_;cases hall:s1.pins.all (!·);rotate_left;{refine vC ?_ ?_<;>intro h;{(cases hqq:s1.q with|nil=>(have ha:s1.act1 t=none:=by unfold Cs.act1;rw[Yt hall,hqq]);(repeat(refine vV ?_;(try simp only[go_sem,hP,Zbb,hqq,Yg,YI,YbY,YN]);refine vQ ?_));refine vC ?_ ?_<;>intro h;{refine vR ?_;refine Zas ?_;refine⟨_,fun a w hg=>hg,?_⟩;(refine vM1 ?_;refine⟨_,ZbT t s1,rfl,Zab rfl rfl ?_ ?_ rfl,?_⟩);{simp only[go_sem,Zag,Ob.keepP,AV.keepP,AV.keepPL,ZbT,Zc5,Zbb,hqq,Yg]};{simp only[go_sem,ZbL]};{rw[hpost];exact .inl ⟨ha,rfl,rfl⟩}};{simp at h}|cons p q=>(have ha:s1.act1 t=some {s1 with now:=p.time}:=by unfold Cs.act1;rw[Yt hall,hqq]);(have hd:(((q.length+1:Nat):Int)==0)=false:=by simp;omega);(have hI:(0:Int)<((q.length+1:Nat):Int):=by omega);have z1:((0:Int)).toNat=0:=rfl;(repeat(refine vV ?_;(try simp only[go_sem,hP,Zbb,hqq,Ye,Yo,hd]);refine vQ ?_));refine vC ?_ ?_<;>intro h;{simp at h};{(repeat(refine vV ?_;(try simp only[go_sem,hP,Zbb,hqq,Ye,Yo,hI,z1,Pr.cds]);refine vQ ?_));refine Zas ?_;refine⟨_,fun a w hg=>hg,?_⟩;(refine vM1 ?_;refine⟨_,ZbT t {s1 with now:=p.time},rfl,Zab rfl rfl ?_ ?_ rfl,?_⟩);{simp only[go_sem,Zag,Ob.keepP,AV.keepP,AV.keepPL,ZbT,Zc5,Zbb,hqq,Ye,Pr.cds]};{simp only[go_sem,ZbL]};{rw[hpost];exact .inr ⟨_,ha,rfl,rfl⟩}})};{simp at h}}
 ·refine vC ?_ ?_<;>intro h;{simp at h};(have ha:s1.act1 t=some ((s1.play t).next t):=by unfold Cs.act1;rw[Yx (by rw[hall];decide)]);have hpos:=Zj9 hs1;have hsec:=Zd0 ht hpos;have hlast:=ZCl ht s1.pos hpos;have hnow:=hs1.now;(have hcl:(Zac bcd s1.pins 0).length=2*t.n:=by rw[ZaF Zgt,hpl];omega);(have hpk:s1.pos<s1.pins.length:=by omega);(have hget:∀x,(Zac bcd s1.pins 0).getD s1.pos x=bv (s1.pins.getD s1.pos false):=fun x=>by have:=ZbY Zgt hpk 0 0 (d:=.bool s1.pins[s1.pos]) rfl x;rw[Yab,Yad]at this;rw[this];simp[hpk]);(have hI2:(s1.pos:Int)<((2*t.n:Nat):Int):=by omega);(have hc2:s1.pos+1<=2*t.n:=by omega);(have hside:(bif decide (wayI s1.up<0)then 2*(s1.at_:Int)+1 else 2*(s1.at_:Int))=(s1.pos:Int):=by unfold Cs.pos sideAt wayI;cases s1.up<;>simp<;>omega);have wa:=vw (n:=2*(s1.at_:Int));have wb:=vw (n:=2*(s1.at_:Int)+1);(have hplayOk:CsOk t (s1.play t)/\(s1.play t).spells.length<=5000/\(s1.play t).now<=1000000/\0<=(s1.play t).steps/\(s1.play t).steps<=1000000:=by obtain⟨p1,p2,p3,p4⟩:=Zcv t s1;have hn:=Zlg ht hs1;refine⟨⟨by rw[p3];exact hat,by rw[p1,Y7];exact hpl,by rw[p2];exact hs1.q,Kc,by rw[p2];exact hs1.sorted⟩,?_,Kc,Kc,Kc⟩;unfold Cs.play;split;{simp[Cs.play2,Cs.play1,Cs.mark];omega};{omega});have hnx:=next84 ht hplayOk.1 hplayOk.2.1 hplayOk.2.2.1 hplayOk.2.2.2;have hset:(Zac bcd s1.pins 0).set s1.pos (.c (.bool false))=Zac bcd (s1.pins.set s1.pos false) 0:=by have:=Za8 Zgt hpk 0 0 Kb (.bool false) false rfl;rwa [Yab,Yad]at this
  have hnl:t.recs.length=t.n:=rfl;have wc:=vw (n:=s1.now+Zi9 t s1.pos);have htail:WV C ZzP (fun e σ'=>∃σ'',(∀a w,Gam C σ' a w->Gam C σ'' a w)/\Zjj [RV.t 2] (ZbT t s) [] (Zuw t s) e σ'')
    ⟨upd (upd e0 0 (.bp 1000 0)) 3 (iv s1.pos),upd (upd (upd (upd o0 1000 (.box (Zc5 t s1))) 1001 (.box (Zac bcd s1.pins 0))) 1002 (.grow 129 4 (s1.spells.map Sp.cds))) 1003 (.grow 121 2 (s1.plays.map Pr.cds))⟩:=by
   simp only[Zc5];refine vW (vA hI2 (vA hpk (vA hcl hget))) ?_;cases hpp:s1.pins.getD s1.pos false
   ·have hpl1:s1.play t=s1:=by unfold Cs.play;rw[hpp];rfl
    rw[hpl1]at hnx ha;refine vC ?_ ?_<;>intro h
    ·simp at h
    refine vR ?_;(refine Zah [1000,1001,1002,1003] (hnx) rfl rfl rfl Kb rfl (by simp only[go_sem,Zar,Ob.lend,AV.lend,AV.lendL,ZbT,Zc5]) ?_);rintro r l' ⟨rfl,rfl⟩;(refine⟨_,_,rfl,(by simp only[ZbT,Zc5,Zap,Ob.back,AV.back,AV.backL,back_cellsG,];rfl),?_⟩;simp only[go_sem,hP,Zae]);refine vR ?_;refine Zas ?_;refine⟨_,fun a w hg=>hg,?_⟩;(refine vM1 ?_;refine⟨_,ZbT t (s1.next t),rfl,Zab rfl rfl ?_ ?_ rfl,?_⟩)
    ·simp only[go_sem,Zag,Ob.keepP,AV.keepP,AV.keepPL,ZbT,Zc5]
    ·simp only[go_sem,ZbL]
    ·rw[hpost];exact .inr ⟨_,ha,rfl,rfl⟩
   ·have hpl1:s1.play t=(s1.play1).play2 t:=by unfold Cs.play;rw[hpp];rfl
    rw[hpl1]at hnx ha;have hm1:=mark71 t {s1 with pins:=s1.pins.set s1.pos false,plays:=s1.plays++[⟨s1.pos,s1.now⟩]} s1.pos (by simp only;omega);have hm2:=mark71 t {s1.play1 with now:=s1.now+Zi9 t s1.pos,end_:=s1.now+Zi9 t s1.pos} (-1) (by simp[Cs.play1,Cs.mark];omega);have e1:({s1 with pins:=s1.pins.set s1.pos false,plays:=s1.plays++[⟨s1.pos,s1.now⟩]}:Cs).mark s1.pos=s1.play1:=rfl;have e2:({s1.play1 with now:=s1.now+Zi9 t s1.pos,end_:=s1.now+Zi9 t s1.pos}:Cs).mark (-1)=(s1.play1).play2 t:=rfl;refine vC ?_ ?_<;>intro h
    ·refine vW2 (vA hI2 (vA hpk (vA hcl hset))) ?_;(refine Zah [1000,1001,1002,68] (hm1) rfl rfl rfl Kb rfl (by simp only[go_sem,Zar,Ob.lend,AV.lend,AV.lendL,ZbT,Zc5,Yy,Pr.cds]) ?_)
     rintro r l' ⟨rfl,rfl⟩;rw[e1];(refine⟨_,_,rfl,(by simp only[ZbT,Zc5,Zap,Ob.back,AV.back,AV.backL,back_cellsG,];rfl),?_⟩;simp only[go_sem,hP,Zae]);have g1:(s1.play1).spells=s1.spells++[⟨s1.at_,wayI s1.up,s1.pos,s1.now⟩]:=rfl;have g2:(s1.play1).plays=s1.plays++[⟨s1.pos,s1.now⟩]:=rfl;(repeat(refine vV ?_;(try simp only[go_sem,hP,hP,Cs.play1,Cs.mark]);refine vQ ?_));(refine ZaM (hlast) rfl rfl rfl rfl rfl ?_;simp only[go_sem,hP,Tray.av,wc];refine vQ ?_;(repeat(refine vV ?_;(try simp only[go_sem,hP,Tray.av,wc]);refine vQ ?_)))
     (refine Zah [1000,1001,1002,68] (hm2) rfl rfl rfl Kb rfl (by simp only[go_sem,Zar,Ob.lend,AV.lend,AV.lendL,ZbT,Zc5,Cs.play1,Cs.mark]) ?_)
     rintro r l' ⟨rfl,rfl⟩;rw[e2];(refine⟨_,_,rfl,(by simp only[ZbT,Zc5,Zap,Ob.back,AV.back,AV.backL,back_cellsG,Cs.play2,Cs.play1,Cs.mark];rfl),?_⟩;simp only[go_sem,hP,Zae,Cs.play2,Cs.play1,Cs.mark]);refine vR ?_;(refine Zah [1000,1001,1002,68] (hnx) rfl rfl rfl Kb rfl (by simp only[go_sem,Zar,Ob.lend,AV.lend,AV.lendL,ZbT,Zc5,Cs.play2,Cs.play1,Cs.mark]) ?_);rintro r l' ⟨rfl,rfl⟩;generalize(s1.play1.play2 t).next t=s2 at*
     (refine⟨_,_,rfl,(by simp only[ZbT,Zc5,Zap,Ob.back,AV.back,AV.backL,back_cellsG,];rfl),?_⟩;simp only[go_sem,hP,Zae])
     refine vR ?_;refine Zas ?_;refine⟨_,fun a w hg=>ZeF (d:=68) (n:=1003) Kb (fun h=>by have:=hpin 1003 h;rw[Znr]at this;cases this) rfl hg,?_⟩;simp only[go_sem];(refine vM1 ?_;refine⟨_,ZbT t s2,rfl,Zab rfl rfl ?_ ?_ rfl,?_⟩)
     ·simp only[go_sem,Zag,Ob.keepP,AV.keepP,AV.keepPL,ZbT,Zc5]
     ·simp only[go_sem,ZbL]
     ·rw[hpost];exact .inr ⟨_,ha,rfl,rfl⟩
    ·simp at h
  simp only[Zc5]at htail;cases hu:s1.up;{rw[hu]at htail;have hw:wayI false= -1:=rfl;(have hp2:2*(s1.at_:Int)+1=(s1.pos:Int):=by unfold Cs.pos sideAt;rw[hu];simp);rw[hp2]at wb;rw[hw]at htail;refine vW (vA wa hw) ?_;refine vC ?_ ?_<;>intro h;{(refine ZcF ?_;simp only[go_sem,hP,wb,hp2];refine vQ ?_);exact Zav (Zaf (by simp only[go_sem];exact Zaj) (by simp only[go_sem];exact Zaa)) htail};{simp at h}};{rw[hu]at htail;have hw:wayI true=1:=rfl;(have hp2:2*(s1.at_:Int)=(s1.pos:Int):=by unfold Cs.pos sideAt;rw[hu];simp);rw[hp2]at wa;rw[hw]at htail;refine vW (vA wa (vA hw hp2)) ?_;refine vC ?_ ?_<;>intro h;{simp at h};{(refine Zbq ?_;simp only[go_sem]);exact Zav (Zaf (by simp only[go_sem];exact Zaj) (by simp only[go_sem];exact Zaa)) htail}}
namespace W
def ir71:Cz [300007] 71:=ec [(1,114696,[.l [0,1,2,4,5,6,7,8,9,10,11,12,13,3,14,15,16]])]
abbrev ZAE:List Nat:=[2,3]
abbrev Zxv:VC:=ir71.v.body.r.r.r
end W
def ir71:Cz [] 71:=ec [(1,114688,[.l [0,1,2,4,5,6,7,8,3,9,10,11,12,13,14,15,16]])]
abbrev ZAE:List Nat:=[2,3]
abbrev Zxv:VC:=ir71.v.body.r.r.r
def ZEA(l:List Sp):CD:=.sl 4 (l.map Sp.cds)
def Cs.run(s:Cs):AV:=.agg [.c (ZEA s.spells),.c (Zbb s.plays),iv s.steps,iv s.end_]
def Zw5(t:Tray)(s:Cs):List AV:=[.c (ZaT t.recs),iv t.at_,iv t.way,iv t.step,.c (Zbb t.pres),.c (Zbb s.q),.vw 1 12 0 (2*t.n) (2*t.n),iv s.now,iv s.at_,iv (wayI s.up),iv s.side,.gr 81,.gr 82,iv s.steps,iv s.end_]
def ZwL:List AV:=[.c (.raw (.slice none 0 0)),.c (.raw (.slice none 0 0)),.c (.int .i64 0),.c (.int .i64 0)]
def tail54{C:Ctx}(hP:C.P=Tryz.prog){t:Tray}(ht:TrayOk t){q:List Pr}(hq:q.Perm t.pres)(hqs:q.Pairwise fun a b=>a.time<=b.time):
  WV C Zxv (ZfE [.cell 2 false 4] (Za3 t q).run) ⟨upd (upd e0 2 (.bp 2 0)) 3 (.bp 19 0),upd (upd (upd (upd (upd o0 2 (.box ZwL)) 12 (.box (Zac bcd (start t q).pins 0))) 19 (.box (Zw5 t (start t q)))) 81 (.grow 129 4 [])) 82 (.grow 121 2 [])⟩:=by
 have hm0:=mark71 t (start t q) (-1) (by simp[start]);have hs0:=Zjc ht hq hqs;have hql:q.length<=13:=by rw[hq.length_eq];exact ht.p13
 have hmu:=Zpz ht hql;have hgw:Za3 t q=ZnI t 250 ((start t q).mark (-1)):=rfl;have b1:((start t q).mark (-1)).spells.length=1:=rfl;have b2:((start t q).mark (-1)).plays.length=0:=rfl;have b3:((start t q).mark (-1)).now=0:=rfl;have b4:((start t q).mark (-1)).steps=0:=rfl;have b5:((start t q).mark (-1)).q.length<=13:=hql;have hsp:(start t q).spells=[]:=rfl;have hpl:(start t q).plays=[]:=rfl;rw[hgw];simp only[Zw5,ZwL];refine vR ?_;(refine Zah [19,12,81,82] (hm0) rfl rfl rfl Kb rfl (by simp only[go_sem,Zar,Ob.lend,AV.lend,AV.lendL,ZbT,Zc5,hsp,hpl,Yg]) ?_);rintro r l' ⟨rfl,rfl⟩;generalize(start t q).mark (-1)=s0 at*;(refine⟨_,_,rfl,(by simp only[ZbT,Zc5,Zap,Ob.back,AV.back,AV.backL,back_cellsG,];rfl),?_⟩;simp only[go_sem,hP,Zae]);refine vR ?_;refine Zam ZAE [12,19,81,82] (fun p:Nat×Cs=>CsOk t p.2/\ZnI t 250 s0=ZnI t (250-p.1) p.2/\mu t p.2+p.1<=200/\p.2.now<=10000+1059*(p.1:Int)/\p.2.spells.length<=1+3*p.1/\p.2.plays.length<=p.1/\(0<=p.2.steps/\p.2.steps<=(p.1:Int))/\p.2.q.length<=13) (fun p=>mu t p.2) (fun _=>[])
  (fun p=>[(12,.box (Zac bcd p.2.pins 0)),(19,.box (Zw5 t p.2)),(81,.grow 129 4 (p.2.spells.map Sp.cds)),(82,.grow 121 2 (p.2.plays.map Pr.cds))]) (0,s0) ⟨hs0,rfl,by simpa using hmu,by rw[b3];simp,by rw[b1];simp,by rw[b2];simp,by rw[b4];simp,b5⟩ ?_ ?_
 {simp only[Zw5];exact Zak};{rintro⟨k,s⟩ ⟨i1,i2,i3,i4,i5,i6,i7,i8⟩;simp only at i1 i2 i3 i4 i5 i6 i7 i8;have hact:=act72 ht i1 Kc Kc Kc Kc Kc;simp only[go_sem,Zw5];refine vR ?_;(refine Zah [19,12,81,82] (hact) rfl rfl rfl Kb rfl (by simp only[go_sem,Zar,Ob.lend,AV.lend,AV.lendL,ZbT,Zc5]) ?_);rintro r l' (⟨ha,rfl,rfl⟩|⟨s',ha,rfl,rfl⟩);{(have hend:ZnI t (250-k) s=s.press:=by obtain⟨m,hm⟩:∃m,250-k=m+1:=⟨249-k,Kc⟩;rw[hm];simp only[ZnI,ha]);rw[hend]at i2;rw[i2];generalize s.press=s2 at*;(refine⟨_,_,rfl,(by simp only[ZbT,Zc5,Zap,Ob.back,AV.back,AV.backL,back_cellsG,];rfl),?_⟩;simp only[go_sem,hP,Zae]);refine vR ?_;refine vC ?_ ?_<;>intro h;{simp at h};{(refine ZaO ?_;simp only[go_sem]);(refine vU ?_;try exact trivial)}};{(have hend:ZnI t (250-k) s=ZnI t (250-(k+1)) s':=by obtain⟨m,hm⟩:∃m,250-k=m+1:=⟨249-k,Kc⟩;rw[hm,show 250-(k+1)=m from by omega];simp only[ZnI,ha]);have hg:=Zro ht i1 ha;have hmu':=ZwV i1 ha;have hok':=ZwW ht i1 ha;(refine⟨_,_,rfl,(by simp only[ZbT,Zc5,Zap,Ob.back,AV.back,AV.backL,back_cellsG,];rfl),?_⟩;simp only[go_sem,hP,Zae]);refine vR ?_;refine vC ?_ ?_<;>intro h;{refine vR ?_;refine⟨(k+1,s'),⟨hok',by rw[i2,hend],by simp only;omega,?_,?_,?_,?_,?_⟩,by simp only;omega,?_⟩;{rcases hg.now with h|h<;>(simp only;omega)};{have:=hg.spells;simp only;omega};{have:=hg.plays;simp only;omega};{have:=hg.steps;simp only;omega};{have:=hg.q;simp only;omega};{simp only[Zw5];exact Zak}};{simp at h}}}
def ZjN(n:Nat):(List.replicate n [bv false]).flatten=Zac bcd (List.replicate n false) 0:=by(have:∀n,(List.replicate n [bv false]).flatten=(Za4 bcd (List.replicate n false)).map .c:=by(intro n;induction n with|zero=>rfl|succ n ih=>simp only[YP,YaC,ih,ZcN];rfl));rw[this];simp[Zac]
def ZBl:Fq 168 [.c (Zbb []),iv 0,iv 0,.fn 110 []] (.tup []):=by(have w0:IntKind.i64.wrap (0+1)=1:=by decide);refine vE Zvn.h fun C hP hN hC hL=>?_;simp only[Zvn,Zbb,Yg];refine vW w0 ?_;refine Zam ZwU [] (fun _:Unit=>True) (fun _=>0) (fun _=>[(8,iv 1)]) (fun _=>[]) () trivial ?_ ?_;{exact Zak};{rintro - -;simp only[go_sem];refine vR ?_;refine vC ?_ ?_<;>intro h;{simp at h};{(refine ZaO ?_;simp only[go_sem]);exact⟨trivial,_,rfl,AVle.of rfl⟩}}
def Zt2:Fq 141 [.c (Zbb []),iv 0,.fn 110 []] (.tup []):=by refine vE Zvl.h fun C hP hN hC hL=>?_;simp only[Zvl,Zbb,Yg];refine vR ?_;refine Zam ZwS [] (fun _:Unit=>True) (fun _=>0) (fun _=>[(7,iv 0),(8,iv 20)]) (fun _=>[]) () trivial ?_ ?_;{exact Zak};{rintro - -;simp only[go_sem];refine vR ?_;refine vC ?_ ?_<;>intro h;{simp at h};{(refine ZaO ?_;simp only[go_sem]);refine vR ?_;(refine Zal (ZBl) ?_;refine vS ?_);refine Zam ZwT [] (fun _:Unit=>True) (fun _=>0) (fun _=>[(6,iv 20)]) (fun _=>[]) () trivial ?_ ?_;{exact Zak};{rintro - -;simp only[go_sem];refine vR ?_;refine vC ?_ ?_<;>intro h;{simp at h};{(refine ZaO ?_;simp only[go_sem]);exact⟨trivial,_,rfl,AVle.of rfl⟩}}}}
def ZzF:Fq 109 [.c (Zbb []),.fn 110 []] (.tup []):=by refine vE Zvi.h fun C hP hN hC hL=>?_;simp only[Zvi,Zbb,Yg];(repeat(refine vV ?_;(try simp only[go_sem,hP,YI,YbY]);refine vQ ?_));(refine Zal (Zt2) ?_;refine vS ?_);exact⟨_,rfl,AVle.of rfl⟩
def goes54e{t:Tray}(ht:TrayOk t)(hp:t.pres=[]):Fq 71 [t.av] (Zbl t).run:=by have hn6:=ht.n6;have hnl:t.recs.length=t.n:=rfl;have hat:=ht.at_;have hmax:=vM;have w1:=vw (n:=2*(t.n:Int));(have ew:(2*(t.n:Int)).toNat=2*t.n:=by omega);(have hway:wayI (t.way==1)=t.way:=by rcases ht.way with h|h<;>rw[h]<;>rfl);(have hg:Zbl t=Za3 t []:=by unfold Zbl;rw[hp];rfl);have hcl:=ZrV ([]:List Pr) Kd;refine vE ir71.h fun C hP hN hC hL=>?_;have htl:=tail54 hP ht (q:=[]) (by rw[hp]) List.Pairwise.nil;rw[<-hg]at htl;simp only[ir71,Tray.av,hp];(have hat2:(((t.at_.toNat:Nat):Int))=t.at_:=by omega);simp only[Zw5,ZwL,start,hway,hp,hat2,Yg]at htl;(repeat(refine vV ?_;(try simp only[go_sem,hP,ZaT,Yc,hnl,w1,ew,ZjN]);refine vQ ?_));refine ZaM hcl rfl rfl rfl rfl rfl ?_;refine vN ?_;refine Zcp 19 11 81 129 4 Kb Kb Kb rfl rfl rfl ?_;simp only[go_sem];refine Zcp 19 12 82 121 2 Kb Kb Kb rfl rfl rfl ?_;simp only[go_sem];(repeat(refine vV ?_;(try simp only[go_sem,hP,Zbb,Yg]);refine vQ ?_));refine ZkB ZzF rfl rfl rfl rfl rfl ?_;refine vN ?_;exact Zav (Zaf (by simp only[go_sem];exact Zaj) (by simp only[go_sem];exact Zaa)) htl
def Zzb(l:List Pr):grp 2 l.length ((Za4 Pr.cds l).take (l.length*2))=l.map Pr.cds:=ZeM Zd6 l
def Zza(l:List Pr):(l.length*2<=(Za4 Pr.cds l).length)=True:=by rw[Zcs Zd6];simp
def goes54n{t:Tray}(ht:TrayOk t)(hp:t.pres≠[]):Fq 71 [t.av] (Zbl t).run:=by have hn6:=ht.n6;have hnl:t.recs.length=t.n:=rfl;have hat:=ht.at_;have hmax:=vM;have w1:=vw (n:=2*(t.n:Int));(have ew:(2*(t.n:Int)).toNat=2*t.n:=by omega);(have hway:wayI (t.way==1)=t.way:=by rcases ht.way with h|h<;>rw[h]<;>rfl);have hpl:0<t.pres.length:=YaJ.2 hp;have h13:=ht.p13;have hg:Zbl t=Za3 t (Ze2 t.pres):=rfl;refine Zok W.ir71.h (Yi _) Kb fun C hP hN hC hL=>?_;have htl:=tail54 hP ht (q:=Ze2 t.pres) (ZcP t.pres) (Zcx t.pres);rw[<-hg]at htl;simp only[W.ir71,Tray.av];(have hat2:(((t.at_.toNat:Nat):Int))=t.at_:=by omega);simp only[Zw5,ZwL,start,hway,hat2,Yg]at htl;(repeat(refine vV ?_;(try simp only[go_sem,hP,ZaT,Yc,hnl,w1,ew,ZjN]);refine vQ ?_));refine ZwR (ZoH t.pres Kc hp) Kb rfl rfl rfl rfl rfl ?_;rintro res os ⟨cap,j,h1,h2,h3,rfl,rfl⟩;refine⟨_,.vw 2 7 0 t.pres.length cap,.box (Zac Pr.cds t.pres j),rfl,rfl,by simp only[Ob.back,back_cellsG];rfl,?_⟩;refine vN ?_;refine Zcp 19 11 81 129 4 Kb Kb Kb rfl rfl rfl ?_;simp only[go_sem];refine Zcp 19 12 82 121 2 Kb Kb Kb rfl rfl rfl ?_;simp only[go_sem];refine vR ?_;refine Zah [7] (ZCP (jk:=j) hpl Kc rfl (fun p hp=>(ht.pres p hp).2)) rfl rfl rfl Kb rfl (by simp only[go_sem,Zar,Ob.lend,AV.lend,AV.lendL]) ?_;rintro r l' ⟨rfl,l,hl,rfl⟩;refine⟨_,_,rfl,(by simp only[Zap,Ob.back,back_cellsG];rfl),?_⟩;simp only[go_sem,hP,Zae];(have hso:arr t.pres l=Ze2 t.pres:=by rw[Zj4 hl];rfl);rw[hso];have hSl:=Zt0 t.pres;have hgr:=Zzb (Ze2 t.pres);have hfl:=Zza (Ze2 t.pres);rw[hSl]at hgr hfl;refine ZcM 7 (ds:=Za4 Pr.cds (Ze2 t.pres)) (junk:=List.replicate j .non) rfl ?_;simp only[go_sem,hfl,hgr];exact Zav (Zaf (by simp only[go_sem];exact Zaj) (by simp only[go_sem];exact Zaa)) htl
def ZjS{t:Tray}(ht:TrayOk t):Fq 71 [t.av] (Zbl t).run:=by by_cases hp:t.pres=[];{exact goes54e ht hp};{exact goes54n ht hp}
def Zee(s:Cs):Prop:=∀p∈s.q,s.now<p.time
def Zf4{t:Tray}{s:Cs}(h:CsOk t s):Zee s.press:=by(intro p hp;have hs:=h.press.sorted;cases hq:s.press.q with|nil=>rw[hq]at hp;cases hp|cons a q=>have h1:=Zfr s.now s.q s.pins a q hq;rw[hq]at hp hs;have h2:=(Ycc.1 hs).1;(show s.now<p.time;rcases YF.1 hp with rfl|hp);{exact h1};{have:=h2 p hp;omega})
def Zo7{t:Tray}(ht:TrayOk t)(I:Nat->Cs->Prop)(hp:∀k s,CsOk t s->I k s->I k s.press)(ha:∀k s s',CsOk t s->Zee s->I k s->s.act1 t=some s'->I (k+1) s'):
  ∀(f k:Nat)(s:Cs),CsOk t s->mu t s<f->mu t s+k<=200->I k s->∃k',k'<=200/\I k' (ZnI t f s)/\(ZnI t f s).act1 t=none/\CsOk t (ZnI t f s)/\Zee (ZnI t f s)
 |0,k,s,_,hf,_,_=>by omega
 |f+1,k,s,hs,hf,hk,hI=>by(simp only[ZnI];cases e:s.act t with|none=>exact⟨k,Kc,hp k s hs hI,e,hs.press,Zf4 hs⟩|some s'=>have h1:=ZwV hs e;exact Zo7 ht I hp ha f (k+1) s' (ZwW ht hs e) Kc Kc (ha k s.press s' hs.press (Zf4 hs) (hp k s hs hI) e))
def Zhq{t:Tray}(ht:TrayOk t){q:List Pr}(hq:q.Perm t.pres)(hqs:q.Pairwise fun a b=>a.time<=b.time)(I:Nat->Cs->Prop)(h0:I 0 ((start t q).mark (-1)))(hp:∀k s,CsOk t s->I k s->I k s.press)(ha:∀k s s',CsOk t s->Zee s->I k s->s.act1 t=some s'->I (k+1) s'):∃k',k'<=200/\I k' (Za3 t q)/\(Za3 t q).act1 t=none/\CsOk t (Za3 t q)/\Zee (Za3 t q):=by have hm:=Zpz ht (q:=q) (by rw[hq.length_eq];exact ht.p13);exact Zo7 ht I hp ha 250 0 _ (Zjc ht hq hqs) Kc Kc h0
def Zrl{t:Tray}{s:Cs}(h:s.act1 t=none):s.q=[]/\s.pins.all (!·)=true:=by unfold Cs.act1 at h;split at h;{rename_i hp;split at h;{rename_i hq;exact⟨hq,hp⟩};{cases h}};{cases h}
def ZeH{t:Tray}{s s':Cs}(h:s.act1 t=some s'):(∃p q,s.q=p::q/\s.pins.all (!·)=true/\s'= {s with now:=p.time})\/(s.pins.all (!·)=false/\s'=(s.play t).next t):=by unfold Cs.act1 at h;split at h;{rename_i hp;split at h;{cases h};{rename_i p q hq;exact .inl ⟨p,q,hq,hp,(YQ h).symm⟩}};{rename_i hp;exact .inr ⟨by simpa using hp,(YQ h).symm⟩}
def Zj1(t:Tray)(s:Cs):(s.next t).q=s.q/\(s.next t).pins=s.pins/\(s.next t).plays=s.plays/\(s.next t).end_=s.end_:=by obtain⟨m1,m2,m3,m4,m5⟩:=ZjZ t s;exact⟨m1,m2,m3,m5⟩
def ZvN{t:Tray}(ht:0<=t.step)(s:Cs):s.now<=(s.next t).now/\(s.next t).now<=s.now+t.step/\s.steps<=(s.next t).steps/\(s.next t).steps<=s.steps+1:=Zhw ht s
def Zlh{t:Tray}{s:Cs}(h:s.pins.getD s.pos false=true):(s.play t).q=s.q/\(s.play t).pins=s.pins.set s.pos false/\(s.play t).plays=s.plays++[⟨s.pos,s.now⟩]/\(s.play t).now=s.now+Zi9 t s.pos/\(s.play t).end_=s.now+Zi9 t s.pos/\(s.play t).steps=s.steps:=by unfold Cs.play;rw[Yt h];exact⟨rfl,rfl,rfl,rfl,rfl,rfl⟩
def ZnR{t:Tray}{s:Cs}(h:¬s.pins.getD s.pos false=true):s.play t=s:=by unfold Cs.play;rw[Yx h]
def secsI(t:Tray)(s:Int):Int:=Zi9 t s.toNat
def trues(l:List Bool):Nat:=l.countP id
def ZeD:∀{l:List Bool}{k:Nat},l.getD k false=true->trues (l.set k false)+1=trues l
 |[],k,h=>by simp at h
 |b::l,0,h=>by(have h:b=true:=by simpa using h);subst h;simp[trues]
 |b::l,k+1,h=>by have:=ZeD (l:=l) (k:=k) (by simpa using h);unfold trues at*;simp only[Yce,YbZ];omega
def Ze9:∀(l:List Bool)(k:Nat),trues (l.set k true)<=trues l+1
 |[],k=>by simp[trues]
 |b::l,0=>by unfold trues;simp only[YbL,YbZ];cases b<;>simp
 |b::l,k+1=>by have:=Ze9 l k;unfold trues at*;simp only[Yce,YbZ];omega
def Zg4(now:Int):∀(q:List Pr)(pins:List Bool),trues (ZaZ now q pins).2+(ZaZ now q pins).1.length<=trues pins+q.length
 |[],pins=>Yi _
 |p::q,pins=>by simp only[ZaZ];split;{have:=Zg4 now q (pins.set p.side.toNat true);have:=Ze9 pins p.side.toNat;simp only[Yo];omega};{exact Yi _}
def Zk3{l:List Bool}{i k:Nat}(h:l.getD k false=true):(l.set i true).getD k false=true:=by rw[Yb,Y5];split;{rename_i e;subst e;split;{rfl};{rename_i h2;rw[Yb,YW Kc]at h;simp at h}};{rwa [Yb]at h}
def Zfs(now:Int):∀(q:List Pr)(pins:List Bool),(∀p∈q,0<=p.side/\p.side<(pins.length:Int))->(∀k,pins.getD k false=true->(ZaZ now q pins).2.getD k false=true)/\∀p∈q,p∈(ZaZ now q pins).1\/(p.time<=now/\(ZaZ now q pins).2.getD p.side.toNat false=true)
 |[],pins,_=>⟨fun k h=>h,fun p hp=>by cases hp⟩
 |a::q,pins,hl=>by simp only[ZaZ];split;{rename_i hle;have ha:=hl a Kd;(obtain⟨i1,i2⟩:=Zfs now q (pins.set a.side.toNat true) fun p hp=>by rw[Y7];exact hl p (by simp[hp]));refine⟨fun k h=>i1 k (Zk3 h),fun p hp=>?_⟩;rcases YF.1 hp with rfl|hp;{right;refine⟨hle,i1 _ ?_⟩;rw[Yb,Y5,Yt rfl,Yt Kc];rfl};{exact i2 p hp}};{exact⟨fun k h=>h,fun p hp=> .inl hp⟩}
structure Inv(t:Tray)(s:Cs):Prop where
 srv:∀p∈t.pres,p∈s.q\/(p.time<=s.now/\(s.pins.getD p.side.toNat false=true\/∃x∈s.plays,x.side=p.side/\p.time<=x.time))
 ply:∀x∈s.plays,0<=x.side/\x.side<2*(t.n:Int)/\0<=x.time/\x.time+secsI t x.side<=s.now
 spc:s.plays.Pairwise fun a b=>a.time+secsI t a.side<=b.time
 end_:s.end_=match s.plays.getLast? with|none=>0|some x=>x.time+secsI t x.side
 cnt:s.plays.length+trues s.pins+s.q.length<=t.pres.length
def Inv.press{t:Tray}(ht:TrayOk t){s:Cs}(hs:CsOk t s)(h:Inv t s):Inv t s.press:=by(have hl:∀p∈s.q,0<=p.side/\p.side<(s.pins.length:Int):=fun p hp=>by have:=(hs.q p hp).1;have:=hs.pins;omega);obtain⟨h1,h2⟩:=Zfs s.now s.q s.pins hl;refine⟨fun p hp=>?_,h.ply,h.spc,h.end_,?_⟩;{rcases h.srv p hp with h3|⟨h3,h4⟩;{rcases h2 p h3 with h5|⟨h5,h6⟩;{exact .inl h5};{exact .inr ⟨h5,.inl h6⟩}};{rcases h4 with h4|h4;{exact .inr ⟨h3,.inl (h1 _ h4)⟩};{exact .inr ⟨h3,.inr h4⟩}}};{have:=Zg4 s.now s.q s.pins;have:=h.cnt;show s.plays.length+trues (ZaZ s.now s.q s.pins).2+(ZaZ s.now s.q s.pins).1.length<=_;omega}
def Inv.act1{t:Tray}(ht:TrayOk t){s s':Cs}(hs:CsOk t s)(hpr:Zee s)(h:Inv t s)(e:s.act1 t=some s'):Inv t s':=by rcases ZeH e with⟨p,q,hq,hpins,rfl⟩|⟨hpins,rfl⟩;{have hnow:=hpr p (by rw[hq];simp);refine⟨fun x hx=>?_,fun x hx=>?_,h.spc,h.end_,h.cnt⟩;{rcases h.srv x hx with h3|⟨h3,h4⟩;{exact .inl h3};{exact .inr ⟨by simp only;omega,h4⟩}};{have:=h.ply x hx;simp only;omega}};{obtain⟨n1,n2,n3,n4⟩:=Zj1 t (s.play t);obtain⟨m1,m2,m3,m4⟩:=ZvN ht.step.1 (s.play t);have hpos:=Zj9 hs;have hsec:=Zd0 ht hpos;have hst:=ht.step;by_cases hp:s.pins.getD s.pos false=true;{obtain⟨p1,p2,p3,p4,p5,p6⟩:=Zlh (t:=t) hp;(have hsI:secsI t ((s.pos:Nat):Int)=Zi9 t s.pos:=by unfold secsI;rw[Yr]);refine⟨fun x hx=>?_,fun x hx=>?_,?_,?_,?_⟩;{rw[n1,n2,n3,p1,p2,p3];rcases h.srv x hx with h3|⟨h3,h4⟩;{exact .inl h3};{refine .inr ⟨Kc,?_⟩;rcases h4 with h4|⟨y,hy,hy2⟩;{by_cases es:s.pos=x.side.toNat;{refine .inr ⟨⟨s.pos,s.now⟩,Kd,?_,h3⟩;have:=(ht.pres x hx).1;simp only;omega};{refine .inl ?_;rw[Yb,Y5,Yx es,<-Yb];exact h4}};{exact .inr ⟨y,by simp[hy],hy2⟩}}};{rw[n3,p3]at hx;rcases YD.1 hx with hx|hx;{have:=h.ply x hx;omega};{simp only[Yk]at hx;subst hx;have:=hs.now;simp only[hsI];omega}};{rw[n3,p3];refine YcD.2 ⟨h.spc,Kd,fun x hx y hy=>?_⟩;simp only[Yk]at hy;subst hy;exact(h.ply x hx).2.2.2};{rw[n4,p5,n3,p3,List.getLast?_concat];simp only[hsI]};{rw[n1,n2,n3,p1,p2,p3,Yw];have:=ZeD hp;have:=h.cnt;simp only[Yo,YI];omega}};{rw[ZnR hp]at n1 n2 n3 n4 m1 m2 m3 m4|-;refine⟨fun x hx=>?_,fun x hx=>?_,?_,?_,?_⟩;{rw[n1,n2,n3];rcases h.srv x hx with h3|⟨h3,h4⟩;{exact .inl h3};{exact .inr ⟨Kc,h4⟩}};{rw[n3]at hx;have:=h.ply x hx;omega};{rw[n3];exact h.spc};{rw[n4,n3];exact h.end_};{rw[n1,n2,n3];exact h.cnt}}}
def Inv.start{t:Tray}{q:List Pr}(hq:q.Perm t.pres):Inv t ((start t q).mark (-1)):=by refine⟨fun p hp=> .inl (hq.mem_iff.2 hp),fun x hx=>?_,List.Pairwise.nil,rfl,?_⟩;{cases hx};{(show 0+trues (List.replicate (2*t.n) false)+q.length<=_;have:trues (List.replicate (2*t.n) false)=0:=by unfold trues;rw[List.countP_eq_zero];intro a ha;have:=(List.mem_replicate.1 ha).2;simp[this]);have:=hq.length_eq;omega}
structure RunOk(t:Tray)(s:Cs):Prop where
 inv:Inv t s
 now:s.now<=300000
 steps:0<=s.steps/\s.steps<=200
 q:s.q=[]
 pins:s.pins.all (!·)=true
 spells:s.spells.length<=1000
def ZCN{t:Tray}(ht:TrayOk t){q:List Pr}(hq:q.Perm t.pres)(hqs:q.Pairwise fun a b=>a.time<=b.time):RunOk t (Za3 t q):=by
 obtain⟨k,hk,⟨h1,h2,h3,h4⟩,h5,_,_⟩:=Zhq ht hq hqs (fun k s=>Inv t s/\s.now<=10000+1059*(k:Int)/\(0<=s.steps/\s.steps<=(k:Int))/\s.spells.length<=1+3*k) ⟨Inv.start hq,by simp[start,Cs.mark],by simp[start,Cs.mark],by simp[start,Cs.mark]⟩
  (fun k s hs ⟨i1,i2,i3,i4⟩=>⟨i1.press ht hs,i2,i3,i4⟩)
  (fun k s s' hs hpr ⟨i1,i2,i3,i4⟩ e =>by
   have hg:=ZjJ ht hs e;refine⟨i1.act1 ht hs hpr e,?_,?_,?_⟩
   ·rcases hg.now with h|h<;>omega
   ·have:=hg.steps;omega
   ·have:=hg.spells;omega)
 obtain⟨e1,e2⟩:=Zrl h5;exact⟨h1,Kc,Kc,e1,e2,Kc⟩
def Za2:List Pr->Pr->Int->Int
 |[],_,_=> -1
 |x::l,p,k=>if x.side=p.side/\p.time<=x.time then k else Za2 l p (k+1)
def Zg7(p:Pr):∀(l:List Pr)(k:Int),(Za2 l p k= -1/\∀x∈l,¬(x.side=p.side/\p.time<=x.time))\/∃j,∃h:j<l.length,Za2 l p k=k+j/\(l[j].side=p.side/\p.time<=l[j].time)/\∀i (hi:i<j),¬((l[i]'Kc).side=p.side/\p.time<=(l[i]'Kc).time)
 |[],k=> .inl ⟨rfl,Kd⟩
 |x::l,k=>by by_cases h:x.side=p.side/\p.time<=x.time;{refine .inr ⟨0,Kd,?_,h,fun i hi=>Kc⟩;simp only[Za2,Yt h];simp};{(have e:Za2 (x::l) p k=Za2 l p (k+1):=by simp only[Za2,Yx h]);rcases Zg7 p l (k+1)with⟨h1,h2⟩|⟨j,hj,h1,h2,h3⟩;{refine .inl ⟨by rw[e,h1],fun y hy=>?_⟩;rcases YF.1 hy with rfl|hy;{exact h};{exact h2 y hy}};{(refine .inr ⟨j+1,by simpa using hj,by rw[e,h1];omega,h2,fun i hi=>?_⟩;cases i with|zero=>exact h|succ i=>exact h3 i Kc)}}
def ZaC(t:Tray):List Pr:=(Zbl t).plays
def ZmR{t:Tray}{s:Cs}(h:RunOk t s){p:Pr}(hp:p∈t.pres):∃j,∃h:j<s.plays.length,Za2 s.plays p 0=(j:Int)/\(s.plays[j].side=p.side/\p.time<=s.plays[j].time)/\∀i (hi:i<j),¬((s.plays[i]'Kc).side=p.side/\p.time<=(s.plays[i]'Kc).time):=by rcases Zg7 p s.plays 0 with⟨h1,h2⟩|⟨j,hj,h1,h2,h3⟩;{exfalso;rcases h.inv.srv p hp with h3|⟨h3,h4⟩;{rw[h.q]at h3;cases h3};{rcases h4 with h4|⟨x,hx,hx2⟩;{(have hk:p.side.toNat<s.pins.length:=by rcases YaG p.side.toNat s.pins.length with h|h;{exact h};{rw[Yb,YW h]at h4;simp at h4});rw[Yb,Yd hk]at h4;have:=Yn.1 h.pins _ (Yv hk);simp at h4;rw[h4]at this;cases this};{exact h2 x hx hx2}}};{exact⟨j,hj,by rw[h1];omega,h2,h3⟩}
def Ziv{t:Tray}(ht:TrayOk t):RunOk t (Zbl t):=ZCN ht (ZcP t.pres) (Zcx t.pres)
def Zxl(p:Pr):AV:=.agg [iv p.side,iv p.time]
def Zlv(p x:Pr):Bool:=(x.side==p.side)&&decide (p.time<=x.time)
def ZmS(p:Pr){l:List Pr}{k:Nat}(h:k<l.length):Za2 (l.drop k) p (k:Int)=if Zlv p l[k]=true then(k:Int)else Za2 (l.drop (k+1)) p ((k+1:Nat):Int):=by rw[Yan h];simp only[Za2,Zlv,Yf,YaX,Yl];split<;>simp
def ZiL{t:Tray}(ht:TrayOk t):(ZaC t).length<=13:=by have:=(Ziv ht).inv.cnt;have:=ht.p13;unfold ZaC;omega
def inR(t:Tray)(k:Int):Bool:=Zad k 0 ((t.pres.length:Int)-1)
def Tray.pr(t:Tray)(k:Int):Pr:=t.pres.getD k.toNat default
def Zc4(t:Tray)(k:Int):Int×List Pr×Int:=if t.ok then(if inR t k then(Za2 (ZaC t) (t.pr k) 0,ZaC t,0)else(0,[],1))else(0,[],20)
def Zhr{t:Tray}{k:Int}(h:inR t k=true):0<=k/\k<(t.pres.length:Int):=by simp[inR,Zad]at h;omega
def ZqT(t:Tray)(k:Int):Int:=((ZaC t).getD (Za2 (ZaC t) (t.pr k) 0).toNat default).time-(t.pr k).time
def Zhj(t:Tray)(k:Int):Int×Int:=if(Zc4 t k).2.2=0 then(ZqT t k,0)else(0,(Zc4 t k).2.2)
def Zjb{t:Tray}{k:Int}(h:(Zc4 t k).2.2=0):t.ok=true/\inR t k=true/\Zc4 t k=(Za2 (ZaC t) (t.pr k) 0,ZaC t,0):=by unfold Zc4 at h|-;cases hok:t.ok<;>cases hin:inR t k<;>simp[hok,hin]at h|-
def ZdJ{t:Tray}(ht:TrayOk t){k:Int}(hk:inR t k=true):∃j,∃h:j<(ZaC t).length,Za2 (ZaC t) (t.pr k) 0=(j:Int)/\(ZaC t)[j].side=(t.pr k).side/\(t.pr k).time<=(ZaC t)[j].time/\ZqT t k=(ZaC t)[j].time-(t.pr k).time/\0<=(ZaC t)[j].time/\(ZaC t)[j].time<=300000/\0<=(t.pr k).time/\(t.pr k).time<=9999:=by obtain⟨h0,h1⟩:=Zhr hk;(have hk':k.toNat<t.pres.length:=by omega);(have hpr:t.pr k=t.pres[k.toNat]:=by simp[Tray.pr,hk']);(have hm:t.pr k∈t.pres:=by rw[hpr];exact Yv hk');have hg:=Ziv ht;obtain⟨j,hj,h2,h3,h4⟩:=ZmR hg hm;have hpl:=hg.inv.ply _ (Yv hj);have hsc:=Zd0 ht (s:=((Zbl t).plays[j]).side.toNat) Kc;have hno:=hg.now;have hpp:=(ht.pres _ hm).2;refine⟨j,hj,h2,h3.1,h3.2,?_,hpl.2.2.1,?_,hpp⟩;{show((Zbl t).plays.getD (Za2 (Zbl t).plays (t.pr k) 0).toNat default).time-(t.pr k).time=(Zbl t).plays[j].time-(t.pr k).time;rw[h2,Yr,Yb,Yd hj];rfl};{have:=hpl.2.2.2;unfold secsI at this;show((Zbl t).plays[j]).time<=_;omega}
def Za7(t:Tray):Int:=if t.ok then(if t.pres.length=0 then 3 else 0)else 20
def ZbZ{t:Tray}(h:Za7 t=0):t.ok=true/\t.pres.length≠0:=by unfold Za7 at h;cases hok:t.ok;{simp[hok]at h};{refine⟨rfl,fun h0=>?_⟩;simp[hok,h0]at h}
def Zr2(t:Tray):Int×Int:=if Za7 t=0 then((Zbl t).end_,0)else(0,Za7 t)
def Zn6(n c:Nat):Nat:=if c<n then 2*c else 2*(2*n-1-c)+1
def ZtV{n k:Nat}(up:Bool)(h:k<n):Zn6 n (cyc n k up)=sideAt k up:=by unfold Zn6 cyc sideAt;cases up;{simp only[Yp,YA];split<;>omega};{simp only[YJ];split<;>omega}
def goC(t:Tray)(c:Nat):Int:=if c+1=t.n\/c+1=2*t.n then 0 else t.step
def Zjt(t:Tray)(c:Nat):Int:=Zi9 t (Zn6 t.n c)+goC t c
def Zji(t:Tray):Nat->Int
 |0=>0
 |k+1=>Zji t k+Zjt t k
def roundC(t:Tray):Int:=Zji t (2*t.n)
def timeC(t:Tray)(c d:Nat):Int:=if c<=d then Zji t d-Zji t c else roundC t-Zji t c+Zji t d
def Zwr{n c:Nat}(h:c<2*n):Zn6 n c<2*n:=by unfold Zn6;split<;>omega
def Zmd{t:Tray}(ht:TrayOk t){c:Nat}(h:c<2*t.n):0<=Zjt t c:=by have h1:=Zd0 ht (Zwr h);have h2:=ht.step;unfold Zjt goC;split<;>omega
def ZmF{t:Tray}(ht:TrayOk t){a:Nat}:∀(k:Nat),a+k<=2*t.n->Zji t a<=Zji t (a+k)
 |0,_=>Yar _
 |k+1,h=>by have h1:=ZmF ht (a:=a) k Kc;have h2:=Zmd ht (c:=a+k) Kc;rw[<-YcF];show _<=Zji t (a+k)+Zjt t (a+k);omega
def ZgI{t:Tray}(ht:TrayOk t){a b:Nat}(h:a<=b)(hb:b<=2*t.n):Zji t a<=Zji t b:=by have:=ZmF ht (a:=a) (b-a) Kc;rwa [show a+(b-a)=b from by omega]at this
def ZiM{t:Tray}(ht:TrayOk t){a:Nat}(h:a<=2*t.n):0<=Zji t a:=ZgI ht (YC a) h
def ZpE{t:Tray}(ht:TrayOk t){c d:Nat}(hc:c<2*t.n)(hd:d<2*t.n):timeC t c d<=roundC t:=by have h1:=ZgI ht (a:=d) (b:=2*t.n) Kc Kc;have h2:=ZiM ht (a:=c) Kc;unfold timeC roundC at*;split;{omega};{have:=ZgI ht (a:=d) (b:=c) Kc Kc;omega}
def ZqQ(t:Tray)(c:Nat):timeC t c c=0:=by unfold timeC;rw[Yt (Yi _)];omega
def Zkr{t:Tray}(ht:TrayOk t){c d:Nat}(hc:c<2*t.n)(hd:d<2*t.n):timeC t (ZcX t.n c) d+Zjt t c<=roundC t/\(c≠d->timeC t (ZcX t.n c) d+Zjt t c=timeC t c d):=by have hs:Zji t (c+1)=Zji t c+Zjt t c:=rfl;have h0:Zji t 0=0:=rfl;have h1:=ZiM ht (a:=c) Kc;unfold ZcX;by_cases e:c+1=2*t.n;{rw[Yt e];have h2:=ZgI ht (a:=d) (b:=c) Kc Kc;(have h3:roundC t=Zji t (c+1):=by unfold roundC;rw[e]);(have h4:timeC t 0 d=Zji t d:=by unfold timeC;rw[Yt (YC _)];omega);refine⟨Kc,fun hne=>?_⟩;rw[h4];unfold timeC;rw[Yx Kc];omega};{rw[Yx e];by_cases hcd:c+1<=d;{have h2:=ZgI ht (a:=d) (b:=2*t.n) Kc Kc;(have h4:timeC t (c+1) d=Zji t d-Zji t (c+1):=by unfold timeC;rw[Yt hcd]);refine⟨by unfold roundC;omega,fun hne=>?_⟩;rw[h4];unfold timeC;rw[Yt Kc];omega};{have h2:=ZgI ht (a:=d) (b:=c) Kc Kc;(have h4:timeC t (c+1) d=roundC t-Zji t (c+1)+Zji t d:=by unfold timeC;rw[Yx hcd]);refine⟨Kc,fun hne=>?_⟩;rw[h4];unfold timeC;rw[Yx Kc];omega}}
def ZsW{t:Tray}{s:Cs}(h:s.at_<t.n):(s.move t).now=s.now+goC t (s.c t):=by unfold Cs.move Cs.c cyc goC;cases s.up;{simp only[Yp,YA];by_cases h0:0<s.at_;{rw[Yt h0,Yx Kc]};{rw[Yx h0,Yt Kc];simp}};{simp only[YJ];by_cases h0:s.at_+1<t.n;{rw[Yt h0,Yx Kc]};{rw[Yx h0,Yt Kc];simp}}
def ZiN(now:Int):∀(q:List Pr)(pins:List Bool)(k:Nat),(ZaZ now q pins).2.getD k false=true->pins.getD k false=true\/∃p∈q,p.side.toNat=k/\p.time<=now
 |[],pins,k,h=> .inl h
 |a::q,pins,k,h=>by simp only[ZaZ]at h;split at h;{rename_i hle;rcases ZiN now q _ k h with h1|⟨p,hp,h1⟩;{by_cases e:a.side.toNat=k;{exact .inr ⟨a,Kd,e,hle⟩};{left;rw[Yb,Y5,Yx e,<-Yb]at h1;exact h1}};{exact .inr ⟨p,by simp[hp],h1⟩}};{exact .inl h}
def Zkb(now:Int)(q:List Pr)(pins:List Bool):∀p∈(ZaZ now q pins).1,p∈q:=by obtain⟨k,hk⟩:=Zb7 now q pins;intro p hp;rw[hk]at hp;exact YbT hp
def PlyOk(t:Tray)(l:List Pr):Prop:=∀i (h:i<l.length),∃p∈t.pres,p.side=l[i].side/\p.time<=l[i].time/\∀j (hj:j<i),(l[j]'Kc).side=p.side->(l[j]'Kc).time<p.time
structure Due(t:Tray)(s:Cs):Prop where
 due:∀p∈t.pres,((p∈s.q\/(p.time<=s.now/\s.pins.getD p.side.toNat false=true))/\s.now+timeC t (s.c t) (cycOf t.n p.side.toNat)<=p.time+roundC t)\/∃x∈s.plays,x.side=p.side/\p.time<=x.time/\x.time<=p.time+roundC t
 sub:∀p∈s.q,p∈t.pres
 late:∀p∈s.q,∀y∈s.plays,y.time<p.time
 pin:∀k,s.pins.getD k false=true->∃p∈t.pres,p.side=(k:Int)/\p.time<=s.now/\∀y∈s.plays,y.side=p.side->y.time<p.time
 ply:PlyOk t s.plays
def Due.press{t:Tray}(ht:TrayOk t){s:Cs}(hs:CsOk t s)(h:Due t s):Due t s.press:=by(have hl:∀p∈s.q,0<=p.side/\p.side<(s.pins.length:Int):=fun p hp=>by have:=(hs.q p hp).1;have:=hs.pins;omega);obtain⟨h1,h2⟩:=Zfs s.now s.q s.pins hl;refine⟨fun p hp=>?_,fun p hp=>h.sub p (Zkb _ _ _ p hp),fun p hp=>h.late p (Zkb _ _ _ p hp),fun k hk=>?_,h.ply⟩;{rcases h.due p hp with⟨h3,h4⟩|h3;{refine .inl ⟨?_,h4⟩;rcases h3 with h3|⟨h3,h5⟩;{rcases h2 p h3 with h5|⟨h5,h6⟩;{exact .inl h5};{exact .inr ⟨h5,h6⟩}};{exact .inr ⟨h3,h1 _ h5⟩}};{exact .inr h3}};{rcases ZiN s.now s.q s.pins k hk with h3|⟨p,hp,h3,h4⟩;{exact h.pin k h3};{refine⟨p,h.sub p hp,?_,h4,fun y hy _=>h.late p hp y hy⟩;have:=(hl p hp).1;omega}}
def Due.act1{t:Tray}(ht:TrayOk t){s s':Cs}(hs:CsOk t s)(hpr:Zee s)(h:Due t s)(e:s.act1 t=some s'):Due t s':=by have hc:s.c t<2*t.n:=Cs.c_lt hs;have hdl:∀p∈t.pres,cycOf t.n p.side.toNat<2*t.n:=fun p hp=>ZfR (by have:=(ht.pres p hp).1;omega);rcases ZeH e with⟨p,q,hq,hpins,rfl⟩|⟨hpins,rfl⟩;{have hnow:=hpr p (by rw[hq];simp);(have hall:∀k,¬s.pins.getD k false=true:=fun k hk=>by(have hkl:k<s.pins.length:=by rcases YaG k s.pins.length with h|h;{exact h};{rw[Yb,YW h]at hk;simp at hk});rw[Yb,Yd hkl]at hk;have:=Yn.1 hpins _ (Yv hkl);simp at hk;rw[hk]at this;cases this);refine⟨fun x hx=>?_,h.sub,h.late,fun k hk=>absurd hk (hall k),h.ply⟩;rcases h.due x hx with⟨h3,h4⟩|h3;{rcases h3 with h3|⟨_,h3⟩;{refine .inl ⟨.inl h3,?_⟩;have h5:=ZpE ht hc (hdl x hx);(have h6:p.time<=x.time:=by have hso:=hs.sorted;rw[hq]at h3 hso;rcases YF.1 h3 with rfl|h3;{exact Yar _};{exact(Ycc.1 hso).1 x h3});show p.time+timeC t (s.c t) _<=_;omega};{exact absurd h3 (hall _)}};{exact .inr h3}};{obtain⟨n1,n2,n3,n4⟩:=Zj1 t (s.play t);have hpos:=Zj9 hs;have hsec:=Zd0 ht hpos;have ea:(s.play t).at_=s.at_/\(s.play t).up=s.up:=⟨(Zcv t s).2.2.1,(Zcv t s).2.2.2⟩;(have hat:(s.play t).at_<t.n:=by rw[ea.1];exact hs.at_);(have ec:(s.play t).c t=s.c t:=by unfold Cs.c;rw[ea.1,ea.2]);(have hmv:((s.play t).next t).now=(s.play t).now+goC t (s.c t):=by rw[<-ec];exact ZsW hat);(have hcn:((s.play t).next t).c t=ZcX t.n (s.c t):=by rw[<-ec];exact(Zpi (t:=t) hat).1);have hps:Zn6 t.n (s.c t)=s.pos:=ZtV s.up hs.at_;(have hcost:Zjt t (s.c t)=Zi9 t s.pos+goC t (s.c t):=by unfold Zjt;rw[hps]);have hcp:cycOf t.n s.pos=s.c t:=ZrZ t s;(have hgo:0<=goC t (s.c t):=by have:=ht.step;unfold goC;split<;>omega);by_cases hp:s.pins.getD s.pos false=true;{obtain⟨p1,p2,p3,p4,p5,p6⟩:=Zlh (t:=t) hp;refine⟨fun x hx=>?_,fun x hx=>?_,fun x hx y hy=>?_,fun k hk=>?_,?_⟩;{rw[n1,n2,n3,p1,p2,p3,hmv,hcn,p4];have hx1:=(ht.pres x hx).1;obtain⟨t1,t2⟩:=Zkr ht hc (hdl x hx);rcases h.due x hx with⟨h3,h4⟩|⟨y,hy,hy2⟩;{rcases h3 with h3|⟨h3,h5⟩;{have:=hpr x h3;exact .inl ⟨.inl h3,Kc⟩};{by_cases es:s.pos=x.side.toNat;{refine .inr ⟨⟨s.pos,s.now⟩,Kd,by simp only;omega,h3,?_⟩;rw[<-es,hcp,ZqQ]at h4;simp only;omega};{have hne:s.c t≠cycOf t.n x.side.toNat:=fun e=>es (ZfQ hpos Kc (by rw[hcp,e]));have t3:=t2 hne;refine .inl ⟨.inr ⟨Kc,?_⟩,Kc⟩;rw[Yb,Y5,Yx es,<-Yb];exact h5}}};{exact .inr ⟨y,by simp[hy],hy2⟩}};{rw[n1,p1]at hx;exact h.sub x hx};{rw[n1,p1]at hx;rw[n3,p3]at hy;rcases YD.1 hy with hy|hy;{exact h.late x hx y hy};{simp only[Yk]at hy;subst hy;exact hpr x hx}};{rw[n2,p2]at hk;(have hne:s.pos≠k:=by rintro rfl;rw[Yb,Y5,Yt rfl]at hk;split at hk<;>simp at hk);rw[Yb,Y5,Yx hne,<-Yb]at hk;obtain⟨p,hp1,hp2,hp3,hp4⟩:=h.pin k hk;refine⟨p,hp1,hp2,by rw[hmv,p4];omega,fun y hy hy2=>?_⟩;rw[n3,p3]at hy;rcases YD.1 hy with hy|hy;{exact hp4 y hy hy2};{simp only[Yk]at hy;subst hy;simp only at hy2;omega}};{rw[n3,p3];intro i hi;by_cases hil:i<s.plays.length;{obtain⟨p,h1,h2,h3,h4⟩:=h.ply i hil;refine⟨p,h1,by rw[Yby hil];exact h2,by rw[Yby hil];exact h3,fun j hj=>?_⟩;rw[Yby Kc];exact h4 j hj};{(have hii:i=s.plays.length:=by simp at hi;omega);subst hii;obtain⟨p,hp1,hp2,hp3,hp4⟩:=h.pin s.pos hp;refine⟨p,hp1,by simp[hp2],by simp;exact hp3,fun j hj=>?_⟩;rw[Yby hj];exact hp4 _ (Yv hj)}}};{rw[ZnR hp]at n1 n2 n3 n4 hmv hcn|-;refine⟨fun x hx=>?_,fun x hx=>?_,fun x hx y hy=>?_,fun k hk=>?_,?_⟩;{rw[n1,n2,n3,hmv,hcn];have hx1:=(ht.pres x hx).1;obtain⟨t1,t2⟩:=Zkr ht hc (hdl x hx);rcases h.due x hx with⟨h3,h4⟩|h3;{rcases h3 with h3|⟨h3,h5⟩;{have:=hpr x h3;exact .inl ⟨.inl h3,Kc⟩};{(have es:¬s.pos=x.side.toNat:=fun e=>by rw[<-e]at h5;exact hp h5);have hne:s.c t≠cycOf t.n x.side.toNat:=fun e=>es (ZfQ hpos Kc (by rw[hcp,e]));have t3:=t2 hne;exact .inl ⟨.inr ⟨Kc,h5⟩,Kc⟩}};{exact .inr h3}};{rw[n1]at hx;exact h.sub x hx};{rw[n1]at hx;rw[n3]at hy;exact h.late x hx y hy};{rw[n2]at hk;obtain⟨p,hp1,hp2,hp3,hp4⟩:=h.pin k hk;exact⟨p,hp1,hp2,by rw[hmv];omega,fun y hy hy2=>hp4 y (by rwa [n3]at hy) hy2⟩};{rw[n3];exact h.ply}}}
def due{t:Tray}(ht:TrayOk t){q:List Pr}(hq:q.Perm t.pres)(hqs:q.Pairwise fun a b=>a.time<=b.time):Due t (Za3 t q):=by
 have h0:=Zjc ht hq hqs;obtain⟨k,_,h,_,_,_⟩:=Zhq ht hq hqs (fun _ s =>Due t s) (by
  refine⟨fun p hp=> .inl ⟨.inl (hq.mem_iff.2 hp),?_⟩,fun p hp=>hq.mem_iff.1 hp,fun p hp y hy=>(by cases hy),fun k hk=>?_,fun i hi=>absurd hi (Nat.not_lt_zero i)⟩
  ·have h1:=ZpE ht (Cs.c_lt h0) (ZfR (n:=t.n) (s:=p.side.toNat) (by have:=(ht.pres p hp).1;omega));have h2:=(ht.pres p hp).2;show(0:Int)+_<=_;omega
  ·have hk:(List.replicate (2*t.n) false).getD k false=true:=hk;rw[Yb,List.getElem?_replicate]at hk;split at hk<;>simp at hk)
  (fun k s hs h=>h.press ht hs) (fun k s s' hs hpr h e=>h.act1 ht hs hpr e)
 exact h
def ZqU{t:Tray}(ht:TrayOk t){k:Int}(hk:inR t k=true):ZqT t k<=roundC t:=by have hd:=due ht (ZcP t.pres) (Zcx t.pres);have hr:=Ziv ht;obtain⟨j,hj,h1,h2,h3,h4,_⟩:=ZdJ ht hk;have hkk:=Zhr hk;(have hp:t.pr k∈t.pres:=by unfold Tray.pr;rw[Yb,Yd Kc];exact Yv _);obtain⟨j',hj',h1',h2',h3'⟩:=ZmR hr hp;(have ejj:j'=j:=by have:Za2 (ZaC t) (t.pr k) 0=(j':Int):=h1';omega);subst ejj;rcases hd.due _ hp with⟨h5,_⟩|⟨x,hx,hx1,hx2,hx3⟩;{exfalso;have hq:(Za3 t (Ze2 t.pres)).q=[]:=hr.q;have hpn:(Za3 t (Ze2 t.pres)).pins.all (!·)=true:=hr.pins;rcases h5 with h5|⟨_,h5⟩;{rw[hq]at h5;cases h5};{generalize(Za3 t (Ze2 t.pres)).pins=P at*;generalize(t.pr k).side.toNat=i at*;(have hkl:i<P.length:=by rcases YaG i P.length with h|h;{exact h};{rw[Yb,YW h]at h5;simp at h5});rw[Yb,Yd hkl]at h5;have:=Yn.1 hpn _ (Yv hkl);simp at h5;rw[h5]at this;cases this}};{obtain⟨i,hi,rfl⟩:=Ybb hx;have hi:i<(ZaC t).length:=hi;(have hij:j'<=i:=by rcases YaG i j' with h|h;{exact absurd ⟨hx1,hx2⟩ (h3' i h)};{exact h});(have hle:(ZaC t)[j'].time<=(ZaC t)[i].time:=by rcases YaG j' i with h|h;{have h6:=YbW.1 hr.inv.spc j' i hj hi h;have h7:=hr.inv.ply _ (Yv hj);have h8:=Zd0 ht (s:=(ZaC t)[j'].side.toNat) (by have h7:0<=(ZaC t)[j'].side/\(ZaC t)[j'].side<2*(t.n:Int)/\_:=h7;omega);have h6:(ZaC t)[j'].time+secsI t (ZaC t)[j'].side<=(ZaC t)[i].time:=h6;unfold secsI at h6;omega};{(have:j'=i:=by omega);subst this;exact Yar _});have hx3:(ZaC t)[i].time<=_:=hx3;omega}
def ZAa(t:Tray):Nat->Int
 |0=>0
 |k+1=>ZAa t k+((t.rc k).front+(t.rc k).back)
def ZtM{t:Tray}(ht:TrayOk t):roundC t=2*t.step*((t.n:Int)-1)+ZAa t t.n:=by
 have h6:=ht.n6;have h1:=ht.n1;unfold roundC;generalize hn:t.n=n at*;rcases(by omega:n=1\/n=2\/n=3\/n=4\/n=5\/n=6)with rfl|rfl|rfl|rfl|rfl|rfl<;>
  simp[Zji,Zjt,goC,Zn6,hn,Zi9,ZAa]<;>omega
def ZBw:Cz [] 114:=ec
def ZBv:Cz [] 113:=ec
abbrev ZAi:List Nat:=[0,1,7]
def ZFI:Cz [] 72:=ec
def Zz5:Cz [] 69:=ec
def ZDi:Cz [] 25:=ec [(4,14336,[])]
def ZDl:Cz [] 70:=ec
def ZDk:Cz [] 27:=ec
def Zwo(p x:Pr):Fq 114 [Zxl x,.c (.pt p.cds)] (.c (.bool (Zlv p x))):=by refine vE ZBw.h fun C hP hN hC hL=>?_;simp only[ZBw,Zxl,Pr.cds];(refine vU ?_;try exact trivial)
def Zys(p:Pr)(l:List Pr)(hl:l.length<=100000):Fq 113 [.c (Zbb l),.fn 114 [.c (.pt p.cds)]] (iv (Za2 l p 0)):=by refine vE ZBv.h fun C hP hN hC hL=>?_;simp only[ZBv];refine vR9 ?_;(refine Zam ZAi [] (fun k:Nat=>k<=l.length/\Za2 l p 0=Za2 (l.drop k) p k) (fun k=>l.length-k) (fun k=>[(8,iv k)]) (fun _=>[]) 0 ⟨YC _,rfl⟩ ?_ ?_);{exact Zak};{intro k ⟨hk,hx⟩;simp only[go_sem];refine vR ?_;refine vC ?_ ?_<;>intro h;{(have h:k<l.length:=by simpa using h);(have hI:(k:Int)<(l.length:Int):=by omega);have hw2:=vw (n:=(k:Int)+1);rw[ZmS p h]at hx;have hs:=Zwo p l[k];(repeat(refine vV ?_;(try simp only[go_sem,hP,Zax h,hI,Yc,Pr.cds,YB]);refine vQ ?_));(refine Zal (hs) ?_;simp only[go_sem,hP,Zxl,Pr.cds];refine vQ ?_;(repeat(refine vV ?_;(try simp only[go_sem,hP,Zxl,Pr.cds]);refine vQ ?_)));cases hb:Zlv p l[k];{rw[hb]at hx;refine vC ?_ ?_<;>intro h;{simp at h};{refine vW hw2 ?_;refine⟨k+1,⟨Kc,by rw[hx];rfl⟩,Kc,?_⟩;exact Zak}};{rw[hb]at hx;refine vC ?_ ?_<;>intro h;{(refine vU ?_;try exact trivial);rw[hx];rfl};{simp at h}}};{(have h:k=l.length:=by simp at h;omega);subst h;(refine vU ?_;try exact trivial);rw[hx,Ycv];rfl}}
def Zlu(l:List Pr)(p:Pr)(hl:l.length<=100000):Fq 72 [.c (Zbb l),Zxl p] (iv (Za2 l p 0)):=by refine vE ZFI.h fun C hP hN hC hL=>?_;simp only[ZFI,Zxl];(refine ZgU ?_;refine vN ?_);refine Zeg 3 (ds:=p.cds) rfl rfl ?_;simp only[go_sem,Pr.cds];refine vR ?_;(refine Zal (Zys p l hl) ?_;simp only[go_sem,hP,Pr.cds];refine vQ ?_;(repeat(refine vV ?_;(try simp only[go_sem,hP,Pr.cds]);refine vQ ?_)));(refine vT ?_;try exact trivial)
def Zwn(t:Tray)(k:Int):Fq 69 [t.av,iv k] (.tup [iv (Zc4 t k).1,.c (Zbb (Zc4 t k).2.1),iv (Zc4 t k).2.2]):=by have hck:=check40 t;unfold Zc4;cases hok:t.ok;{simp only[hok,Yp,YA]at hck|-;refine vE Zz5.h fun C hP hN hC hL=>?_;simp only[Zz5,Tray.av];refine vR ?_;(refine Zal (hck) ?_;refine vS1 ?_);refine vC ?_ ?_<;>intro h;{refine vR ?_;(refine Zas ?_;simp only[Zaz,inQ,ZfE,Zcb,Zaq,ZbJ];simp only[go_sem,Zbu,AV.port,AV.portL,YU]);exact AVle.tup (AVles.cons (AVle.refl _) (AVles.cons (AVle.nil 2) (AVles.refl _)))};{simp at h}};simp only[hok,YJ]at hck|-;have ht:=(Tray.ok_spec hok).1;have hgo:=ZjS ht;have hpl:=ZiL ht;cases hin:inR t k;{(have hb:(decide (k<0)||decide ((t.pres.length:Int)<=k))=true:=by simp only[inR,Zad,YbM,Yax]at hin;simp;omega);simp only[Yp,YA];refine vE Zz5.h fun C hP hN hC hL=>?_;simp only[Zz5,Tray.av];refine vR ?_;(refine Zal (hck) ?_;refine vS1 ?_);refine vC ?_ ?_<;>intro h;{simp at h};{(repeat(refine vV ?_;(try simp only[go_sem,hP,Zbb,Yc,hb]);refine vQ ?_));refine vC ?_ ?_<;>intro h;{refine vR ?_;(refine Zas ?_;simp only[Zaz,inQ,ZfE,Zcb,Zaq,ZbJ];simp only[go_sem,Zbu,AV.port,AV.portL,YU]);exact AVle.tup (AVles.cons (AVle.refl _) (AVles.cons (AVle.nil 2) (AVles.refl _)))};{simp at h}}};{obtain⟨h0,h1⟩:=Zhr hin;(have hb:(decide (k<0)||decide ((t.pres.length:Int)<=k))=false:=by simp;omega);(have hk:k.toNat<t.pres.length:=by omega);(have hpr:t.pr k=t.pres[k.toNat]:=by simp[Tray.pr,hk]);have hse:=Zlu (ZaC t) (t.pr k) Kc;rw[hpr]at hse;simp only[YJ];refine vE Zz5.h fun C hP hN hC hL=>?_;simp only[Zz5,Tray.av];refine vR ?_;(refine Zal (hck) ?_;refine vS1 ?_);refine vC ?_ ?_<;>intro h;{simp at h};{(repeat(refine vV ?_;(try simp only[go_sem,hP,Zbb,Yc,hb]);refine vQ ?_));refine vC ?_ ?_<;>intro h;{simp at h};{refine vR ?_;(refine Zal (hgo) ?_;simp only[go_sem,hP,Tray.av,Cs.run,Zbb,Yc,Zax hk,h0,h1,Pr.cds];refine vQ ?_;(repeat(refine vV ?_;(try simp only[go_sem,hP,Tray.av,Cs.run,Zbb,Yc,Zax hk,h0,h1,Pr.cds]);refine vQ ?_)));(refine Zal (hse) ?_;simp only[go_sem,hP,Zxl,Zbb,ZaC];refine vQ ?_;(repeat(refine vV ?_;(try simp only[go_sem,hP,Zxl,Zbb,ZaC]);refine vQ ?_)));(refine vT ?_;try exact trivial);rw[hpr]}}}
def ZDa(t:Tray)(k:Int):Fq 25 [t.av,iv k] (.tup [iv (Zhj t k).1,iv (Zhj t k).2]):=by have hs:=Zwn t k;unfold Zhj;by_cases h0:(Zc4 t k).2.2=0;{rw[Yt h0];obtain⟨hok,hin,he⟩:=Zjb h0;have ht:=(Tray.ok_spec hok).1;obtain⟨j,hj,e1,e2,e3,e4,e5,e6,e7,e8⟩:=ZdJ ht hin;obtain⟨k0,k1⟩:=Zhr hin;(have hk:k.toNat<t.pres.length:=by omega);(have hpr:t.pr k=t.pres[k.toNat]:=by simp[Tray.pr,hk]);(have hjI:(j:Int)<((ZaC t).length:Int):=by omega);rw[he,e1]at hs;rw[e4];rw[hpr]at e3 e7 e8|-;have hw:=vw (n:=(ZaC t)[j].time-t.pres[k.toNat].time);refine vE ZDi.h fun C hP hN hC hL=>?_;simp only[ZDi,Tray.av];refine vR ?_;(refine Zal (hs) ?_;refine vS1 ?_);refine vC ?_ ?_<;>intro h;{simp at h};{(repeat(refine vV ?_;(try simp only[go_sem,hP,Zbb,Yc,Zax hj,Zax hk,hjI,k0,k1,Pr.cds,YB,hw]);refine vQ ?_));(refine vT ?_;try exact trivial)}};{rw[Yx h0];generalize Zc4 t k=X at*;(have hb:(X.2.2 !=0)=true:=by simpa using h0);refine vE ZDi.h fun C hP hN hC hL=>?_;simp only[ZDi,Tray.av];refine vR ?_;(refine Zal (hs) ?_;simp only[go_sem,hP,Tray.av,hb];refine vQ ?_;(repeat(refine vV ?_;(try simp only[go_sem,hP,Tray.av,hb]);refine vQ ?_)));refine vC ?_ ?_<;>intro h;{exact vUt};{simp at h}}
def ZiO(t:Tray):Fq 70 [t.av] (iv (Za7 t)):=by have hck:=check40 t;unfold Za7;cases hok:t.ok;{simp only[hok,Yp,YA]at hck|-;refine vE ZDl.h fun C hP hN hC hL=>?_;simp only[ZDl,Tray.av];refine vR ?_;(refine Zal (hck) ?_;refine vS1 ?_);refine vC ?_ ?_<;>intro h;{exact vUt};{simp at h}};{simp only[hok,YJ]at hck|-;refine vE ZDl.h fun C hP hN hC hL=>?_;simp only[ZDl,Tray.av];refine vR ?_;(refine Zal (hck) ?_;refine vS1 ?_);refine vC ?_ ?_<;>intro h;{simp at h};{refine vR9 ?_;refine vC ?_ ?_<;>intro h;{(have h:t.pres.length=0:=by simpa using h);(refine vU ?_;try exact trivial);rw[Yt h]};{(have h:¬t.pres.length=0:=by simpa using h);(refine vU ?_;try exact trivial);rw[Yx h]}}}
def ZDI(t:Tray):Fq 27 [t.av] (.tup [iv (Zr2 t).1,iv (Zr2 t).2]):=by have hck:=ZiO t;unfold Zr2;by_cases h0:Za7 t=0;{rw[Yt h0];rw[h0]at hck;have hgo:=ZjS (Tray.ok_spec (ZbZ h0).1).1;refine vE ZDk.h fun C hP hN hC hL=>?_;simp only[ZDk,Tray.av];refine vR ?_;(refine Zal (hck) ?_;refine vS1 ?_);refine vC ?_ ?_<;>intro h;{simp at h};{refine vR ?_;(refine Zal (hgo) ?_;simp only[go_sem,hP,Tray.av,Cs.run];refine vQ ?_;(repeat(refine vV ?_;(try simp only[go_sem,hP,Tray.av,Cs.run]);refine vQ ?_)));(refine vT ?_;try exact trivial)}};{rw[Yx h0];(have hb:(Za7 t !=0)=true:=by simpa using h0);refine vE ZDk.h fun C hP hN hC hL=>?_;simp only[ZDk,Tray.av];refine vR ?_;(refine Zal (hck) ?_;simp only[go_sem,hP,Tray.av,hb];refine vQ ?_;(repeat(refine vV ?_;(try simp only[go_sem,hP,Tray.av,hb]);refine vQ ?_)));refine vC ?_ ?_<;>intro h;{exact vUt};{simp at h}}
variable{tb:Obj}
def ZFZ:Cz [] 98:=ec [(3,8,[.b [0] [.l [1,2,3],.l [2,1,3]]])]
def ZFr:Cz [] 51:=ec
def exT:Tray:=⟨[⟨100,90⟩,⟨120,80⟩,⟨60,70⟩],0,1,5,[⟨3,0⟩,⟨4,10⟩,⟨0,12⟩,⟨3,50⟩,⟨0,300⟩]⟩
def exU:Tray:=⟨[⟨10,20⟩,⟨30,40⟩],0,-1,60,[⟨3,0⟩]⟩
def Zr6:Fq 98 [] (.tup [exT.av,exU.av]):=by refine vE ZFZ.h fun C hP hN hC hL=>?_;simp only[ZFZ];refine vR ?_;refine ZaS ?_;simp only[go_sem,hP];(repeat'(refine And.intro ?_ ?_));(all_goals(first|omega|skip));(all_goals(refine vR ?_));all_goals((refine vT ?_;try exact trivial))
def exB:Bar:=⟨⟨⟨50,[10,20,25],[5,10,25]⟩,[0,0,0],[0,0,0],[0,0,0],0,0⟩,0,0,⟨[⟨100,90⟩,⟨120,80⟩,⟨60,70⟩],0,1,5,[]⟩⟩
def Zr5:Fq 51 [] exB.av:=by have h:=Zr6;simp only[exT,exU,Tray.av,ZaT,Zbb,Ye,Yg,Rec.cds,Pr.cds]at h;refine vE ZFr.h fun C hP hN hC hL=>?_;simp only[ZFr];refine vR ?_;(refine Zal (h) ?_;refine vS ?_);(refine Zas ?_;simp only[Zaz,inQ,ZfE,Zcb,Zaq,ZbJ];simp only[go_sem,Zbu,AV.port,AV.portL,YU]);refine AVle.agg ?_;(repeat'(first|exact AVles.refl []|exact AVle.refl _|exact AVle.nil 2|refine AVles.cons ?_ ?_))
def ZfI{b:Bar}(h:Za5 b=true):BarLn b:=by unfold Za5 at h;simp only[Yf]at h;have h1:=Zbc h.1;obtain⟨h2,h3⟩:=Tray.ok_spec h.2.1;have e1:=h1.wh.nl;have e2:=h1.wh.cl;have e3:=h1.fl;have e4:=h1.ml;have e5:=h1.sl;have e6:=h2.n6;unfold Tray.n at e6;exact⟨Kc,Kc,Kc,Kc,Kc,Kc,Kc⟩
def Bar.avsV(b:Bar)(f m s:AV):List AV:=[iv b.box.wh.ro,.c (Zai b.box.wh.no),.c (Zai b.box.wh.co),f,m,s,iv b.box.pl,iv b.box.sk,iv b.pl,iv b.cr,.c (ZaT b.tray.recs),iv b.tray.at_,iv b.tray.way,iv b.tray.step,.c (Zbb b.tray.pres)]
def Zed(l:List Int)(g:Nat×Nat):Prop:=l.length<=g.1/\g.1<=maxLen/\g.1<=l.length+g.2
def wV0(l:List Int)(n m k cap:Nat):AV:=if m<k then .vw 1 n 0 l.length cap else .c (Zai l)
def wO0(l:List Int)(n m k j:Nat)(o:Nat->Ob):Nat->Ob:=if m<k then upd o n (.box (Zac zc l j))else o
def Zx9{b:Bar}(hb:BarLn b)(n1:b.box.fo≠[])(n2:b.box.ma≠[])(n3:b.box.sl≠[]):Fn 92 [b.av] (fun r os=>∃g1 g2 g3,Zed b.box.fo g1/\Zed b.box.ma g2/\Zed b.box.sl g3/\r= .agg (b.avsV (.vw 1 1000 0 b.box.fo.length g1.1) (.vw 1 1001 0 b.box.ma.length g2.1) (.vw 1 1002 0 b.box.sl.length g3.1))/\os=[.box (Zac zc b.box.fo g1.2),.box (Zac zc b.box.ma g2.2),.box (Zac zc b.box.sl g3.2)]):=by refine ZaL ZDn.h (Yi _) Kb fun C hP hN hC hL=>?_;rw[Zbh];simp only[ZDn,Bar.av,Bar.avs];refine vR ?_;refine Zf6 (e:=195) (n:=5) (sz:=1) (z:=List.replicate 5 (.c (.raw (.pointer none)))) (ps:=[(0,1,.t 7),(1,1,.t 10),(2,1,.t 12),(3,1,.t 14),(4,1,.t 16)]) (r:=[.bp 1 1,.bp 1 2,.bp 1 3,.bp 1 4,.bp 1 5]) Ka Ka Ka rfl ?_ rfl ?_ ?_;{intro i q hq;(have:i=0\/i=1\/i=2\/i=3\/i=4\/5<=i:=by omega);rcases this with rfl|rfl|rfl|rfl|rfl|h;(case inr.inr.inr.inr.inr=>rw[YW (by exact h)]at hq;cases hq);all_goals(cases hq;exact⟨_,rfl,rfl⟩)};{simp only[go_sem]};simp only[go_sem,hP];refine vR ?_;refine ZaE (fun p:Nat×(Nat×Nat)×(Nat×Nat)×(Nat×Nat)=>⟨upd (upd (upd (upd e0 1 (.bp 1 0)) 2 (.bp 2 0)) 17 (.agg [.bp 1 1,.bp 1 2,.bp 1 3,.bp 1 4,.bp 1 5])) 18 (iv p.1),upd (upd (wO0 b.box.sl 127 4 p.1 p.2.2.2.2 (wO0 b.box.ma 126 3 p.1 p.2.2.1.2 (wO0 b.box.fo 125 2 p.1 p.2.1.2 o0))) 1 (.box (b.avsV (wV0 b.box.fo 125 2 p.1 p.2.1.1) (wV0 b.box.ma 126 3 p.1 p.2.2.1.1) (wV0 b.box.sl 127 4 p.1 p.2.2.2.1)))) 2 (.box [iv 0,.c (.raw (.slice none 0 0)),.c (.raw (.slice none 0 0)),.c (.raw (.slice none 0 0)),.c (.raw (.slice none 0 0)),.c (.raw (.slice none 0 0)),iv 0,iv 0,iv 0,iv 0,.c (.raw (.slice none 0 0)),iv 0,iv 0,iv 0,.c (.raw (.slice none 0 0))])⟩) (fun p=>p.1<=5/\(2<p.1->Zed b.box.fo p.2.1)/\(3<p.1->Zed b.box.ma p.2.2.1)/\(4<p.1->Zed b.box.sl p.2.2.2)) (fun p=>5-p.1) (0,(0,0),(0,0),(0,0)) ⟨YC _,Kd,Kd,Kd⟩ ?_ ?_;{refine Zaf (by simp only[go_sem];exact Zaj) (by unfold Bar.avsV wV0 wO0;simp only[go_sem];exact Zaa)};rintro⟨k,g1,g2,g3⟩ ⟨hk,q1,q2,q3⟩;simp only at hk q1 q2 q3|-;refine vR ?_;refine vC ?_ ?_<;>intro h;{(have hi:k<5:=by simp at h;omega);(refine Zbq ?_;simp only[go_sem]);refine Zat (Zbe (Zat ?_));have w1:=vw (n:=(k:Int)+1);(have:k=0\/k=1\/k=2\/k=3\/k=4:=by omega);have h1:=Zfh _ hb.no;have h2:=Zfh _ hb.co;rcases this with rfl|rfl|rfl|rfl|rfl;{(unfold Bar.avsV wV0 wO0;simp only[go_sem];(refine ZcF ?_;refine vN ?_);refine ZbS (e:=195) (n:=5) (x':=.t 17) (i':=.t 18) (k:=.i64) (j:=_) Ka Ka Ka rfl rfl rfl rfl rfl rfl Kc rfl ?_;simp only[go_sem,hP];refine vR ?_);refine Zal h1 ?_;refine vN ?_;refine vW w1 ?_;refine⟨(1,g1,g2,g3),⟨Kc,Kd,Kd,Kd⟩,Kd,Zaf (by simp only[go_sem];exact Zaj) (by simp only[go_sem];exact Zaa)⟩};{(unfold Bar.avsV wV0 wO0;simp only[go_sem];(refine ZcF ?_;refine vN ?_);refine ZbS (e:=195) (n:=5) (x':=.t 17) (i':=.t 18) (k:=.i64) (j:=_) Ka Ka Ka rfl rfl rfl rfl rfl rfl Kc rfl ?_;simp only[go_sem,hP];refine vR ?_);refine Zal h2 ?_;refine vN ?_;refine vW w1 ?_;refine⟨(2,g1,g2,g3),⟨Kc,Kd,Kd,Kd⟩,Kd,Zaf (by simp only[go_sem];exact Zaj) (by simp only[go_sem];exact Zaa)⟩};{(unfold Bar.avsV wV0 wO0;simp only[go_sem];(refine ZcF ?_;refine vN ?_);refine ZbS (e:=195) (n:=5) (x':=.t 17) (i':=.t 18) (k:=.i64) (j:=_) Ka Ka Ka rfl rfl rfl rfl rfl rfl Kc rfl ?_;simp only[go_sem,hP];refine vR ?_);(refine ZaK (ZkT _ hb.fo n1) rfl rfl rfl rfl ?_;rintro r os ⟨cap,j,k1,k2,k3,rfl,rfl⟩;refine⟨[125],_,_,Kd,rfl,rfl,rfl,(by simp only[go_sem,Zap,Ob.back,AV.back,AV.backL,back_cellsG];rfl),?_⟩;refine vO ?_;refine vW w1 ?_);refine⟨(3,(cap,j),g2,g3),⟨Kc,(fun _=>⟨k1,k2,k3⟩),Kd,Kd⟩,Kd,Zaf (by simp only[go_sem];exact Zaj) (by simp only[go_sem];exact Zaa)⟩};{(unfold Bar.avsV wV0 wO0;simp only[go_sem];(refine ZcF ?_;refine vN ?_);refine ZbS (e:=195) (n:=5) (x':=.t 17) (i':=.t 18) (k:=.i64) (j:=_) Ka Ka Ka rfl rfl rfl rfl rfl rfl Kc rfl ?_;simp only[go_sem,hP];refine vR ?_);(refine ZaK (ZkT _ hb.ma n2) rfl rfl rfl rfl ?_;rintro r os ⟨cap,j,k1,k2,k3,rfl,rfl⟩;refine⟨[126],_,_,Kd,rfl,rfl,rfl,(by simp only[go_sem,Zap,Ob.back,AV.back,AV.backL,back_cellsG];rfl),?_⟩;refine vO ?_;refine vW w1 ?_);refine⟨(4,g1,(cap,j),g3),⟨Kc,(fun _=>q1 Kc),(fun _=>⟨k1,k2,k3⟩),Kd⟩,Kd,Zaf (by simp only[go_sem];exact Zaj) (by simp only[go_sem];exact Zaa)⟩};{(unfold Bar.avsV wV0 wO0;simp only[go_sem];(refine ZcF ?_;refine vN ?_);refine ZbS (e:=195) (n:=5) (x':=.t 17) (i':=.t 18) (k:=.i64) (j:=_) Ka Ka Ka rfl rfl rfl rfl rfl rfl Kc rfl ?_;simp only[go_sem,hP];refine vR ?_);(refine ZaK (ZkT _ hb.sl n3) rfl rfl rfl rfl ?_;rintro r os ⟨cap,j,k1,k2,k3,rfl,rfl⟩;refine⟨[127],_,_,Kd,rfl,rfl,rfl,(by simp only[go_sem,Zap,Ob.back,AV.back,AV.backL,back_cellsG];rfl),?_⟩;refine vO ?_;refine vW w1 ?_);refine⟨(5,g1,g2,(cap,j)),⟨Kc,(fun _=>q1 Kc),(fun _=>q2 Kc),(fun _=>⟨k1,k2,k3⟩)⟩,Kd,Zaf (by simp only[go_sem];exact Zaj) (by simp only[go_sem];exact Zaa)⟩}};{(have hk5:k=5:=by simp at h;omega);subst hk5;have h6:=ZrU _ hb.rc;have p1:=q1 Kc;have p2:=q2 Kc;have p3:=q3 Kc;unfold Bar.avsV wV0 wO0;simp only[go_sem];refine vR ?_;(refine ZaM (h6) rfl rfl rfl rfl rfl ?_;refine vS ?_);refine Zal (ZrV _ hb.pr) ?_;refine vS ?_;(refine Zas ?_;simp only[Zaz,inQ,Zbk,ZaN,Zaq,ZbJ];simp only[go_sem,Zbu]);refine⟨[125,126,127],_,_,_,Kd,Kd,rfl,AVle.refl _,(by simp only[go_sem,Zar,Ob.lend]),g1,g2,g3,p1,p2,p3,rfl,rfl⟩}
def Zdv{C:Ctx}{is:List Ins}{K:St->Prop}{env:Nat->AV}{own:Nat->Ob}(n:Nat){l:List Int}{j:Nat}(hb:own n= .box (Zac zc l j))(h:ZkC C is K ⟨ZoQ n (Za4 zc l) env,Zfz n (Za4 zc l) own⟩):ZkC C is K ⟨env,own⟩:=Zrd n (by rw[hb];unfold Zac;rfl) h
def Bar.obsV(b d:Bar)(g1 g2 g3:Nat×Nat):List Ob:=[.box (b.avsV (.vw 1 1001 0 d.box.fo.length g1.1) (.vw 1 1002 0 d.box.ma.length g2.1) (.vw 1 1003 0 d.box.sl.length g3.1)),.box (Zac zc b.box.fo g1.2),.box (Zac zc b.box.ma g2.2),.box (Zac zc b.box.sl g3.2)]
def ZoF(b:Bar)(g1 g2 g3:Nat×Nat)(o:Option Bar)(r:AV)(l':List Ob):Prop:=
 match o with
 |none=>r= .c (.bool false)/\l'=b.obsV b g1 g2 g3
 |some b'=>r= .c (.bool true)/\l'=b'.obsV b g1 g2 g3
def Zz0(f:Nat)(ns:List Int)(b:Bar)(o:Option Bar):Prop:=∀g1 g2 g3,Zed b.box.fo g1->Zed b.box.ma g2->Zed b.box.sl g3->Fl f [.bp 1000 0,.c (Zai ns)] (b.obsV b g1 g2 g3) [] (ZoF b g1 g2 g3 o)
def ZfY{b:Bar}(hb:BarLn b)(n1:b.box.fo≠[])(n2:b.box.ma≠[])(n3:b.box.sl≠[]){s w:List UInt8}{ns:List Int}(hs:s.length<=1000)(hp:ZaA s=some (w,ns)){m:Int}{f:Nat}(hw:Za9 w=some ⟨m,206,f,none⟩)(o:Option Bar)(hlen:∀b',o=some b'->b'.box.fo.length=b.box.fo.length/\b'.box.ma.length=b.box.ma.length/\b'.box.sl.length=b.box.sl.length)(hf:Zz0 f ns b o):ZeW tb b s (Zg9 b o):=by have hcp:=Zx9 hb n1 n2 n3;simp only[Bar.av,Bar.avs,Bar.avsV]at hcp;unfold ZeW;refine vF Zuj.h fun C hP hN hC hL=>?_;simp only[Zuj,Zbj,ZaB,Yg,Ye,Nat.reduceAdd,];simp only[Bar.avs];refine vR ?_;refine ZaK (parse53 hs) rfl rfl rfl rfl ?_;intro r os h;unfold Zb6 at h;rw[hp]at h;obtain⟨q,e,he,rfl,rfl⟩:=h;rw[hw]at he;cases he;refine⟨[101,102,103,104,105,106,107,108],_,_,Kd,rfl,rfl,rfl,rfl,?_⟩;refine vO ?_;refine vR ?_;refine vC ?_ ?_<;>intro h;{cases h};{clear h;refine vR ?_;refine ZaK hcp rfl rfl rfl rfl ?_;rintro r os ⟨g1,g2,g3,k1,k2,k3,rfl,rfl⟩;have hps:=hf g1 g2 g3 k1 k2 k3;refine⟨[110,111,112],_,_,Kd,rfl,rfl,rfl,(by simp only[go_sem,Zap,Ob.back,AV.back,AV.backL,back_cellsG];rfl),?_⟩;refine vO ?_;refine vR ?_;refine ZtA (t:=204) (t':=206) (z:=.nilFunc) (x':=.t 26) (u:=fnV f []) (vr:=.c (.raw .nilFunc)) Kb Ka Ka rfl rfl rfl (fun w M loc=>by simp only[RepA,RepC];exact⟨trivial,rfl⟩) ?_;simp only[go_sem,hP];refine vR ?_;refine vC ?_ ?_<;>intro h;{cases h};{clear h;refine vR ?_;refine Zlp (t:=206) (x':=.t 26) (u:=fnV f []) (vr:=.fn f []) Ka rfl rfl rfl (fun w M loc=>Zgz w M loc f) ?_;simp only[go_sem,hP];refine vR ?_;refine vC ?_ ?_<;>intro h;{(refine Zat ?_;(refine ZcF ?_;refine vN ?_);refine Zat ?_;(refine ZdM 3 ?_;simp only[Y8,Yaz,YbD,YaI,Yat,YbB];refine vN ?_);refine Zah [8,110,111,112] hps rfl rfl rfl Kb rfl (by unfold Bar.obsV Bar.avsV;simp only[go_sem,Zar,Ob.lend,AV.lend,AV.lendL,lend_cellsG];first|done|rfl) ?_;intro r l' h;unfold ZoF at h;cases hq:o with|none=>rw[hq]at h;obtain⟨rfl,rfl⟩:=h;refine⟨_,_,rfl,(by unfold Bar.obsV Bar.avsV;simp only[Zap,Ob.back,AV.back,AV.backL,back_cellsG];rfl),?_⟩;simp only[go_sem,hP,Zae];refine Zdv 110 rfl ?_;simp only[go_sem,Zdd,Yi,Zdc];refine Zdv 111 rfl ?_;simp only[go_sem,Zdd,Yi,Zdc];refine Zdv 112 rfl ?_;simp only[go_sem,Zdd,Yi,Zdc];refine ZcE ?_;refine vN ?_;(refine Zay ?_;refine vS ?_);refine vC ?_ ?_<;>intro h;{refine vR ?_;(refine vL ?_;refine⟨_,[.box b.avs,(tabO tb)],rfl,Zab rfl rfl ?_ ?_ rfl,?_⟩);{unfold Bar.avs;simp only[go_sem,Zag,Ob.keepP,AV.keepP,AV.keepPL]};{trivial};{exact⟨rfl,rfl⟩}};{cases h}|some b'=>(rw[hq]at h;obtain⟨rfl,rfl⟩:=h;obtain⟨l1,l2,l3⟩:=hlen b' hq;refine⟨_,_,rfl,(by unfold Bar.obsV Bar.avsV;simp only[Zap,Ob.back,AV.back,AV.backL,back_cellsG];rfl),?_⟩;simp only[go_sem,hP,Zae];rw[<-l1,<-l2,<-l3];refine Zdv 110 rfl ?_;simp only[go_sem,Zdd,Yi,Zdc];refine Zdv 111 rfl ?_;simp only[go_sem,Zdd,Yi,Zdc];refine Zdv 112 rfl ?_;simp only[go_sem,Zdd,Yi,Zdc];refine ZcE ?_;refine vN ?_;have hck:=check25 b';simp only[Bar.av,Bar.avs]at hck;(refine ZaV (fun hG=>hck) ?_;refine vS ?_);cases hB:Za5 b' with|true=>(have he:ZeI b'=0:=by unfold ZeI;rw[Yt hB]);(have hx:Zg9 b (some b')=(Zgl,b'):=by unfold Zg9;simp only[hB,YJ]);rw[he,hx];refine vC ?_ ?_<;>intro h;{cases h};{refine vR ?_;(refine vL ?_;refine⟨_,[.box b'.avs,(tabO tb)],rfl,Zab rfl rfl ?_ ?_ rfl,?_⟩);{unfold Bar.avs;simp only[go_sem,Zag,Ob.keepP,AV.keepP,AV.keepPL]};{trivial};{exact⟨rfl,rfl⟩}}|false=>(have he:ZeI b'=120:=by unfold ZeI;rw[hB];rfl);(have hx:Zg9 b (some b')=(noS,b):=by unfold Zg9;simp only[hB];rfl);rw[he,hx];refine vC ?_ ?_<;>intro h;{refine vR ?_;(refine vL ?_;refine⟨_,[.box b.avs,(tabO tb)],rfl,Zab rfl rfl ?_ ?_ rfl,?_⟩);{unfold Bar.avs;simp only[go_sem,Zag,Ob.keepP,AV.keepP,AV.keepPL]};{trivial};{exact⟨rfl,rfl⟩}};{cases h}))};{cases h}}}
def bmp(c:Bool)(l:List Int)(k:Nat):List Int:=if c then l.set k (l.getD k 0+1)else l
def ZeR(t:Nat)(b:Bar)(kind:Int):Option Bar:=
 if 0<=kind/\kind<(b.box.wh.co.length:Int)/\(Ze8 b.box.wh b.pl b.cr [kind]).2=0 then
  some {b with pl:=(Ze8 b.box.wh b.pl b.cr [kind]).1.1,cr:=(Ze8 b.box.wh b.pl b.cr [kind]).1.2.1,box:={b.box with pl:=b.box.pl+((Ze8 b.box.wh b.pl b.cr [kind]).1.2.1-b.cr),fo:=bmp (t !=2) b.box.fo kind.toNat,ma:=bmp (t==1) b.box.ma kind.toNat,sl:=bmp (t==2) b.box.sl kind.toNat}}
 else none
def wsV(t:Nat)(b:Bar)(g1 g2 g3:Nat×Nat):List AV:=match t with
 |0=>[.vw 1 1001 0 b.box.fo.length g1.1]
 |1=>[.vw 1 1001 0 b.box.fo.length g1.1,.vw 1 1002 0 b.box.ma.length g2.1]
 |_=>[.vw 1 1003 0 b.box.sl.length g3.1]
def Zgp(t:Nat):Nat:=if t==1 then 2 else 1
def ZDO{l:List Int}{k:Nat}(hk:k<l.length)(hx:∀n∈l,0<=n/\n<=12)(j:Nat):∃n:Int,(0<=n/\n<=12)/\(Zac zc l j).getD k .non= .c (.int .i64 n)/\(Zac zc l j).set k (.c (.int .i64 (n+1)))=Zac zc (l.set k (l.getD k 0+1)) j/\(Zac zc l j).length=l.length+j/\IntKind.i64.wrap (n+1)=n+1:=by have zl:∀n:Int,(zc n).length=1:=fun _=>rfl;have hm:=hx _ (Yv hk);have hget:=ZbY zl (l:=l) hk j 0 (d:=.int .i64 l[k]) rfl .non;have hset:=Za8 zl (l:=l) hk j 0 Kb (.int .i64 (l[k]+1)) (l[k]+1) rfl;(have hgd:l.getD k 0=l[k]:=by rw[Yb,Yd hk];rfl);have hcl:=ZaF zl l j;simp only[Yab,Yad]at hget hset hcl;rw[hgd];exact⟨l[k],hm,hget,hset,hcl,w64 Kc Kc⟩
def Zhe(b:Bar)(g1 g2 g3:Nat×Nat)(t p:Nat)(b':Bar)(o:Nat->Ob)(k:Nat):Nat->Ob:=
 upd (upd (upd (upd (upd o 1000 (.box (b'.avsV (.vw 1 1001 0 b.box.fo.length g1.1) (.vw 1 1002 0 b.box.ma.length g2.1) (.vw 1 1003 0 b.box.sl.length g3.1)))) 1001 (.box (Zac zc (bmp (t !=2&&p !=0) b.box.fo k) g1.2))) 1002 (.box (Zac zc (bmp (t==1&&p==2) b.box.ma k) g2.2))) 1003 (.box (Zac zc (bmp (t==2&&p !=0) b.box.sl k) g3.2))) 1004 (.box (wsV t b g1 g2 g3))
def ZCW{C:Ctx}(hP:C.P=Tryz.prog){Q:Exit->St->Prop}{b b':Bar}{kind:Int}(hk:0<=kind)(k1:kind.toNat<b.box.fo.length)(k2:kind.toNat<b.box.ma.length)(k3:kind.toNat<b.box.sl.length)(x1:∀n∈b.box.fo,0<=n/\n<=12)(x2:∀n∈b.box.ma,0<=n/\n<=12)(x3:∀n∈b.box.sl,0<=n/\n<=12){g1 g2 g3:Nat×Nat}(q1:Zed b.box.fo g1)(q2:Zed b.box.ma g2)(q3:Zed b.box.sl g3){t:Nat}(ht:t<=2)(hfin:WV C .ret Q ⟨upd e0 6 (.c (.bool true)),Zhe b g1 g2 g3 t (Zgp t) b' o0 kind.toNat⟩):WV C ZzR Q ⟨upd (upd (upd e0 1 (iv kind)) 2 (.vw 1 1004 0 (Zgp t) (Zgp t))) 6 (.c (.bool false)),Zhe b g1 g2 g3 t 0 b' o0 kind.toNat⟩:=by have hmx:=vM;obtain⟨n1,r1,hg1,hs1,hc1,w1⟩:=ZDO k1 x1 g1.2;obtain⟨n2,r2,hg2,hs2,hc2,w2⟩:=ZDO k2 x2 g2.2;obtain⟨n3,r3,hg3,hs3,hc3,w3⟩:=ZDO k3 x3 g3.2;unfold Zed at q1 q2 q3;(have hki:((kind.toNat:Nat):Int)=kind:=by omega);(have ht3:t=0\/t=1\/t=2:=by omega);rcases ht3 with rfl|rfl|rfl;{(try simp only[Zhe,wsV,Bar.avsV,bmp,Zgp,Nat.reduceBNe,Nat.reduceBEq,Yam,YV,Yai,Y9,Yp,YA,YJ,YN,Y1]at hfin|-);refine vR ?_;refine ZaE (fun p:Nat=>⟨upd (upd (upd (upd (upd e0 1 (iv kind)) 6 (.c (.bool false))) 71 (.vw 1 1004 0 1 1)) 72 (iv 1)) 73 (iv p),Zhe b g1 g2 g3 0 p b' o0 kind.toNat⟩) (fun p=>p<=1) (fun p=>1-p) 0 (YC _) ?_ ?_;{(try simp only[Zhe,wsV,Bar.avsV,bmp,Zgp,Nat.reduceBNe,Nat.reduceBEq,Yam,YV,Yai,Y9,Yp,YA,YJ,YN,Y1]at hfin|-);refine Zaf (by simp only[go_sem];exact Zaj) (by simp only[go_sem];exact Zaa)};intro p hp;(have hpc:p=0\/p=1:=by omega);rcases hpc with rfl|rfl;{(try simp only[Zhe,wsV,Bar.avsV,bmp,Zgp,Nat.reduceBNe,Nat.reduceBEq,Yam,YV,Yai,Y9,Yp,YA,YJ,YN,Y1]at hfin|-);refine vR ?_;refine vC ?_ ?_<;>intro h;{refine vW (vA hg1 (vA hs1 (vA hc1 w1))) ?_;refine⟨1,Kc,Kc,?_⟩;(try simp only[Zhe,wsV,Bar.avsV,bmp,Zgp,Nat.reduceBNe,Nat.reduceBEq,Yam,YV,Yai,Y9,Yp,YA,YJ,YN,Y1]at hfin|-);refine Zaf (by simp only[go_sem];exact Zaj) (by simp only[go_sem];exact Zaa)};{exfalso;simp at h}};{(try simp only[Zhe,wsV,Bar.avsV,bmp,Zgp,Nat.reduceBNe,Nat.reduceBEq,Yam,YV,Yai,Y9,Yp,YA,YJ,YN,Y1]at hfin|-);refine vR ?_;refine vC ?_ ?_<;>intro h;{exfalso;simp at h};{refine vR ?_;refine Zav ?_ hfin;refine Zaf (by simp only[go_sem];exact Zaj) (by simp only[go_sem];exact Zaa)}}};{(try simp only[Zhe,wsV,Bar.avsV,bmp,Zgp,Nat.reduceBNe,Nat.reduceBEq,Yam,YV,Yai,Y9,Yp,YA,YJ,YN,Y1]at hfin|-);refine vR ?_;refine ZaE (fun p:Nat=>⟨upd (upd (upd (upd (upd e0 1 (iv kind)) 6 (.c (.bool false))) 71 (.vw 1 1004 0 2 2)) 72 (iv 2)) 73 (iv p),Zhe b g1 g2 g3 1 p b' o0 kind.toNat⟩) (fun p=>p<=2) (fun p=>2-p) 0 (YC _) ?_ ?_;{(try simp only[Zhe,wsV,Bar.avsV,bmp,Zgp,Nat.reduceBNe,Nat.reduceBEq,Yam,YV,Yai,Y9,Yp,YA,YJ,YN,Y1]at hfin|-);refine Zaf (by simp only[go_sem];exact Zaj) (by simp only[go_sem];exact Zaa)};intro p hp;(have hpc:p=0\/p=1\/p=2:=by omega);rcases hpc with rfl|rfl|rfl;{(try simp only[Zhe,wsV,Bar.avsV,bmp,Zgp,Nat.reduceBNe,Nat.reduceBEq,Yam,YV,Yai,Y9,Yp,YA,YJ,YN,Y1]at hfin|-);refine vR ?_;refine vC ?_ ?_<;>intro h;{refine vW (vA hg1 (vA hs1 (vA hc1 w1))) ?_;refine⟨1,Kc,Kc,?_⟩;(try simp only[Zhe,wsV,Bar.avsV,bmp,Zgp,Nat.reduceBNe,Nat.reduceBEq,Yam,YV,Yai,Y9,Yp,YA,YJ,YN,Y1]at hfin|-);refine Zaf (by simp only[go_sem];exact Zaj) (by simp only[go_sem];exact Zaa)};{exfalso;simp at h}};{(try simp only[Zhe,wsV,Bar.avsV,bmp,Zgp,Nat.reduceBNe,Nat.reduceBEq,Yam,YV,Yai,Y9,Yp,YA,YJ,YN,Y1]at hfin|-);refine vR ?_;refine vC ?_ ?_<;>intro h;{refine vW (vA hg2 (vA hs2 (vA hc2 w2))) ?_;refine⟨2,Kc,Kc,?_⟩;(try simp only[Zhe,wsV,Bar.avsV,bmp,Zgp,Nat.reduceBNe,Nat.reduceBEq,Yam,YV,Yai,Y9,Yp,YA,YJ,YN,Y1]at hfin|-);refine Zaf (by simp only[go_sem];exact Zaj) (by simp only[go_sem];exact Zaa)};{exfalso;simp at h}};{(try simp only[Zhe,wsV,Bar.avsV,bmp,Zgp,Nat.reduceBNe,Nat.reduceBEq,Yam,YV,Yai,Y9,Yp,YA,YJ,YN,Y1]at hfin|-);refine vR ?_;refine vC ?_ ?_<;>intro h;{exfalso;simp at h};{refine vR ?_;refine Zav ?_ hfin;refine Zaf (by simp only[go_sem];exact Zaj) (by simp only[go_sem];exact Zaa)}}};{(try simp only[Zhe,wsV,Bar.avsV,bmp,Zgp,Nat.reduceBNe,Nat.reduceBEq,Yam,YV,Yai,Y9,Yp,YA,YJ,YN,Y1]at hfin|-);refine vR ?_;refine ZaE (fun p:Nat=>⟨upd (upd (upd (upd (upd e0 1 (iv kind)) 6 (.c (.bool false))) 71 (.vw 1 1004 0 1 1)) 72 (iv 1)) 73 (iv p),Zhe b g1 g2 g3 2 p b' o0 kind.toNat⟩) (fun p=>p<=1) (fun p=>1-p) 0 (YC _) ?_ ?_;{(try simp only[Zhe,wsV,Bar.avsV,bmp,Zgp,Nat.reduceBNe,Nat.reduceBEq,Yam,YV,Yai,Y9,Yp,YA,YJ,YN,Y1]at hfin|-);refine Zaf (by simp only[go_sem];exact Zaj) (by simp only[go_sem];exact Zaa)};intro p hp;(have hpc:p=0\/p=1:=by omega);rcases hpc with rfl|rfl;{(try simp only[Zhe,wsV,Bar.avsV,bmp,Zgp,Nat.reduceBNe,Nat.reduceBEq,Yam,YV,Yai,Y9,Yp,YA,YJ,YN,Y1]at hfin|-);refine vR ?_;refine vC ?_ ?_<;>intro h;{refine vW (vA hg3 (vA hs3 (vA hc3 w3))) ?_;refine⟨1,Kc,Kc,?_⟩;(try simp only[Zhe,wsV,Bar.avsV,bmp,Zgp,Nat.reduceBNe,Nat.reduceBEq,Yam,YV,Yai,Y9,Yp,YA,YJ,YN,Y1]at hfin|-);refine Zaf (by simp only[go_sem];exact Zaj) (by simp only[go_sem];exact Zaa)};{exfalso;simp at h}};{(try simp only[Zhe,wsV,Bar.avsV,bmp,Zgp,Nat.reduceBNe,Nat.reduceBEq,Yam,YV,Yai,Y9,Yp,YA,YJ,YN,Y1]at hfin|-);refine vR ?_;refine vC ?_ ?_<;>intro h;{exfalso;simp at h};{refine vR ?_;refine Zav ?_ hfin;refine Zaf (by simp only[go_sem];exact Zaj) (by simp only[go_sem];exact Zaa)}}}
def ZhB(t:Nat)(b:Bar)(g1 g2 g3:Nat×Nat)(o:Option Bar)(r:AV)(l':List Ob):Prop:=
 match o with
 |none=>r= .c (.bool false)/\l'=b.obsV b g1 g2 g3++[.box (wsV t b g1 g2 g3)]
 |some b'=>r= .c (.bool true)/\l'=b'.obsV b g1 g2 g3++[.box (wsV t b g1 g2 g3)]
def ZkH{b:Bar}(hB:Za5 b=true):(b.box.fo.length=b.box.wh.co.length/\b.box.ma.length=b.box.wh.co.length/\b.box.sl.length=b.box.wh.co.length)/\(∀n∈b.box.fo,0<=n/\n<=12)/\(∀n∈b.box.ma,0<=n/\n<=12)/\∀n∈b.box.sl,0<=n/\n<=12:=by simp only[Za5,bxB,Yf,Yl,Zad]at hB;obtain⟨⟨⟨⟨⟨⟨⟨⟨h1,h2⟩,h3⟩,h4⟩,h5⟩,h6⟩,h7⟩,h8⟩,h9,h10,h11,h12,h13⟩:=hB;exact⟨⟨(ZaI h4).1,(ZaI h5).1,(ZaI h6).1⟩,(ZaI h4).2,(ZaI h5).2,(ZaI h6).2⟩
def Zy9(t:Nat)(b:Bar)(g1 g2 g3:Nat×Nat):AV.prgL 7 (wsV t b g1 g2 g3)=wsV t b g1 g2 g3/\AV.prgL 39 (wsV t b g1 g2 g3)=wsV t b g1 g2 g3:=by unfold wsV;split<;>exact⟨rfl,rfl⟩
def ZEq(b b':Bar)(g1 g2 g3:Nat×Nat)(t:Nat)(o:Nat->Ob)(k:Nat):Zhe b g1 g2 g3 t 0 b' o k=upd (upd (upd (upd (upd o 1000 (.box (b'.avsV (.vw 1 1001 0 b.box.fo.length g1.1) (.vw 1 1002 0 b.box.ma.length g2.1) (.vw 1 1003 0 b.box.sl.length g3.1)))) 1001 (.box (Zac zc b.box.fo g1.2))) 1002 (.box (Zac zc b.box.ma g2.2))) 1003 (.box (Zac zc b.box.sl g3.2))) 1004 (.box (wsV t b g1 g2 g3)):=by unfold Zhe bmp;simp
def ZEr(b b':Bar)(g1 g2 g3:Nat×Nat){t:Nat}(ht:t<=2)(o:Nat->Ob)(k:Nat):Zhe b g1 g2 g3 t (Zgp t) b' o k=upd (upd (upd (upd (upd o 1000 (.box (b'.avsV (.vw 1 1001 0 b.box.fo.length g1.1) (.vw 1 1002 0 b.box.ma.length g2.1) (.vw 1 1003 0 b.box.sl.length g3.1)))) 1001 (.box (Zac zc (bmp (t !=2) b.box.fo k) g1.2))) 1002 (.box (Zac zc (bmp (t==1) b.box.ma k) g2.2))) 1003 (.box (Zac zc (bmp (t==2) b.box.sl k) g3.2))) 1004 (.box (wsV t b g1 g2 g3)):=by(have ht3:t=0\/t=1\/t=2:=by omega);rcases ht3 with rfl|rfl|rfl<;>rfl
def Zla(own:Nat->Ob)(t:Nat)(b:Bar)(g1 g2 g3:Nat×Nat):AV.keepPL own (wsV t b g1 g2 g3)=some (wsV t b g1 g2 g3):=by unfold wsV;split<;>rfl
def Zts{b:Bar}(hB:Za5 b=true)(kind:Int){g1 g2 g3:Nat×Nat}(q1:Zed b.box.fo g1)(q2:Zed b.box.ma g2)(q3:Zed b.box.sl g3){t:Nat}(ht:t<=2):Fl 177 [.bp 1000 0,iv kind,.vw 1 1004 0 (Zgp t) (Zgp t)] (b.obsV b g1 g2 g3++[.box (wsV t b g1 g2 g3)]) [] (ZhB t b g1 g2 g3 (ZeR t b kind)):=by
 obtain⟨hw7,hw39⟩:=Zy9 t b g1 g2 g3;have hm:=vM;obtain⟨⟨l1,l2,l3⟩,x1,x2,x3⟩:=ZkH hB;unfold Bar.obsV;rw[YH,YH,YH,YH,YM];refine vF Zsw.h fun C hP hN hC hL=>?_;simp only[Zsw,Zbj,ZaB,Yg,Ye,Nat.reduceAdd,]
 simp only[Bar.avsV];refine vR0 ?_;by_cases hk:0<=kind/\kind<(b.box.wh.co.length:Int)
 ·refine vC ?_ ?_<;>intro h
  ·exfalso;simp at h;omega
  ·have hrun:=Zwk b.box.wh b.pl b.cr [kind];simp only[Wh.av,Wh.avs,Zai]at hrun;generalize hR:Ze8 b.box.wh b.pl b.cr [kind]=R at hrun;obtain⟨⟨pl',cr',md⟩,e⟩:=R;simp only at hrun;refine vR ?_;refine ZcB (fun σ'=>Sub σ' ⟨upd (upd (upd (upd (upd (upd (upd e0 0 (.bp 1000 0)) 1 (iv kind)) 2 (.vw 1 1004 0 (Zgp t) (Zgp t))) 6 (.c (.bool false))) 7 (.bp 7 0)) 8 (iv md)) 9 (iv e),upd (upd (upd (upd (upd (upd o0 1000 (.box (b.avsV (.vw 1 1001 0 b.box.fo.length g1.1) (.vw 1 1002 0 b.box.ma.length g2.1) (.vw 1 1003 0 b.box.sl.length g3.1)))) 1001 (.box (Zac zc b.box.fo g1.2))) 1002 (.box (Zac zc b.box.ma g2.2))) 1003 (.box (Zac zc b.box.sl g3.2))) 1004 (.box (wsV t b g1 g2 g3))) 7 (.box [iv pl',iv cr'])⟩) ?_ ?_
   ·refine ZaS ?_;simp only[go_sem,hP,hw7,hw39];(repeat'(refine And.intro ?_ ?_));all_goals(
     refine ZaM hrun rfl rfl rfl rfl rfl ?_;simp only[go_sem,hP,hw7,hw39];refine vQ ?_;refine vR ?_;refine Zaf (by simp only[go_sem];exact Zaj) (by unfold Bar.avsV Zai;simp only[go_sem];exact Zaa))
   ·intro σ' hs;refine Zav hs ?_;unfold Bar.avsV;refine vR ?_;by_cases he:e=0
    ·refine vC ?_ ?_<;>intro h
     ·exfalso;simp[he]at h
     ·have hcb:=Zqa hB hk hR he;have hyes:ZeR t b kind=some {b with pl:=pl',cr:=cr',box:={b.box with pl:=b.box.pl+(cr'-b.cr),fo:=bmp (t !=2) b.box.fo kind.toNat,ma:=bmp (t==1) b.box.ma kind.toNat,sl:=bmp (t==2) b.box.sl kind.toNat}}:=by
       unfold ZeR;rw[hR,Yt ⟨hk.1,hk.2,he⟩]
      rw[hyes];have w1:=vw (n:=cr'-b.cr);have w2:=vw (n:=b.box.pl+(cr'-b.cr));(refine Zbq ?_;simp only[go_sem]);refine Zat ?_;refine Zcz ?_;simp only[go_sem,hP,w1,w2];refine vQ ?_;refine Zat ?_;refine ZgT ?_;refine vN ?_;refine Zav ?_ (ZCW hP (b:=b) (b':={b with pl:=pl',cr:=cr',box:={b.box with pl:=b.box.pl+(cr'-b.cr)}}) hk.1 Kc Kc Kc x1 x2 x3 q1 q2 q3 ht ?_)
      ·rw[ZEq];refine Zaf (by simp only[go_sem];exact Zaj) (by unfold Bar.avsV;simp only[go_sem];exact Zaa)
      ·rw[ZEr b _ g1 g2 g3 ht];(refine vL ?_;refine⟨_,Bar.obsV {b with pl:=pl',cr:=cr',box:={b.box with pl:=b.box.pl+(cr'-b.cr),fo:=bmp (t !=2) b.box.fo kind.toNat,ma:=bmp (t==1) b.box.ma kind.toNat,sl:=bmp (t==2) b.box.sl kind.toNat}} b g1 g2 g3++[.box (wsV t b g1 g2 g3)],rfl,Zab rfl rfl ?_ ?_ rfl,?_⟩)
       ·unfold Bar.obsV Bar.avsV;simp only[go_sem,YH,YM,Zag,Ob.keepP,AV.keepP,AV.keepPL,Zai,keep_cellsG,Zla]
       ·trivial
       ·exact⟨rfl,rfl⟩
    ·have hno:ZeR t b kind=none:=by unfold ZeR;rw[hR,Yx];rintro⟨_,_,h3⟩;exact he h3
     rw[hno];refine vC ?_ ?_<;>intro h
     ·refine vR ?_;(refine vL ?_;refine⟨_,b.obsV b g1 g2 g3++[.box (wsV t b g1 g2 g3)],rfl,Zab rfl rfl ?_ ?_ rfl,?_⟩)
      ·unfold Bar.obsV Bar.avsV;simp only[go_sem,YH,YM,Zag,Ob.keepP,AV.keepP,AV.keepPL,Zai,keep_cellsG,Zla]
      ·trivial
      ·exact⟨rfl,rfl⟩
     ·exfalso;simp at h;exact he h
 ·have hno:ZeR t b kind=none:=by unfold ZeR;rw[Yx];rintro⟨h1,h2,_⟩;exact hk ⟨h1,h2⟩
  rw[hno];refine vC ?_ ?_<;>intro h
  ·refine vR ?_;(refine vL ?_;refine⟨_,b.obsV b g1 g2 g3++[.box (wsV t b g1 g2 g3)],rfl,Zab rfl rfl ?_ ?_ rfl,?_⟩)
   ·unfold Bar.obsV Bar.avsV;simp only[go_sem,YH,YM,Zag,Ob.keepP,AV.keepP,AV.keepPL,Zai,keep_cellsG,Zla]
   ·trivial
   ·exact⟨rfl,rfl⟩
  ·exfalso;simp at h;omega
end Go.Proofs.YtcggfogkfhlmlaaGreatDoor
