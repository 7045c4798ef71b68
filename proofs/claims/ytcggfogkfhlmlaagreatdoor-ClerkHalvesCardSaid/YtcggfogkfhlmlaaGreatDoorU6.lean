
import Derived.Test.YtcggfogkfhlmlaaGreatDoorU5
import Derived.Test.YtcggfogkfhlmlaaGreatDoorV3
import Derived.Test.YtcggfogkfhlmlaaGreatDoorU4
import Derived.Test.YtcggfogkfhlmlaaGreatDoorV2
import Derived.Test.YtcggfogkfhlmlaaGreatDoorChecked
set_option linter.unusedVariables false
set_option linter.defProp false
set_option linter.unusedSimpArgs false
set_option maxRecDepth 100000
set_option maxHeartbeats 8000000
namespace Go.Proofs.YtcggfogkfhlmlaaGreatDoor
open Go Go.V
attribute [local go_sem] Nat.reduceEqDiff Nat.reduceAdd Nat.reduceMul reduceIte Nat.reduceLeDiff Nat.reduceLT Nat.reduceBEq reduceCtorEq
attribute [local go_sem] cRows cArr rO
def Zzy{x:Cp}{i:Nat}{s:Int×Int}(hs:(stds x)[i]? =some s):((stds x).map scd).getD i []=[.int .i64 s.1,.int .i64 s.2]:=by rw[Yb,Y0,hs];rfl
def standsC{C:Ctx}(hP:C.P=Tryz.prog){w:Wh}(hw:WhOk w){n:Int}(hn:1<=n/\n<=20){c:Nat}(hc:c<=400000){x:Cp}(hx:Rch w n c x)(hb:x.bo<n){N:Nat}(hN:N<=4468801){rows0:List CRow}(hl0:rows0.length=c+101)(hpr:Prog w n x c N rows0 rows0 0 0){q cap bm:Nat}(hcap:c+101<=cap/\cap<=c+101+q){S:Cks}{hd:Value}{rl j:Int}{Q:Exit->St->Prop}(hQ:∀σ' rows',Prog w n x c N rows0 rows' (stds x).length 0->Sub σ' ⟨rwE (chE c (c+101) cap bm) hd rl j,rwO (chO w n rows' q S bm) x⟩->Q .normal σ'):
  WV C ZC1 Q ⟨upd (rwE (chE c (c+101) cap bm) hd rl j) 13 (.gr 78),stO (rwO (chO w n rows0 q S bm) x) x⟩:=by have hsl:=Zlw x;simp only[rwE,rE,chE,stO,rwO,chO,Wh.avs];refine vR4 ?_;refine Zam [2,3,6,8,9,10,12,13,55,56,57,96,97] [39,51] (fun i0:Nat×List CRow=>i0.1<=(stds x).length/\Prog w n x c N rows0 i0.2 i0.1 0) (fun i0=>(stds x).length-i0.1) (fun i0=>[(98,iv i0.1)]) (fun i0=>[(39,cRows i0.2),(51,cArr i0.2 q)]) (0,rows0) ⟨YC _,hpr⟩ ?_ ?_;{exact Zak};rintro⟨i,R⟩ ⟨hi,hR⟩;simp only at hi hR;refine vR ?_;refine vC ?_ ?_<;>intro h;{(have hi:i<(stds x).length:=by simpa using h);clear h;obtain⟨s,hs⟩:∃s,(stds x)[i]? =some s:=⟨_,Yd hi⟩;have hg:=Zzy hs;have w1:=vw (n:=(i:Int)+1);refine Zbq ?_;simp only[go_sem];refine Zat (Zbe (Zat ?_));(refine ZcF ?_;simp only[go_sem,hP,hg,Yc,Yr,Yab];refine vQ ?_);refine Zav (σ':=⟨upd (stE (rwE (chE c (c+101) cap bm) hd rl j) (stds x).length i) 15 (.bp 15 0),upd (stO (rwO (chO w n R q S bm) x) x) 15 (.box [iv s.1,iv s.2])⟩) (Zaf (by simp only[stE,rwE,rE,chE,go_sem];exact Zaj) (by simp only[stO,rwO,chO,Wh.avs,go_sem];exact Zaa)) ?_;refine kindsC hP hw hn hc hx hb hs hN hl0 hR hcap fun σ' R2 hR2 hsub=>?_;have hstep:=hR2.turn hw;refine Zav hsub ?_;simp only[stE,rwE,rE,chE,stO,rwO,chO,Wh.avs];refine vW w1 ?_;refine⟨(i+1,R2),⟨hi,hstep⟩,by simp only;omega,?_⟩;exact Zak};{(have hi:i=(stds x).length:=by simp at h;omega);subst hi;refine vR ?_;refine hQ _ R hR ?_;simp only[rwE,rE,chE,rwO,chO,Wh.avs];exact Zak}
attribute [local go_sem] cRows cArr rO
def cnt(S:Cks)(x:Cp):Int:=(ZfN S x).getD 0
def Zlb(S:Cks)(x:Cp):((Za0 (gl3 S) x.l).getD [0])=[cnt S x]:=by rw[Ziu];unfold cnt;cases ZfN S x<;>rfl
def ZsI(S:Cks)(x:Cp):((Za0 (Zna (gl3 S) x.l [0]) x.l).getD [0])=[cnt S x]:=by rw[ZgA,YaT,Zlb]
def ZrX{S:Cks}{x:Cp}{v:Int}:ZfN (Zik S x v) x=some v:=by(have h1:Za0 (gl3 (Zik S x v)) x.l=some [v]:=by rw[<-ZoW,<-Zml (z:=[0])];have:=ZgA (gl3 S) x.l [0];unfold Zlz;rw[this,Yt (by rfl)];unfold Za0 at this|-;rw[YcR,YbH];obtain⟨e,he,h3⟩:=Yh.1 this;(have h4:(fun p:List Int×List Int=>p.1==x.l)∘(fun p:List Int×List Int=>if p.1=x.l then(x.l,[v])else p)=fun p=>p.1==x.l:=by funext p;simp only[YaY];split;{rename_i hp;rw[hp]};{rfl});rw[h4,he];(have h5:e.1=x.l:=by simpa using Ybd he);simp[h5]);(rw[Ziu]at h1;cases hc:ZfN (Zik S x v) x with|none=>rw[hc]at h1;cases h1|some u=>rw[hc]at h1;simpa using h1)
def ZnE(S:Cks)(x:Cp):∀p∈gl3 S,ZaH true p.1=ZaH true x.l->p.1=x.l:=fun _ _ h=>ZcG h
def seen26{C:Ctx}(hP:C.P=Tryz.prog){w:Wh}(hw:WhOk w){n:Int}{c:Nat}{x:Cp}(hx:CpOk w x){rows:List CRow}{q cap bm:Nat}{S:Cks}(hS:∀x∈cks S,CpOk w x)(hcnt:0<=cnt S x/\cnt S x<=10000000000000){hd:Value}{rl j:Int}{Q:Exit->St->Prop}(hQ:∀σ',Sub σ' ⟨rwE (chE c (c+101) cap bm) hd rl j,rwO (chO w n rows q (Zik S x (cnt S x+1)) bm) x⟩->Q .normal σ'):
  WV C (.drw ZCU) Q ⟨rwE (chE c (c+101) cap bm) hd rl j,rwO (chO w n rows q S bm) x⟩:=by
 have hk0:=hx.key hw;have hks:=ZoS hw hS;have hks2:∀p∈Zna (gl3 S) x.l [0],∃l,keyOf Tryz.prog 111 (ZaH true p.1)=some l:=Zsl (Q:=fun k=>∃l,keyOf Tryz.prog 111 (ZaH true k)=some l) hk0 hks;have w1:=vw (n:=cnt S x+1);have hl1:=Zlb S x;have hl2:=ZsI S x;have hput:Zlz (Zna (gl3 S) x.l [0]) x.l [cnt S x+1]=gl3 (Zik S x (cnt S x+1)):=by rw[Zml,ZoW]
 simp only[rwE,rE,chE,rwO,chO,Wh.avs];refine Zov ?_;(refine ZaS ?_;simp only[go_sem,hP];(repeat'(refine And.intro ?_ ?_)));all_goals(repeat'(first
  |(refine Zez (ka:=true) (va:=false) (n:=41) (b:=bm) (l:=gl3 S) (key:=x.l) (zs:=[0]) (k:=111) (e:=3) (x':=.t 66) (i':=.t 67) Ka ZuR Ka rfl rfl rfl rfl rfl rfl rfl hk0 hks (ZnE S x) ?_;rw[hl1];simp only[go_sem,hP,kav,Yp,YA,Ycb,w1])
  |(refine Ztx (ka:=true) (va:=false) (n:=41) (b:=bm) (l:=Zna (gl3 S) x.l [0]) (key:=x.l) (zs:=[0]) (k:=111) (e:=3) (x':=.t 66) (i':=.t 67) Ka ZuR Ka rfl rfl rfl rfl rfl rfl rfl hk0 hks2 (fun _ _ h=>ZcG h) ?_;rw[hl2];simp only[go_sem,hP,kav,Yp,YA,Ycb,w1])
  |(refine Zv9 (ka:=true) (va:=false) (n:=41) (b:=bm) (l:=gl3 S) (key:=x.l) (zs:=[0]) (k:=111) (e:=3) (x':=.t 66) (i':=.t 67) Ka ZuR Ka rfl rfl rfl rfl rfl rfl rfl hk0 hks (ZnE S x) ?_;intro st;rw[hl1];simp only[go_sem,hP,kav,Yp,YA,Ycb,w1])
  |(refine Zv7 (ka:=true) (va:=false) (n:=41) (b:=bm) (l:=Zna (gl3 S) x.l [0]) (key:=x.l) (val:=[cnt S x+1]) (x':=.t 66) (i':=.t 71) (v':=.t 69) rfl rfl rfl rfl rfl rfl rfl rfl rfl rfl (fun _ _ h=>ZcG h) ?_;rw[hput];simp only[go_sem,hP])
  |refine And.intro ?_ ?_))
 all_goals(
  refine hQ _ ?_;simp only[rwE,rE,chE,rwO,chO,Wh.avs];exact Zak)
def pointC{C:Ctx}(hP:C.P=Tryz.prog){w:Wh}(hw:WhOk w){n:Int}(hn:1<=n/\n<=20){c:Nat}(hc:c<=400000){rows:List CRow}{S:Cks}{j:Nat}(hI:CInv w n rows S c j)(hlen:rows.length=c+101){r:CRow}(hr:rows[c]? =some r){x:Cp}(hx:r.xs[j]? =some x.l){q cap bm:Nat}(hcap:c+101<=cap/\cap<=c+101+q){Q:Exit->St->Prop}(hR:n<=x.bo->Q .ret ⟨upd (upd e0 4 (iv c)) 5 (iv 0),o0⟩)(hQ:∀σ' rows' S',x.bo<n->CInv w n rows' S' c (j+1)->rows'.length=c+101->rows'[c]? =some r->Sub σ' ⟨rE (chE c (c+101) cap bm) r.hd r.xs.length j,chO w n rows' q S' bm⟩->Q .normal σ'):
  WV C (.block 5 ZC2) Q ⟨rE (chE c (c+101) cap bm) r.hd r.xs.length j,chO w n rows q S bm⟩:=by have hjl:j<r.xs.length:=(Ym.1 hx).1;have hxr:Rch w n c x:=hI.snd.mem ⟨r,hr,Yu hx⟩;have hxo:=hxr.ok hw hn;have hS:∀x∈cks S,CpOk w x:=fun x hx=>(hI.key x hx).1;have hsl:=hI.slen hw;have hrl:=hI.lens r (Yu hr);(have hcnt:0<=cnt S x/\cnt S x<=10000000000000/\(x∉cks S->cnt S x=0)/\(x∈cks S->1<=cnt S x/\ZfN S x=some (cnt S x)):=by(unfold cnt;cases hk:ZfN S x with|none=>refine⟨Kd,Kd,fun _=>rfl,fun h=>?_⟩;rw[<-ZfO,hk]at h;cases h|some v=>have hv:=hI.vals _ (Zl9 hk);simp only at hv;have hb:c*4468801+j<=400000*4468801+4468801:=Nat.add_le_add (Y2 _ hc) Kc;refine⟨by simp only[YaT];omega,?_,fun h=>absurd (ZfO.1 (by rw[hk];rfl)) h,fun _=>⟨hv.1,rfl⟩⟩;simp only[YaT];exact Yb5 hv.2 (Yb5 (Yc6.2 hb) Kb)));refine Zbe (Zat (Zrj ?_));simp only[rE,chE,chO,Wh.avs];refine Zef rfl (Zzr (n:=39) (k:=c) hr rfl rfl rfl rfl rfl Kc Kc ?_);simp only[go_sem,hP,Yr];refine Zef rfl (Zzs (n:=39) (k:=c) (i:=j) hr rfl rfl rfl hx ?_);simp only[go_sem,hP,Cp.l,Ye,Yg];(refine ZcE ?_;refine vN ?_);refine vR ?_;refine vC ?_ ?_<;>intro h;{(have hb:n<=x.bo:=by simpa using h);refine vR ?_;refine Zav (σ':=⟨upd (upd e0 4 (iv c)) 5 (iv 0),o0⟩) ?_ (Zas (hR hb));exact Zak};(have hb:x.bo<n:=by simp at h;omega);clear h;refine vR ?_;refine Zav (σ':=⟨rwE (chE c (c+101) cap bm) r.hd r.xs.length j,rwO (chO w n rows q S bm) x⟩) (Zaf (by simp only[rwE,rE,chE,go_sem];exact Zaj) (by simp only[rwO,chO,Wh.avs,go_sem];exact Zaa)) ?_;refine seen26 hP hw hxo hS ⟨hcnt.1,hcnt.2.1⟩ fun σ' hsub=>?_;refine Zav hsub ?_;(have hin2:∀y∈cks (Zik S x (cnt S x+1)),CpOk w y:=fun y hy=>by rw[ZfP]at hy;split at hy;{exact hS y hy};{rcases YD.1 hy with hy|hy;{exact hS y hy};{simp only[Yk]at hy;subst hy;exact hxo}});(have hl2:((Za0 (gl3 (Zik S x (cnt S x+1))) x.l).getD [0])=[cnt S x+1]:=by rw[Zlb];unfold cnt;rw[ZrX];rfl);have hag:x∈cks S->CInv w n rows (Zik S x (cnt S x+1)) c (j+1):=fun hk=>hI.again hr hx hb hk (hcnt.2.2.2 hk).2;have hfr:x∉cks S->cnt S x=0:=hcnt.2.2.1;have hone:x∈cks S->1<=cnt S x:=fun hk=>(hcnt.2.2.2 hk).1;(have hfr2:x∉cks S->∀rows',Prog w n x c (8*S.length+1) rows rows' (stds x).length 0->CInv w n rows' (Zik S x (cnt S x+1)) c (j+1):=fun hk rows' hp=>by rw[hfr hk];exact hI.fresh hw hn hr hx hb hk hp);generalize hv:cnt S x+1=v at*;generalize Zik S x v=S2 at*;simp only[rwE,rE,chE,rwO,chO,Wh.avs];refine vR ?_;refine Zez (ka:=true) (va:=false) (n:=41) (b:=bm) (l:=gl3 S2) (key:=x.l) (zs:=[0]) (k:=111) (e:=3) (x':=.t 72) (i':=.t 73) Ka ZuR Ka rfl rfl rfl rfl rfl rfl rfl (hxo.key hw) (ZoS hw hin2) (ZnE S2 x) ?_;rw[hl2];simp only[go_sem,hP,kav,Yp,YA,Ycb];refine vR ?_;refine vC ?_ ?_<;>intro h;{(have hk:x∈cks S:=Ybc fun hk=>by have:=hfr hk;simp at h;omega);refine ZaO ?_;refine hQ _ rows S2 hb (hag hk) hlen hr ?_;simp only[rE,chE,chO,Wh.avs];exact Zak};(have hk:x∉cks S:=fun hk=>by have:=hone hk;simp at h;omega);clear h;have hst:=Prog.start (x:=x) (c:=c) (N:=8*S.length+1) hI.snd hI.lens;(have hfin:∀σ' rows',Prog w n x c (8*S.length+1) rows rows' (stds x).length 0->Sub σ' ⟨rwE (chE c (c+101) cap bm) r.hd r.xs.length j,rwO (chO w n rows' q S2 bm) x⟩->Q .normal σ':=fun σ' rows' hp hsub=>by refine hQ _ rows' S2 hb (hfr2 hk rows' hp) (by rw[hp.len];exact hlen) (by rw[hp.same c (Yi _)];exact hr) (hsub.trans ?_);simp only[rwE,rE,chE,rwO,chO,Wh.avs];exact Zak);(have hN:8*S.length+1<=4468801:=by omega);refine vR ?_;by_cases hse:0<x.cr/\0<x.pl;{(have hsd:(stds x).map scd=[[.int .i64 x.pl,.int .i64 x.cr],[.int .i64 0,.int .i64 (x.cr-1)]]:=by unfold stds;rw[Yt hse];rfl);have hact:=ZxP hw (pl:=x.pl) (cr:=x.cr) (a:=-1) hxo.pl ⟨hxo.cr.1,by have:=hxo.cr;omega⟩ rfl;(have hap:ZeX w x.pl x.cr (-1)=(0,x.cr-1):=by unfold ZeX;rw[Yt rfl,Yt hse.1]);rw[hap]at hact;refine vC ?_ ?_<;>intro h;{refine vR ?_;(refine Zal (hact) ?_;simp only[go_sem,hP,Wh.av,Wh.avs];refine vQ ?_);refine⟨Kb,?_⟩;refine Zot 95 78 Kb Kb rfl ?_;simp only[go_sem,hP];refine Zav (σ':=⟨upd (rwE (chE c (c+101) cap bm) r.hd r.xs.length j) 13 (.gr 78),stO (rwO (chO w n rows q S2 bm) x) x⟩) (Zaf (by simp only[rwE,rE,chE,go_sem];exact Zaj) (by simp only[stO,hsd,rwO,chO,Wh.avs,go_sem];exact Zaa)) ?_;exact standsC hP hw hn hc hxr hb hN hlen hst hcap hfin};{exfalso;simp[hse.1,hse.2]at h}};{(have hsd:(stds x).map scd=[[.int .i64 x.pl,.int .i64 x.cr]]:=by unfold stds;rw[Yx hse];rfl);refine vC ?_ ?_<;>intro h;{exfalso;apply hse;simpa using h};{(refine Zbq ?_;simp only[go_sem]);refine Zav (σ':=⟨upd (rwE (chE c (c+101) cap bm) r.hd r.xs.length j) 13 (.gr 78),stO (rwO (chO w n rows q S2 bm) x) x⟩) (Zaf (by simp only[rwE,rE,chE,go_sem];exact Zaj) (by simp only[stO,hsd,rwO,chO,Wh.avs,go_sem];exact Zaa)) ?_;exact standsC hP hw hn hc hxr hb hN hlen hst hcap hfin}}
attribute [local go_sem] cRows cArr rO
def ZAX(R:List CRow)(q:Nat):Zac CRow.cd R 0++[AV.c (.raw (.slice none 0 0))]++List.replicate q .non=Zac CRow.cd (R++[CRow.nil]) q:=by rw[<-Znt];rfl
def growC{C:Ctx}(hP:C.P=Tryz.prog){w:Wh}{n:Int}{c:Nat}(hc:c<=400000){rows0:List CRow}{S:Cks}(hI:CInv w n rows0 S c 0)(hlen:rows0.length<=c+101){q0 cap0 bm:Nat}(hcap:rows0.length<=cap0/\cap0<=rows0.length+q0){Q:Exit->St->Prop}(hQ:∀σ' rows cap q,CInv w n rows S c 0->rows.length=c+101->(c+101<=cap/\cap<=c+101+q)->Sub σ' ⟨chE c (c+101) cap bm,chO w n rows q S bm⟩->Q .normal σ'):
  WV C (.block 2 ZCZ) Q ⟨chE c rows0.length cap0 bm,chO w n rows0 q0 S bm⟩:=by simp only[chE,chO,Wh.avs];refine Zbe ?_;refine Zam [2,3,6,9,10] [39,51] (fun i:List CRow×Nat×Nat=>CInv w n i.1 S c 0/\i.1.length<=c+101/\i.1.length<=i.2.1/\i.2.1<=i.1.length+i.2.2) (fun i=>c+101-i.1.length) (fun i=>[(8,.vw 1 51 0 i.1.length i.2.1)]) (fun i=>[(39,cRows i.1),(51,cArr i.1 i.2.2)]) (rows0,cap0,q0) ⟨hI,hlen,hcap⟩ ?_ ?_;{exact Zak};rintro⟨R,cap,q⟩ ⟨hR,hl,hcp⟩;simp only at hR hl hcp;have w1:=vw (n:=(c:Int)+100);refine vW w1 ?_;refine vC ?_ ?_<;>intro h;{(have hl2:R.length<c+101:=by simp at h;omega);clear h;refine vR ?_;refine⟨by rw[ZoE];omega,by have:=vM;omega,Kc,?_⟩;intro cap' j' h1 h2 h3;refine⟨(R++[CRow.nil],cap',j'),⟨hR.grow,by simp;omega,by simp;omega,by simp;omega⟩,by simp;omega,?_⟩;have e1:List.take (R.length*1) (Zac CRow.cd R q)=Zac CRow.cd R 0:=Zfe ZoD R q;rw[e1];(have e2:AV.prgL 51 (Zac CRow.cd R 0++List.map AV.c [[CD.raw (.slice none 0 0)]].flatten++List.replicate j' .non)=Zac CRow.cd (R++[CRow.nil]) j':=by rw[<-prg_cellsG CRow.cd 51 (R++[CRow.nil]) j',<-ZAX];rfl);rw[e2];refine(Zrg 39 rfl).trans ?_;simp only[Yw,YaZ];exact Zak};{(have hl2:R.length=c+101:=by simp at h;omega);clear h;refine vR ?_;refine hQ _ R cap q hR hl2 Kc ?_;rw[<-hl2];simp only[chE,chO,Wh.avs];exact Zak}
def rowsC{C:Ctx}(hP:C.P=Tryz.prog){w:Wh}(hw:WhOk w){n:Int}(hn:1<=n/\n<=20){c:Nat}(hc:c<=400000){rows0:List CRow}{S0:Cks}(hI:CInv w n rows0 S0 c 0)(hlen:rows0.length=c+101){q cap bm:Nat}(hcap:c+101<=cap/\cap<=c+101+q){Q:Exit->St->Prop}(hR:Zom w n c->Q .ret ⟨upd (upd e0 4 (iv c)) 5 (iv 0),o0⟩)(hQ:∀σ' rows S,CInv w n rows S (c+1) 0->rows.length=c+101->Sub σ' ⟨chE c (c+101) cap bm,chO w n rows q S bm⟩->Q .normal σ'):
  WV C ZC3 Q ⟨chE c (c+101) cap bm,chO w n rows0 q S0 bm⟩:=by obtain⟨r,hr⟩:∃r,rows0[c]? =some r:=⟨_,Yd Kc⟩;have hge:=ZrR hr q .non;have hcl:=ZoE rows0 q;simp only[chE,chO,Wh.avs];refine Zat ?_;(refine ZdM 4 ?_;simp only[Y8,Yaz,YbD,YaI,Yat,YbB];simp only[go_sem,hP,hge,Yr,Yab];refine vQ ?_);refine Zef rfl (Zwe (n:=39) (k:=c) (sz:=3) (e:=111) hr rfl rfl rfl ?_);simp only[go_sem,hP];(refine ZcE ?_;refine vN ?_);refine Zbe ?_;refine Zam [2,3,6,8,9,10,55,56] [39,51,41] (fun i:Nat×List CRow×Cks=>i.1<=r.xs.length/\CInv w n i.2.1 i.2.2 c i.1/\i.2.1.length=c+101/\i.2.1[c]? =some r) (fun i=>r.xs.length-i.1) (fun i=>[(57,iv i.1)]) (fun i=>[(39,cRows i.2.1),(51,cArr i.2.1 q),(41,gmap true false (gl3 i.2.2) bm)]) (0,rows0,S0) ⟨YC _,hI,hlen,hr⟩ ?_ ?_;{exact Zak};rintro⟨j,R,S⟩ ⟨hj,hRI,hRl,hRr⟩;simp only at hj hRI hRl hRr;refine vR ?_;refine vC ?_ ?_<;>intro h;{(have hj:j<r.xs.length:=by simpa using h);clear h;obtain⟨x,hx,hxr⟩:=hRI.snd c r hRr (r.xs[j]) (Yv hj);(have hxj:r.xs[j]? =some x.l:=by rw[Yd hj,hx]);have hrl:=hRI.lens r (Yu hRr);have hsl:=hRI.slen hw;have w1:=vw (n:=(j:Int)+1);refine Zbq ?_;simp only[go_sem];refine Zat ?_;refine Zav (σ':=⟨rE (chE c (c+101) cap bm) r.hd r.xs.length j,chO w n R q S bm⟩) (Zaf (by simp only[rE,chE,go_sem];exact Zaj) (by simp only[chO,Wh.avs,go_sem];exact Zaa)) ?_;refine pointC hP hw hn hc hRI hRl hRr hxj hcap (fun hb=>?_) (fun σ' R2 S2 hb hI2 hl2 hr2 hsub=>?_);{exact hR ⟨x,hxr,hb⟩};{refine Zav hsub ?_;simp only[rE,chE,chO,Wh.avs];refine vW w1 ?_;refine⟨(j+1,R2,S2),⟨hj,hI2,hl2,hr2⟩,by simp only;omega,?_⟩;exact Zak}};{(have hj:j=r.xs.length:=by simp at h;omega);subst hj;clear h;refine vR ?_;refine hQ _ R S (hRI.next hw hRr) hRl ?_;simp only[chE,chO,Wh.avs];exact Zak}
def cheapest13(w:Wh)(n:Int):Fq 24 [w.av,iv n] (.tup [iv (ZcC w n).1,iv (ZcC w n).2]):=by refine vE Zvu.h fun C hP hN hC hL=>?_;simp only[Zvu,Wh.av,Wh.avs];refine vR ?_;refine Zah [3] (ZyV w n) rfl rfl rfl Kb rfl rfl ?_;rintro r l' ⟨rfl,rfl⟩;by_cases h1:Za1 w (Zad n 1 20)=0;{rw[Yt h1,h1];(have hb:whB w=true/\Zad n 1 20=true:=by unfold Za1 at h1;split at h1;{split at h1;{rename_i a b;exact⟨a,b⟩};{cases h1}};{cases h1});have hw:=ZdL hb.1;have hro:=hw.ro;(have hn:1<=n/\n<=20:=by have:=hb.2;simpa [Zad]using this);refine⟨_,_,rfl,rfl,?_⟩;simp only[go_sem,hP,Zae,Wh.av,Wh.avs];refine vR ?_;refine vC ?_ ?_<;>intro h;{simp at h};clear h;refine vR0 ?_;by_cases hem:w.co=[]\/w.no=[];{(have e1:ZcC w n=(0,3):=by unfold ZcC;rw[Yt h1,Yt hem]);rw[e1];refine vC ?_ ?_<;>intro h;{exact vUt};{exfalso;rcases hem with e|e<;>simp[e]at h}};have hne:w.co≠[]/\w.no≠[]:=⟨fun e=>hem (.inl e),fun e=>hem (.inr e)⟩;(have e1:ZcC w n=(((cheapN w n:Nat):Int),0):=by unfold ZcC;rw[Yt h1,Yx hem]);rw[e1];refine vC ?_ ?_<;>intro h;{exfalso;have h3:=YaJ.2 hne.1;have h4:=YaJ.2 hne.2;simp at h;rcases h with h|h;{exact hne.1 h};{exact hne.2 h}};clear h;(refine Zbq ?_;simp only[go_sem]);refine Zat ?_;(refine ZdM 1 ?_;simp only[Y8,Yaz,YbD,YaI,Yat,YbB];refine vN ?_);refine Zef rfl ?_;refine Zpq (xs:=[[0,0,0]]) rfl rfl rfl (fun z hz=>by simp only[Yk]at hz;subst hz;rfl) ?_;intro b;simp only[go_sem,hP];(refine ZcE ?_;refine vN ?_);refine vR ?_;refine ZnZ true false rfl ?_;intro bm;simp only[go_sem,hP];refine Zot 40 51 Kb Kb rfl ?_;simp only[go_sem,hP];refine Zuu 39 Nat.one_pos rfl ?_;obtain⟨r0,hr0⟩:∃r0:CRow,r0=⟨b,1,[[0,0,0]]⟩:=⟨_,rfl⟩;(have hc0:[AV.c (.raw (.slice (some ⟨b,0,none⟩) 1 1))]=Zac CRow.cd [r0] 0:=by rw[hr0];rfl);(have hx0:r0.xs=[[0,0,0]]:=by rw[hr0]);rw[<-hr0,hc0];clear hr0 hc0;refine Zat ?_;(refine ZcF ?_;refine vN ?_);refine Zbe ?_;have hgl:([]:GL)=gl3 []:=rfl;rw[hgl];obtain⟨t0,ht0,hhit⟩:=Zo0 hw hn hne.2 hne.1;refine Zam [2,3,6,9] [39,51,41] (fun i:Nat×List CRow×Cks×Nat×Nat=>CInv w n i.2.1 i.2.2.1 i.1 0/\i.2.1.length<=i.1+101/\i.2.1.length<=i.2.2.2.1/\i.2.2.2.1<=i.2.1.length+i.2.2.2.2) (fun i=>400001-i.1) (fun i=>[(8,.vw 1 51 0 i.2.1.length i.2.2.2.1),(10,iv i.1)]) (fun i=>[(39,cRows i.2.1),(51,cArr i.2.1 i.2.2.2.2),(41,gmap true false (gl3 i.2.2.1) bm)]) (0,[r0],[],1,0) ⟨CInv.start hx0,Kd,Kd,Kd⟩ ?_ ?_;{exact Zak};rintro⟨c,R,S,cap,q⟩ ⟨hI,hl,hcp⟩;simp only at hI hl hcp;have hc:c<=400000:=Ybc fun hc=>hI.nohit hw Kc hhit;refine Zat (Zbe (Zat ?_));refine Zav (σ':=⟨chE c R.length cap bm,chO w n R q S bm⟩) (by simp only[chE,chO,Wh.avs,Zai];exact Zak) ?_;refine growC hP hc hI hl hcp fun σ' R2 cap2 q2 hI2 hl2 hcp2 hsub=>?_;refine Zav hsub ?_;refine rowsC hP hw hn hc hI2 hl2 hcp2 (fun hh=>?_) (fun σ' R3 S3 hI3 hl3 hsub3=>?_);{have e2:=ZlU hh fun u hu=>hI.nohit hw hu;rw[e2];simp only[inQ,Zaz,ZfE,Zcb,Zaq,ZbJ];simp only[go_sem,Zbu,AV.port,AV.portL,YU];exact AVle.refl _};{refine Zav hsub3 ?_;have w1:=vw (n:=(c:Int)+1);simp only[chE,chO,Wh.avs];refine vW w1 ?_;refine⟨(c+1,R3,S3,cap2,q2),⟨hI3,by simp only;omega,by simp only;omega⟩,by simp only;omega,?_⟩;rw[show(c+101)=R3.length by omega];simp only[Zai];exact Zak}};{(have e1:ZcC w n=(0,Za1 w (Zad n 1 20)):=by unfold ZcC;rw[Yx h1]);rw[e1,Yx h1];generalize Za1 w (Zad n 1 20)=e at*;refine⟨_,_,rfl,rfl,?_⟩;simp only[go_sem,hP,Zae,whZ];refine vR ?_;refine vC ?_ ?_<;>intro h;{exact vUt};{simp at h;exact absurd h h1}}
def ZFS:Cz [] 83:=ec
abbrev ZDC:List Nat:=[0]
def ZFj:Cz [17] 35:=ec [(4,488,[.b [2] [.b [0] [.l [1,3,4,5,6,7,8],.l [3,1,4,5,6,7,8]],.l [3,0,1,4,5,6,7,8]]])]
def Zph(l:List Int)(k:Nat):Int:=(l.take k).foldl max (l.getD 0 0)
def ZiE{l:List Int}{k:Nat}(h:k<l.length):Zph l (k+1)=max (Zph l k) l[k]:=by unfold Zph;rw[Yq h,YaO];rfl
def ZvI{l:List Int}(h:0<l.length):Zph l 1=l.getD 0 0:=by rw[ZiE h];(have:l.getD 0 0=l[0]:=by rw[Yb,Yd h];rfl);unfold Zph;rw[Yaz,Ycr,this];omega
def ZCn{l:List Int}(h0:0<l.length)(hl:l.length<=10000):Fq 83 [.c (Zai l)] (iv (Zph l l.length)):=by have g0:=Zau h0;have e1:=ZvI h0;refine vE ZFS.h fun C hP hN hC hL=>?_;simp only[ZFS];refine vR0 ?_;refine vC ?_ ?_<;>intro h;{exfalso;simp at h;omega};{(repeat(refine vV ?_;(try simp only[go_sem,hP,g0,Zai,Yc,Ybu,h0]);refine vQ ?_));refine Zam ZDC [] (fun k:Nat=>1<=k/\k<=l.length) (fun k=>l.length-k) (fun k=>[(4,iv k),(3,iv (Zph l k))]) (fun _=>[]) 1 ⟨Yi _,h0⟩ ?_ ?_;{rw[e1];exact Zak};{rintro k ⟨hk1,hk⟩;refine vR0 ?_;refine vC ?_ ?_<;>intro h;{(have hi:k<l.length:=by simpa using h);have g1:=Zau hi;rw[Zbg hi]at g1;have hsu:=ZiE hi;have w1:=vw (n:=(k:Int)+1);generalize l[k]=x at g1 hsu;generalize Zph l k=m at hsu|-;refine vW0 (vA g1 (vA hi w1)) ?_;refine⟨k+1,⟨Kc,Kc⟩,Kc,?_⟩;rw[hsu];exact Zak};{(have hi:k=l.length:=by simp at h;omega);subst hi;(refine vU ?_;try exact trivial)}}}
def Zd8(b:Bx):Int:=max 0 (b.pl-Zph (Zek b) (Zek b).length)
def ZnN{l:List Int}(h:∀n∈l,0<=n/\n<=2000)(h0:0<l.length):∀k:Nat,k<=l.length->0<=Zph l k/\Zph l k<=2000
 |0,_=>by unfold Zph;rw[Yaz,Ycr,Yb,Yd h0];exact h _ (Yv h0)
 |k+1,hk=>by have ih:=ZnN h h0 k Kc;rw[ZiE hk];have:=h _ (Yv (show k<l.length from hk));omega
def ZzA{b:Bx}(h:bxB b=true)(h0:0<(Zek b).length):Fq 35 [b.av] (.tup [iv (Zd8 b),iv 0]):=by
 have hb:=Zbc h;have hpl:=hb.pl;have hcn:=ZrM (Znm h) hb;have ho:=Zmz b;rw[ZlQ h,ZhX h]at ho;unfold Zd8;refine vE ZFj.h fun C hP hN hC hL=>?_
 simp only[ZFj,Bx.av,Bx.avs];refine vR ?_;(refine Zal (ho) ?_;simp only[go_sem,hP,Bx.av,Bx.avs];refine vQ ?_;(repeat(refine vV ?_;(try simp only[go_sem,hP,Bx.av,Bx.avs]);refine vQ ?_)));refine vC ?_ ?_<;>intro h
 ·simp at h
 ·have w2:∀m:Int,0<=m/\m<=2000->IntKind.i64.wrap (b.pl-m)=b.pl-m:=fun m hm=>vw (n:=b.pl-m)
  refine vR ?_;refine ZaS ?_;simp only[go_sem,hP];(repeat'(refine And.intro ?_ ?_));all_goals(
   refine ZaK hcn rfl rfl rfl rfl ?_;rintro _ _ ⟨rfl,rfl,r1,r2⟩;refine⟨[],_,_,Kd,rfl,rfl,rfl,rfl,?_⟩;have hmx:=ZCn h0 Kc;have hmo:=ZnN r1 h0 _ (Yi _);have w3:=w2 _ hmo;generalize Zph (Zek b) (Zek b).length=m at hmx hmo w3|-;simp only[go_sem,hP,Zae];first|refine Zal hmx ?_|refine ZaM hmx rfl rfl rfl rfl rfl ?_
   simp only[go_sem,hP,w3];refine vW w3 ?_;(refine vT ?_;try exact trivial))
def Jok(A:Bag)(s:Seen×List Pt):Prop:=∀x∈sks s.1,x.bag=A\/x∈s.2\/∃y∈sks s.1,y.bag.many=x.bag.many+1
structure Grew(s s':Seen×List Pt):Prop where
 m:∀z∈sks s.1,z∈sks s'.1
 q:∀z∈s.2,z∈s'.2
 n:∀z∈sks s'.1,z∈sks s.1\/z∈s'.2
def Grew.trans{a b c:Seen×List Pt}(h:Grew a b)(g:Grew b c):Grew a c:=
 ⟨fun z hz =>g.m z (h.m z hz),fun z hz =>g.q z (h.q z hz),fun z hz =>by
  rcases g.n z hz with h1|h1
  ·rcases h.n z h1 with h2|h2
   ·exact .inl h2
   ·exact .inr (g.q z h2)
  ·exact .inr h1⟩
def Zrq(A:Bag)(act:Int)(x:Pt)(s:Seen×List Pt)(y:Pt):Grew s (Zgn A act x s y)/\trim A y∈sks (Zgn A act x s y).1:=by unfold Zgn;split;{rename_i h;exact⟨⟨fun _ h=>h,fun _ h=>h,fun _ h=> .inl h⟩,h⟩};{refine⟨⟨fun z hz=>?_,fun z hz=>?_,fun z hz=>?_⟩,?_⟩;{simp only[sks,Yy,YD];exact .inl hz};{exact YD.2 (.inl hz)};{simp only[sks,Yy,YD,Ye,Yg,Yk]at hz;rcases hz with h|rfl;{exact .inl h};{exact .inr Kd}};{simp[sks]}}
def ZcS(A:Bag)(x:Pt):∀(l:List (Int×Pt))(s:Seen×List Pt),Grew s (Za6 A x l s)/\∀e∈l,trim A e.2∈sks (Za6 A x l s).1
 |[],s=>⟨⟨fun _ h=>h,fun _ h=>h,fun _ h=> .inl h⟩,fun _ h=>by cases h⟩
 |e::l,s=>by have h1:=Zrq A e.1 x s e.2;have h2:=ZcS A x l (Zgn A e.1 x s e.2);refine⟨h1.1.trans h2.1,fun z hz=>?_⟩;rcases YF.1 hz with rfl|hz;{exact h2.1.m _ h1.2};{exact h2.2 z hz}
def Zk7(x:Bag){k:Nat}(hk:k<4):(x.inc k).many=x.many+1:=by(have:k=0\/k=1\/k=2\/k=3:=by omega);rcases this with rfl|rfl|rfl|rfl<;>simp only[Bag.inc,Bag.many]<;>omega
def ZAN{w:Wh}{A:Bag}(hz:∀k,w.co.length<=k->k<4->A.at k=0){x:Pt}(hx:PtIn w.ro A x)(h:x.bag≠A):∃k,k<w.co.length/\x.bag.at k≠A.at k:=by apply Ybc;intro hc;apply h;(have key:∀k,k<4->x.bag.at k=A.at k:=fun k hk=>by by_cases hl:k<w.co.length;{exact Ybc fun hn=>hc ⟨k,hl,hn⟩};{have h0:=hz k Kc hk;obtain⟨⟨_,_,a1,a2,a3,a4,_⟩,_⟩:=hx;(have:k=0\/k=1\/k=2\/k=3:=by omega);rcases this with rfl|rfl|rfl|rfl<;>simp only[Bag.at,Bag.l,Pt.bag,YaN,Yak]at h0|-<;>omega});have k0:=key 0 Kc;have k1:=key 1 Kc;have k2:=key 2 Kc;have k3:=key 3 Kc;cases A;simp only[Bag.at,Bag.l,Pt.bag,YaN,Yak]at k0 k1 k2 k3|-;rw[k0,k1,k2,k3]
def ZuX{w:Wh}{A:Bag}(hcl:w.co.length<=4)(hz:∀k,w.co.length<=k->k<4->A.at k=0){S:Seen}{x:Pt}{q:List Pt}(hx:PtIn w.ro A x)(h:Jok A (S,x::q)):Jok A (ZbK w A x (S,q))/\∀z∈sks S,z∈sks (ZbK w A x (S,q)).1:=by have g1:=ZcS A x (ZjA x) (S,q);have g2:=ZcS A x (Zcr w A x w.co.length) (Za6 A x (ZjA x) (S,q));have g:Grew (S,q) (ZbK w A x (S,q)):=g1.1.trans g2.1;refine⟨fun z hzs=>?_,g.m⟩;rcases g.n z hzs with h1|h1;{rcases h z h1 with h2|h2|⟨y,hy,h2⟩;{exact .inl h2};{rcases YF.1 h2 with rfl|h2;{by_cases hA:z.bag=A;{exact .inl hA};{obtain⟨k,hk,hne⟩:=ZAN hz hx hA;refine .inr (.inr ⟨_,g2.2 ((k:Int),z.with ((z.pl+w.co.getD k 0) % w.ro) (z.cr+plays w z.pl (w.co.getD k 0)) (z.bag.inc k) (z.bo+plays w z.pl (w.co.getD k 0))) ?_,?_⟩);{unfold Zcr;rw[Ya7];refine⟨k,Yaj.2 hk,?_⟩;unfold Zig;rw[Yx hne];simp};{exact Zk7 z.bag Kc}}};{exact .inr (.inl (g.q z h2))}};{exact .inr (.inr ⟨y,g.m y hy,h2⟩)}};{exact .inr (.inl h1)}
def ZAO{w:Wh}(hw:WhOk w){A:Bag}(hA:BagOk A)(hz:∀k,w.co.length<=k->k<4->A.at k=0):∀(n:Nat)(s:Seen×List Pt),SeenOk w.ro A s->Jok A s->s.2.length+238291875000<=n+s.1.length->Jok A (bfs w A n s,[])/\∀z∈sks s.1,z∈sks (bfs w A n s)
 |n,(S,[]),h,hj,_=>by rw[Znl];exact⟨hj,fun _ h=>h⟩
 |0,(S,x::q),h,hj,hl=>by have:=(h.len hA hw.ro.2).1;simp only[Yo]at hl this;omega
 |n+1,(S,x::q),h,hj,hl=>by
  have hx:=h.of_mem (h.sub x Kd);have he:=ZdA hw hA h;have hJ:=ZuX hw.cl hz hx hj;have ih:=ZAO hw hA hz n (ZbK w A x (S,q)) he.1 hJ.1 (by
   have:=he.2;simp only[Yo]at hl this|-;omega)
  refine⟨ih.1,fun z hzs=>ih.2 z (hJ.2 z hzs)⟩
def ZpI{w:Wh}(hw:WhOk w){A:Bag}(hA:BagOk A)(hz:∀k,w.co.length<=k->k<4->A.at k=0):∃e∈Zcc w A,e.1.bag=A:=by
 have h0:Jok A ([(p00,(-2:Int),p00)],[p00]):=fun x hx=>by simp only[sks,Ye,Yg,Yk]at hx;exact .inr (.inl (by simp[hx]))
 have h:=ZAO hw hA hz 476583750002 _ (ZeB hw hA) h0 Kd;have hin:=(Zjd hw hA).2.1;apply Ybc;intro hc;have step:∀n:Nat,∃x∈sks (Zcc w A),x.bag.many=n:=by
  intro n;induction n with
  |zero=>exact⟨p00,h.2 _ (by simp[sks]),rfl⟩
  |succ n ih=>obtain⟨x,hx,hm⟩:=ih;rcases h.1 x hx with h1|h1|⟨y,hy,h1⟩;{obtain⟨e,he,rfl⟩:=Ys.1 hx;exact absurd ⟨e,he,h1⟩ hc};{cases h1};{exact⟨y,hy,by rw[h1,hm];rfl⟩}
 obtain⟨x,hx,hm⟩:=step 15;obtain⟨e,he,rfl⟩:=Ys.1 hx;obtain⟨⟨_,_,a1,a2,a3,a4,_⟩,_⟩:=hin e he;have:=hA.m;simp only[Pt.bag,Bag.many]at hm;omega
def Ztv{b:Bx}(h:bxB b=true){k:Nat}(hk:b.wh.co.length<=k)(h4:k<4):(pur b []).at k=0:=by(have hl:(pur b []).l=Zgs (ZbN b):=by rw[<-ZiS b [],<-Zlj];rfl);have q:=h;simp only[bxB,Yf]at q;obtain⟨⟨⟨⟨⟨⟨⟨_,_⟩,_⟩,h4'⟩,_⟩,_⟩,_⟩,_⟩:=q;have hf:=(ZaI h4').1;(have hp:(ZbN b).getD k 0=0:=by rw[Yb,YW (by simp only[ZbN,Zgm,List.length_zipWith];omega)];rfl);unfold Bag.at;rw[hl];(have:k=0\/k=1\/k=2\/k=3:=by omega);rcases this with rfl|rfl|rfl|rfl<;>exact hp
def ZrO{b:Bx}(h:bxB b=true):0<(Zek b).length:=by have hb:=Zbc h;obtain⟨e,he,hbag⟩:=ZpI hb.wh (Zke hb (ZiT b hb)) fun k h1 h2=>Ztv h h1 h2;(have:e.1.bo∈Zek b:=by unfold Zek;rw[Zfv,YbK,Ys];exact⟨e,Ybj.2 ⟨he,by simpa using hbag⟩,rfl⟩);exact List.length_pos_of_mem this
def Zwp{b:Bx}(h:bxB b=true):Fq 35 [b.av] (.tup [iv (Zd8 b),iv 0]):=ZzA h (ZrO h)
abbrev bv(b:Bool):AV:=.c (.bool b)
structure Rec where
 front:Int
 back:Int
 deriving DecidableEq,Inhabited
structure Pr where
 side:Int
 time:Int
 deriving DecidableEq,Inhabited
structure Tray where
 recs:List Rec
 at_:Int
 way:Int
 step:Int
 pres:List Pr
 deriving DecidableEq,Inhabited
def Rec.cds(s:Rec):List CD:=[.int .i64 s.front,.int .i64 s.back]
def ZaT(l:List Rec):CD:=.sl 2 (l.map Rec.cds)
def Pr.cds(p:Pr):List CD:=[.int .i64 p.side,.int .i64 p.time]
def Zbb(l:List Pr):CD:=.sl 2 (l.map Pr.cds)
def Tray.cds(t:Tray):List CD:=[ZaT t.recs,.int .i64 t.at_,.int .i64 t.way,.int .i64 t.step,Zbb t.pres]
def Tray.av(t:Tray):AV:=.agg [.c (ZaT t.recs),iv t.at_,iv t.way,iv t.step,.c (Zbb t.pres)]
def Tray.n(t:Tray):Nat:=t.recs.length
def Zfo(r:Rec):Bool:=Zad r.front 1 999&&Zad r.back 1 999
def ZcZ(n:Nat)(s:Int):Bool:=Zad s 0 (2*(n:Int)-1)
def Zb3(x:Int):Bool:=Zad x 0 9999
def Zpk(n:Nat)(p:Pr):Bool:=ZcZ n p.side&&Zb3 p.time
def Tray.okHead(t:Tray):Bool:=Zad t.n 1 6&&Zad t.at_ 0 ((t.n:Int)-1)&&(t.way==1||t.way== -1)&&Zad t.step 0 60
def Tray.ok(t:Tray):Bool:=t.okHead&&t.recs.all Zfo&&decide (t.pres.length<=12)&&t.pres.all (Zpk t.n)
def ZqK{l:List Rec}(h:(ZaT l).lens):l.length<=9223372036854775807:=by simp only[ZaT,CD.lens,Yc,maxLen]at h;omega
def Ztm{l:List Pr}(h:(Zbb l).lens):l.length<=9223372036854775807:=by simp only[Zbb,CD.lens,Yc,maxLen]at h;omega
def Tray.lens{t:Tray}{xs:List AV}(h:AV.lensL (t.av::xs)):t.recs.length<=9223372036854775807/\t.pres.length<=9223372036854775807:=by simp only[AV.lensL,Tray.av,AV.lens]at h;exact⟨ZqK h.1.1,Ztm h.1.2.2.2.2.1⟩
def Zd6(r:Pr):r.cds.length=2:=rfl
def Zf7(l:List Rec):((l.map Rec.cds).all fun e=>e.length==2)=true:=by rw[Yn];intro e he;obtain⟨n,_,rfl⟩:=Ys.1 he;rfl
def ZdX(l:List Pr):((l.map Pr.cds).all fun e=>e.length==2)=true:=by rw[Yn];intro e he;obtain⟨n,_,rfl⟩:=Ys.1 he;rfl
attribute [go_sem] Int.toNat_natCast List.length_map List.length_set Nat.mul_one Nat.zero_add Int.natCast_nonneg
structure TrayOk(t:Tray):Prop where
 n1:1<=t.n
 n6:t.n<=6
 at_:0<=t.at_/\t.at_<(t.n:Int)
 way:t.way=1\/t.way= -1
 step:0<=t.step/\t.step<=60
 recs:∀r∈t.recs,(1<=r.front/\r.front<=999)/\(1<=r.back/\r.back<=999)
 pres:∀p∈t.pres,(0<=p.side/\p.side<2*(t.n:Int))/\(0<=p.time/\p.time<=9999)
 p13:t.pres.length<=13
def Tray.ok_spec{t:Tray}(h:t.ok=true):TrayOk t/\t.pres.length<=12:=by simp only[Tray.ok,Tray.okHead,Yf,Yae,YaX,Yl,Yn,Zfo,Zpk,ZcZ,Zb3,Zad]at h;obtain⟨⟨⟨⟨⟨⟨h1,h2⟩,h3⟩,h4⟩,h5⟩,h6⟩,h7⟩:=h;exact⟨⟨Kc,Kc,Kc,h3,h4,h5,fun p hp=>by have:=h7 p hp;omega,Kc⟩,h6⟩
def ZFJ:Cz [] 73:=ec
abbrev ZDz:List Nat:=[1,58,59]
abbrev ZDA:List Nat:=[1,87,88]
def ZFK:Cz [] 74:=ec
def ZFL:Cz [] 75:=ec
def ZFw:Cz [] 56:=ec
abbrev ZDx:List Nat:=[1]
def ZBq:Cz [] 105:=ec [(6,516992,[])]
abbrev ZAh:List Nat:=[2]
def ZBp:Cz [] 104:=ec
def ZBH:Cz [] 137:=ec
def ZBI:Cz [] 138:=ec
def ZFs:Cz [] 52:=ec
def ZzW(a b c:Int):Fq 104 [iv a,iv b,iv c] (.c (.bool (Zad a b c))):=by refine vE ZBp.h fun C hP hN hC hL=>?_;simp only[ZBp];(refine vU ?_;try exact trivial)
def Zk9(a:Int):Fq 74 [iv a] (.c (.bool (Zb3 a))):=by refine vE ZFK.h fun C hP hN hC hL=>?_;simp only[ZFK];(refine vU ?_;try exact trivial)
def ZtJ(a:Int):Fq 138 [iv a] (.c (.bool (Zb3 a))):=by refine vE ZBI.h fun C hP hN hC hL=>?_;simp only[ZBI];refine vR ?_;(refine Zal (ZzW _ _ _) ?_;refine vS ?_);(refine vT ?_;try exact trivial)
def ZzB(n:Nat)(s:Int):(decide (0<=s)&&decide (s<2*(n:Int)))=ZcZ n s:=by unfold ZcZ Zad;rw[Yaq];simp;omega
def Zo6(t:Tray)(s:Int)(hn:t.n<=1000):Fq 75 [t.av,iv s] (.c (.bool (ZcZ t.n s))):=by refine vE ZFL.h fun C hP hN hC hL=>?_;simp only[ZFL,Tray.av];have hn':t.recs.length=t.n:=rfl;have w1:=vw (n:=2*(t.n:Int));refine vW3 (vA hn' w1) ?_;(refine vT ?_;try exact trivial);exact congrArg (fun b=>AV.c (CD.bool b)) (ZzB _ _)
def ZtI(t:Tray)(s:Int)(hn:t.n<=1000):Fq 137 [t.av,iv s] (.c (.bool (ZcZ t.n s))):=by refine vE ZBH.h fun C hP hN hC hL=>?_;simp only[ZBH,Tray.av];have hn':t.recs.length=t.n:=rfl;have w1:=vw (n:=2*(t.n:Int));have w2:=vw (n:=2*(t.n:Int)-1);refine vW3 (vA hn' (vA w1 w2)) ?_;(refine Zal (ZzW _ _ _) ?_;refine vS ?_);(refine vT ?_;try exact trivial)
def ZDe(t:Tray):Bool:=decide (40<t.n)||decide (40<t.pres.length)
def ZDJ(t:Tray):Fq 52 [t.av] (.c (.bool (ZDe t))):=by refine vE ZFs.h fun C hP hN hC hL=>?_;simp only[ZFs,Tray.av];(repeat(refine vV ?_;(try simp only[go_sem,hP,ZaT,Zbb,Yc]);refine vQ ?_));(refine vT ?_;try exact trivial);(have e1:decide ((40:Int)<(t.recs.length:Int))=decide (40<t.recs.length):=by simp;omega);(have e2:decide ((40:Int)<(t.pres.length:Int))=decide (40<t.pres.length):=by simp;omega);rw[e1,e2];rfl
def check40(t:Tray):Fq 73 [t.av] (iv (if t.ok then 0 else 20)):=by refine vE ZFJ.h fun C hP hN hC hL=>?_;obtain⟨h1,h2⟩:=Tray.lens hL;have hn':t.recs.length=t.n:=rfl;simp only[ZFJ,Tray.av,ZaT,Zbb];refine vW2 hn' ?_;(have hh:(decide (1<=(t.n:Int))&&(decide ((t.n:Int)<=6)&&(decide (0<=t.at_)&&(decide (t.at_<(t.n:Int))&&((t.way==1||t.way== -1)&&(decide (0<=t.step)&&(decide (t.step<=60)&&decide ((t.pres.length:Int)<=12))))))))=(t.okHead&&decide (t.pres.length<=12)):=by unfold Tray.okHead Zad;rw[Yaq];simp;omega);(have hh2:(((((((decide (1<=(t.n:Int))&&decide ((t.n:Int)<=6))&&decide (0<=t.at_))&&decide (t.at_<(t.n:Int)))&&(t.way==1||t.way== -1))&&decide (0<=t.step))&&decide (t.step<=60))&&decide ((t.pres.length:Int)<=12))=(t.okHead&&decide (t.pres.length<=12)):=by rw[<-hh];simp only[YcP]);rw[hh2];generalize hg0:(t.okHead&&decide (t.pres.length<=12))=g0;refine Zam ZDz [5] (fun k:Nat=>k<=t.n) (fun k=>t.n-k) (fun k=>[(3,.c (.bool (g0&&(t.recs.take k).all Zfo))),(60,iv k)]) (fun _=>[]) 0 (YC _) ?_ ?_;{exact Zak};{intro k hk;simp only[go_sem];refine vR ?_;refine vC ?_ ?_<;>intro h;{(have h:k<t.recs.length:=by simp at h;omega);have hkl:=h;(have hI:(k:Int)<(t.n:Int):=by omega);have hw2:=vw (n:=(k:Int)+1);(repeat(refine vV ?_;(try simp only[go_sem,hP,Yr,Zax h,Yc,hn',hI,YB,Rec.cds,hw2]);refine vQ ?_));refine⟨k+1,Kc,Kc,?_⟩;(refine Zaf (by simp only[go_sem];((repeat'(first|exact Zc8 _ _|refine Zco ?_ ?_))<;>((try simp only[ZbX,ZgW,Zg2,Nat.reduceEqDiff,reduceIte]);first|exact AWk.refl _ _|exact AWk.int Kc|exact AWk.int (by rw[w64 Kc Kc];omega)|exact AWk.grow rfl|exact AWk.nil _|exact AWk.of (by(rw[Zgg Zfo h];simp[YcP,Zfo,Zad]))))) (by simp only[go_sem];exact Zaa))};{(have h:k=t.recs.length:=by simp at h;omega);subst h;rw[YL];generalize hg1:(g0&&t.recs.all Zfo)=g1;refine vR4 ?_;refine Zam ZDA [7] (fun k:Nat=>k<=t.pres.length) (fun k=>t.pres.length-k) (fun k=>[(3,.c (.bool (g1&&(t.pres.take k).all (Zpk t.n)))),(89,iv k)]) (fun _=>[]) 0 (YC _) ?_ ?_;{exact Zak};{intro k hk;simp only[go_sem];refine vR4 ?_;refine vC ?_ ?_<;>intro h;{(have h:k<t.pres.length:=by simpa using h);(have hI:(k:Int)<(t.pres.length:Int):=by omega);have hw2:=vw (n:=(k:Int)+1);(repeat(refine vV ?_;(try simp only[go_sem,hP,Yr,Zax h,Yc,hI,YB,Pr.cds]);refine vQ ?_));refine Znc (fun hG=>Zo6 t t.pres[k].side ?_) rfl (fun hG=>by simp only[go_sem,hG]) rfl rfl rfl ?_;{simp only[Yf]at hG;(have:g0=true:=by have:=hG.1;rw[<-hg1]at this;simp only[Yf]at this;exact this.1);rw[<-hg0]at this;simp only[Yf,Yl,Tray.okHead,Zad]at this;omega};simp only[go_sem,hP,Tray.av,ZaT,Zbb];refine vR ?_;(refine ZaV (fun hG=>Zk9 _) ?_;refine vX hw2 ?_);refine⟨k+1,Kc,Kc,?_⟩;(refine Zaf (by simp only[go_sem];((repeat'(first|exact Zc8 _ _|refine Zco ?_ ?_))<;>((try simp only[ZbX,ZgW,Zg2,Nat.reduceEqDiff,reduceIte]);first|exact AWk.refl _ _|exact AWk.int Kc|exact AWk.int (by rw[w64 Kc Kc];omega)|exact AWk.grow rfl|exact AWk.nil _|exact AWk.of (by(rw[Zgg (Zpk t.n) h];simp[YcP,Zpk]))))) (by simp only[go_sem];exact Zaa))};{(have h:k=t.pres.length:=by simp at h;omega);subst h;rw[YL];(have hok:(g1&&t.pres.all (Zpk t.n))=t.ok:=by rw[<-hg1,<-hg0];unfold Tray.ok;cases t.okHead<;>cases t.recs.all Zfo<;>cases decide (t.pres.length<=12)<;>rfl);rw[hok];refine vR ?_;cases t.ok;{refine vC ?_ ?_<;>intro h;{exact vUt};{simp at h}};{refine vC ?_ ?_<;>intro h;{simp at h};{exact vUt}}}}}}
def ZnT(t:Tray)(most:Int):Bool:=decide ((t.pres.length:Int)<=most)&&t.pres.all (Zpk t.n)
def presses64(t:Tray)(most:Int)(hn:t.n<=1000):Fq 105 [t.av,iv most] (iv (if ZnT t most then 0 else 20)):=by refine vE ZBq.h fun C hP hN hC hL=>?_;obtain⟨h1,h2⟩:=Tray.lens hL;simp only[ZBq,Tray.av];refine vR9 ?_;refine vC ?_ ?_<;>intro h;{(have h:most<(t.pres.length:Int):=by simpa using h);(refine vU ?_;try exact trivial);(have:ZnT t most=false:=by simp[ZnT];intro h';omega);rw[this];rfl};(have hm:(t.pres.length:Int)<=most:=by simp at h;omega);clear h;(have hpb:ZnT t most=t.pres.all (Zpk t.n):=by unfold ZnT;rw[Yaa hm];rfl);rw[hpb];refine vR ?_;(refine Zam ZAh [] (fun k:Nat=>k<=t.pres.length/\(t.pres.take k).all (Zpk t.n)=true) (fun k=>t.pres.length-k) (fun k=>[(5,iv k)]) (fun _=>[]) 0 ⟨YC _,Kd⟩ ?_ ?_);{exact Zak};{intro k ⟨hk,ha⟩;simp only[go_sem];refine vR9 ?_;refine vC ?_ ?_<;>intro h;{(have h:k<t.pres.length:=by simpa using h);have hkl:=h;(have hI:(k:Int)<(t.pres.length:Int):=by omega);have hw2:=vw (n:=(k:Int)+1);(repeat(refine vV ?_;(try simp only[go_sem,hP,Zbb,Zax h,Yc,hI,YB,Pr.cds]);refine vQ ?_));(refine Zal (ZtI t _ hn) ?_;simp only[go_sem,hP,Tray.av,Zbb,Zax h,Yc,hI,YB,Pr.cds];refine vQ ?_;(repeat(refine vV ?_;(try simp only[go_sem,hP,Tray.av,Zbb,Zax h,Yc,hI,YB,Pr.cds]);refine vQ ?_)));(refine ZaV (fun hG=>ZtJ _) ?_;refine vS ?_);(have hb:(!ZcZ t.n t.pres[k].side|| !Zb3 t.pres[k].time)= !Zpk t.n t.pres[k]:=by unfold Zpk;cases ZcZ t.n t.pres[k].side<;>cases Zb3 t.pres[k].time<;>rfl);rw[hb];cases hbb:Zpk t.n t.pres[k];{refine vC ?_ ?_<;>intro h;{(refine vU ?_;try exact trivial);have:t.pres.all (Zpk t.n)=false:=Yco.2 ⟨_,Yv hkl,by simp[hbb]⟩;rw[this];rfl};{simp at h}};{refine vC ?_ ?_<;>intro h;{simp at h};{refine vW hw2 ?_;refine⟨k+1,⟨Kc,by rw[Zgg (Zpk t.n) (by assumption),ha,hbb];rfl⟩,Kc,?_⟩;exact Zak}}};{(have h:k=t.pres.length:=by simp at h;omega);subst h;rw[YL]at ha;(refine vU ?_;try exact trivial);rw[ha];rfl}}
def rcheck41(t:Tray):Fq 56 [t.av] (iv (if t.ok then 0 else 20)):=by refine vE ZFw.h fun C hP hN hC hL=>?_;obtain⟨h1,h2⟩:=Tray.lens hL;have hn':t.recs.length=t.n:=rfl;simp only[ZFw,Tray.av];have w1:=vw (n:=(t.n:Int)-1);refine vW3 hn' ?_;(refine Zal (ZzW _ _ _) ?_;refine vX3 (vA w1 hn') ?_);(refine ZaV (fun hG=>ZzW _ _ _) ?_;refine vS ?_);(refine ZaV (fun hG=>ZzW _ _ _) ?_;refine vS ?_);(have hh:(!Zad (t.n:Int) 1 6||(!Zad t.at_ 0 ((t.n:Int)-1)||((t.way !=1&&t.way != -1)|| !Zad t.step 0 60)))= !t.okHead:=by unfold Tray.okHead;cases Zad (t.n:Int) 1 6<;>cases Zad t.at_ 0 ((t.n:Int)-1)<;>cases Zad t.step 0 60<;>cases h5:(t.way==1)<;>cases h6:(t.way== -1)<;>simp[bne,h5,h6]);(have hh2:(((!Zad (t.n:Int) 1 6|| !Zad t.at_ 0 ((t.n:Int)-1))||(t.way !=1&&t.way != -1))|| !Zad t.step 0 60)= !t.okHead:=by rw[<-hh];simp only[Bool.or_assoc]);rw[hh2];cases hhd:t.okHead;{refine vC ?_ ?_<;>intro h;{(refine vU ?_;try exact trivial);simp[Tray.ok,hhd]};{simp at h}};refine vC ?_ ?_<;>intro h;{simp at h};clear h;(have hn6:t.n<=6:=by simp only[Tray.okHead,Zad,Yf,Yl]at hhd;omega);(have hok:t.ok=(t.recs.all Zfo&&ZnT t 12):=by unfold Tray.ok ZnT;rw[hhd];(have e:decide ((t.pres.length:Int)<=12)=decide (t.pres.length<=12):=by simp;omega);rw[e];cases t.recs.all Zfo<;>cases decide (t.pres.length<=12)<;>rfl);rw[hok];refine vR ?_;(refine Zam ZDx [] (fun k:Nat=>k<=t.n/\(t.recs.take k).all Zfo=true) (fun k=>t.n-k) (fun k=>[(3,iv k)]) (fun _=>[]) 0 ⟨YC _,Kd⟩ ?_ ?_);{exact Zak};{intro k ⟨hk,ha⟩;simp only[go_sem];refine vW3 hn' ?_;refine vC ?_ ?_<;>intro h;{(have h:k<t.recs.length:=by simp at h;omega);have hkl:=h;(have hI:(k:Int)<(t.n:Int):=by omega);have hw2:=vw (n:=(k:Int)+1);(repeat(refine vV ?_;(try simp only[go_sem,hP,ZaT,Zax h,Yc,hn',hI,YB,Rec.cds]);refine vQ ?_));(refine Zal (ZzW _ _ _) ?_;simp only[go_sem,hP,ZaT,Zax h,Yc,hn',hI,YB,Rec.cds];refine vQ ?_;(repeat(refine vV ?_;(try simp only[go_sem,hP,ZaT,Zax h,Yc,hn',hI,YB,Rec.cds]);refine vQ ?_)));(refine ZaV (fun hG=>ZzW _ _ _) ?_;refine vS ?_);(have hb:(!Zad t.recs[k].front 1 999|| !Zad t.recs[k].back 1 999)= !Zfo t.recs[k]:=by unfold Zfo;cases Zad t.recs[k].front 1 999<;>cases Zad t.recs[k].back 1 999<;>rfl);rw[hb];cases hbb:Zfo t.recs[k];{refine vC ?_ ?_<;>intro h;{(refine vU ?_;try exact trivial);have:t.recs.all Zfo=false:=Yco.2 ⟨_,Yv hkl,by simp[hbb]⟩;rw[this];rfl};{simp at h}};{refine vC ?_ ?_<;>intro h;{simp at h};{refine vW hw2 ?_;refine⟨k+1,⟨Kc,by rw[Zgg Zfo (by assumption),ha,hbb];rfl⟩,Kc,?_⟩;exact Zak}}};{(have h:k=t.recs.length:=by simp at h;omega);subst h;rw[YL]at ha;refine vR ?_;(refine Zal (presses64 t 12 Kc) ?_;simp only[go_sem,hP,Tray.av,ZaT];refine vQ ?_;(repeat(refine vV ?_;(try simp only[go_sem,hP,Tray.av,ZaT]);refine vQ ?_)));(refine vT ?_;try exact trivial);rw[ha];simp}}
def ZFY:Cz [] 91:=ec
structure Bar where
 box:Bx
 pl:Int
 cr:Int
 tray:Tray
def Bar.cds(b:Bar):List CD:=[.int .i64 b.box.wh.ro,Zai b.box.wh.no,Zai b.box.wh.co,Zai b.box.fo,Zai b.box.ma,Zai b.box.sl,.int .i64 b.box.pl,.int .i64 b.box.sk,.int .i64 b.pl,.int .i64 b.cr,ZaT b.tray.recs,.int .i64 b.tray.at_,.int .i64 b.tray.way,.int .i64 b.tray.step,Zbb b.tray.pres]
def Bar.avs(b:Bar):List AV:=[iv b.box.wh.ro,.c (Zai b.box.wh.no),.c (Zai b.box.wh.co),.c (Zai b.box.fo),.c (Zai b.box.ma),.c (Zai b.box.sl),iv b.box.pl,iv b.box.sk,iv b.pl,iv b.cr,.c (ZaT b.tray.recs),iv b.tray.at_,iv b.tray.way,iv b.tray.step,.c (Zbb b.tray.pres)]
def Bar.av(b:Bar):AV:=.agg b.avs
def Za5(b:Bar):Bool:=bxB b.box&&(b.tray.ok&&(decide (0<=b.pl)&&(decide (b.pl<b.box.wh.ro)&&(decide (0<=b.cr)&&decide (b.cr<=20)))))
def ZeI(b:Bar):Int:=if Za5 b then 0 else 120
def check25(b:Bar):Fq 91 [b.av] (iv (ZeI b)):=by have h1:=ZrS b.box;have h2:=check40 b.tray;refine vE ZFY.h fun C hP hN hC hL=>?_;simp only[ZFY,Bar.av,Bar.avs];simp only[Bx.av,Bx.avs]at h1;simp only[Tray.av]at h2;refine vR ?_;(refine Zal (h1) ?_;refine vS ?_);(refine ZaV (fun hG=>h2) ?_;refine vS ?_);by_cases hb:Za5 b=true;{(have he:ZeI b=0:=by unfold ZeI;rw[Yt hb]);rw[he];simp only[Za5,Yf,Yl]at hb;(have e1:bxE b.box=0:=by unfold bxE;rw[Yt hb.1]);(have e2:(if b.tray.ok then(0:Int)else 20)=0:=by rw[Yt hb.2.1]);refine vC ?_ ?_<;>intro h;{exfalso;rw[e1,e2]at h;simp at h;omega};{exact vUt}};{(have he:ZeI b=120:=by unfold ZeI;rw[Yx hb]);rw[he];refine vC ?_ ?_<;>intro h;{exact vUt};{exfalso;apply hb;simp only[Za5,Yf,Yl];(have e1:bxB b.box=true:=by(cases hx:bxB b.box with|true=>rfl|false=>unfold bxE at h;rw[hx]at h;simp at h));(have e2:b.tray.ok=true:=by(cases hx:b.tray.ok with|true=>rfl|false=>rw[hx]at h;simp at h));refine⟨e1,e2,?_⟩;simp at h;omega}}
def before(f:Nat->Int)(a b:Nat):Bool:=decide (f b<f a)||(f a==f b&&decide (a<b))
def ZjL(f:Nat->Int)(a:Nat):before f a a=false:=by simp[before]
def ZgV(f:Nat->Int){a b c:Nat}(h:before f a b=true)(k:before f b c=true):before f a c=true:=by unfold before at*;simp only[Yae,Yl,Yf,YaX]at*;omega
def rank(f:Nat->Int)(n i:Nat):Nat:=((List.range n).filter fun k=>before f k i).length
structure Ordered(f:Nat->Int)(n:Nat)(l:List Nat):Prop where
 perm:l.Perm (List.range n)
 sorted:l.Pairwise fun a b=>before f a b=true
def Ordered.len{f:Nat->Int}{n:Nat}{l:List Nat}(h:Ordered f n l):l.length=n:=by rw[h.perm.length_eq,Ycp]
def Ordered.rank{f:Nat->Int}{n:Nat}{l:List Nat}(h:Ordered f n l){j:Nat}(hj:j<l.length):rank f n l[j]=j:=by unfold Go.Proofs.YtcggfogkfhlmlaaGreatDoor.rank;rw[<-(h.perm.filter _).length_eq];(have e:l=l.take j++l[j]::l.drop (j+1):=by rw[YbI,Yah]);have hs:=YbW.1 h.sorted;(have h1:(l.take j).filter (fun k=>before f k l[j])=l.take j:=by rw[Yb1];intro x hx;obtain⟨i,hi,rfl⟩:=Ybv.1 hx;exact hs i j Kc hj Kc);(have h2:(l.drop (j+1)).filter (fun k=>before f k l[j])=[]:=by rw[List.filter_eq_nil_iff];intro x hx;obtain⟨i,hi,rfl⟩:=List.mem_drop_iff_getElem.1 hx;have:=hs j (j+1+i) hj Kc Kc;intro hb;have h3:=ZgV f this hb;rw[ZjL]at h3;cases h3);have e2:l.filter (fun k=>before f k l[j])=(l.take j++l[j]::l.drop (j+1)).filter (fun k=>before f k l[j]):=congrArg (List.filter (fun k=>before f k l[j])) e;rw[e2,YcL,Ycw,h1,h2,ZjL];simp;omega
def Ordered.mem{f:Nat->Int}{n:Nat}{l:List Nat}(h:Ordered f n l){i:Nat}(hi:i<n):∃j,∃hj:j<l.length,l[j]=i:=by have:i∈l:=h.perm.mem_iff.2 (Yaj.2 hi);obtain⟨j,hj,e⟩:=YbS.1 this;exact⟨j,hj,e⟩
def Ordered.lt{f:Nat->Int}{n:Nat}{l:List Nat}(h:Ordered f n l){j:Nat}(hj:j<l.length):l[j]<n:=
 Yaj.1 (h.perm.mem_iff.1 (Yv hj))
def mv{α:Type}(l:List α)(i j:Nat):List α:=l.take j++((l.drop i).take 1++((l.drop j).take (i-j)++l.drop (i+1)))
def Zmw{α:Type}{l:List α}{i j:Nat}(hi:i<l.length)(hj:j<=i):(mv l i j).length=l.length:=by simp[mv];omega
def Zj0{α:Type}{l:List α}{i j:Nat}(hi:i<l.length)(hj:j<=i)(t:Nat):(mv l i j)[t]? =if t<j then l[t]? else if t=j then l[i]? else if t<=i then l[t-1]? else l[t]?:=by unfold mv;rw[Ya5];(have e1:(l.take j).length=j:=by simp;omega);(have e2:((l.drop i).take 1).length=1:=by simp;omega);(have e3:((l.drop j).take (i-j)).length=i-j:=by simp;omega);rw[e1];split;{rename_i h;rw[Y6,Yt h]};{rename_i h;rw[Ya5,e2];split;{rename_i h2;(have:t=j:=by omega);subst this;rw[Yt rfl,Y6,Yt Kc,Yaf];congr 1;omega};{rename_i h2;rw[Yx Kc,Ya5,e3];split;{rename_i h3;rw[Yt Kc,Y6,Yt h3,Yaf];congr 1;omega};{rename_i h3;rw[Yx Kc,Yaf];congr 1;omega}}}
def ZyN{α:Type}{l:List α}{i:Nat}(hi:i<l.length):mv l i i=l:=by apply Yba;intro t;rw[Zj0 hi (Yi _)];split;{rfl};{split;{rename_i h;rw[h]};{rw[Yx Kc]}}
def ZyO{α:Type}{l:List α}{i j:Nat}(hi:i<l.length)(hj:j<i)(x y:α)(hx:l[i]? =some x)(hy:l[j]? =some y):((mv l i (j+1)).set (j+1) y).set j x=mv l i j:=by apply Yba;intro t;rw[Y5,Y5,Y7,Zmw hi hj,Zj0 hi hj,Zj0 hi Kc];by_cases h1:j=t;{subst h1;rw[Yt rfl,Yt Kc,Yx Kc,Yt rfl,hx]};{rw[Yx h1];by_cases h2:j+1=t;{subst h2;rw[Yt rfl,Yt Kc,Yx Kc,Yx Kc,Yt Kc,YcM,hy]};{rw[Yx h2];by_cases h3:t<j;{rw[Yt Kc,Yt h3]};{rw[Yx Kc,Yx Kc,Yx h3,Yx (show¬t=j from fun e=>h1 e.symm)]}}}
structure SortI(f:Nat->Int)(n i:Nat)(l:List Nat):Prop where
 len:l.length=n
 perm:(l.take i).Perm (List.range i)
 sorted:(l.take i).Pairwise fun a b=>before f a b=true
 rest:∀t,i<=t->t<n->l[t]? =some t
def SortI.first(f:Nat->Int){n:Nat}(hn:0<n):SortI f n 1 (List.range n):=by(have e:(List.range n).take 1=[0]:=by(cases n with|zero=>omega|succ n=>rw[List.range_succ_eq_map];rfl));refine⟨Kd,?_,?_,fun t _ h=>by simp[h]⟩;{rw[e];exact YcZ _};{rw[e];simp}
def SortI.lt{f:Nat->Int}{n i:Nat}{l:List Nat}(h:SortI f n i l){t:Nat}(ht:t<i)(hi:i<=n){x:Nat}(hx:l[t]? =some x):x<i:=by(have:x∈l.take i:=by rw[Ybv];obtain⟨h1,h2⟩:=Ym.1 hx;exact⟨t,Kc,h2⟩);exact Yaj.1 (h.perm.mem_iff.1 this)
def SortI.step{f:Nat->Int}{n i j:Nat}{l:List Nat}(h:SortI f n i l)(hi:i<n)(hj:j<=i)(h1:∀t x,j<=t->t<i->l[t]? =some x->f x<f i)(h2:∀x,0<j->l[j-1]? =some x->f i<=f x):SortI f n (i+1) (mv l i j):=by have hl:=h.len;(have hx:(l.drop i).take 1=[i]:=by rw[Yan Kc];have:=h.rest i (Yi _) hi;rw[Yd Kc]at this;simp only[Ya]at this;simp[this]);(have ht:(mv l i j).take (i+1)=l.take j++(i::(l.drop j).take (i-j)):=by unfold mv;rw[hx,<-YO [i],<-YO (l.take j),Ybg (by simp;omega)];rfl);(have hp:l.take i=l.take j++(l.drop j).take (i-j):=by have:=Yah j (l.take i);rw[List.take_take,Yc0,Ycg hj]at this;exact this.symm);have hs:=h.sorted;rw[hp,YcD]at hs;(have hA:∀x∈l.take j,before f x i=true:=by intro x hxm;obtain⟨t,htl,rfl⟩:=Ybv.1 hxm;have hti:l[t]<i:=h.lt (t:=t) Kc Kc (Yd Kc);(have hlast:before f (l[j-1]'Kc) i=true:=by have h3:=h2 _ Kc (Yd Kc);have h4:l[j-1]'Kc<i:=h.lt (t:=j-1) Kc Kc (Yd Kc);simp only[before,Yae,Yl,Yf,YaX];omega);by_cases htj:t=j-1;{subst htj;exact hlast};{refine ZgV f ?_ hlast;have:=YbW.1 h.sorted t (j-1) (by simp;omega) (by simp;omega) Kc;simpa using this});(have hB:∀x∈(l.drop j).take (i-j),before f i x=true:=by intro x hxm;obtain⟨t,htl,rfl⟩:=Ybv.1 hxm;simp only[List.getElem_drop];have h3:=h1 (j+t) _ Kc (by simp at htl;omega) (Yd (by simp at htl;omega));simp only[before,Yae,Yl];exact .inl h3);refine⟨by rw[Zmw Kc hj];exact hl,?_,?_,fun t h3 h4=>?_⟩;{rw[ht,Ycd];refine List.perm_middle.trans ?_;rw[<-hp];exact(List.Perm.cons i h.perm).trans (List.perm_append_comm (l₁:=[i]))};{rw[ht,YcD,Ycc];refine⟨hs.1,⟨hB,hs.2.1⟩,fun a ha b hb=>?_⟩;rcases YF.1 hb with rfl|hb;{exact hA a ha};{exact hs.2.2 a ha b hb}};{rw[Zj0 Kc hj,Yx Kc,Yx Kc,Yx Kc];exact h.rest t Kc h4}
def SortI.done{f:Nat->Int}{n i:Nat}{l:List Nat}(h:SortI f n i l)(hi:n<=i):Ordered f n l:=by have hl:=h.len;have h1:=h.perm;have h2:=h.sorted;rw[YG Kc]at h1 h2;(have:i=n:=by have:=h1.length_eq;simp at this;omega);subst this;exact⟨h1,h2⟩
structure Sp where
 at_:Int
 way:Int
 side:Int
 from_:Int
 deriving DecidableEq,Inhabited
def Sp.cds(s:Sp):List CD:=[.int .i64 s.at_,.int .i64 s.way,.int .i64 s.side,.int .i64 s.from_]
def wayI(up:Bool):Int:=if up then 1 else-1
structure Cs where
 q:List Pr
 pins:List Bool
 now:Int
 at_:Nat
 up:Bool
 side:Int
 spells:List Sp
 plays:List Pr
 steps:Int
 end_:Int
 deriving DecidableEq,Inhabited
def sideAt(k:Nat)(up:Bool):Nat:=if up then 2*k else 2*k+1
def Tray.rc(t:Tray)(k:Nat):Rec:=t.recs.getD k default
def Zi9(t:Tray)(s:Nat):Int:=if s % 2=0 then(t.rc (s/2)).front else(t.rc (s/2)).back
def Cs.mark(s:Cs)(side:Int):Cs:={s with side:=side,spells:=s.spells++[⟨s.at_,wayI s.up,side,s.now⟩]}
def ZaZ(now:Int):List Pr->List Bool->List Pr×List Bool
 |[],pins=>([],pins)
 |p::q,pins=>if p.time<=now then ZaZ now q (pins.set p.side.toNat true)else(p::q,pins)
def Cs.press(s:Cs):Cs:={s with q:=(ZaZ s.now s.q s.pins).1,pins:=(ZaZ s.now s.q s.pins).2}
def Cs.move(t:Tray)(s:Cs):Cs:=
 if s.up then(if s.at_+1<t.n then{s with at_:=s.at_+1,now:=s.now+t.step,steps:=s.steps+1}else{s with up:=false})
 else(if 0<s.at_ then{s with at_:=s.at_-1,now:=s.now+t.step,steps:=s.steps+1}else{s with up:=true})
def Cs.next(t:Tray)(s:Cs):Cs:=(s.move t).mark (-1)
def Cs.pos(s:Cs):Nat:=sideAt s.at_ s.up
def Cs.play1(s:Cs):Cs:=({s with pins:=s.pins.set s.pos false,plays:=s.plays++[⟨s.pos,s.now⟩]}:Cs).mark s.pos
def Cs.play2(t:Tray)(s:Cs):Cs:=({s with now:=s.now+Zi9 t s.pos,end_:=s.now+Zi9 t s.pos}:Cs).mark (-1)
def Cs.play(t:Tray)(s:Cs):Cs:=if s.pins.getD s.pos false=true then(s.play1).play2 t else s
def Cs.act1(t:Tray)(s:Cs):Option Cs:=
 if s.pins.all (!·)then(match s.q with|[]=>none|p::_=>some {s with now:=p.time})else some ((s.play t).next t)
def Cs.act(t:Tray)(s:Cs):Option Cs:=s.press.act1 t
def ZnI(t:Tray):Nat->Cs->Cs
 |0,s=>s
 |k+1,s=>match s.act t with|none=>s.press|some s'=>ZnI t k s'
def start(t:Tray)(q:List Pr):Cs:=⟨q,List.replicate (2*t.n) false,0,t.at_.toNat,t.way==1,-1,[],[],0,0⟩
def Za3(t:Tray)(q:List Pr):Cs:=ZnI t 250 ((start t q).mark (-1))
def cyc(n:Nat)(k:Nat)(up:Bool):Nat:=if up then k else 2*n-1-k
def cycOf(n:Nat)(s:Nat):Nat:=cyc n (s/2) (s % 2==0)
def Zqf(n k:Nat)(up:Bool):cycOf n (sideAt k up)=cyc n k up:=by unfold cycOf sideAt;cases up;{(have h1:(2*k+1)/2=k:=by omega);(have h2:((2*k+1) % 2==0)=false:=by simp);simp only[Yp,YA,h1,h2]};{(have h1:(2*k)/2=k:=by omega);(have h2:((2*k) % 2==0)=true:=by simp);simp only[YJ,h1,h2]}
def ZfR{n s:Nat}(h:s<2*n):cycOf n s<2*n:=by unfold cycOf cyc;split<;>omega
def ZfQ{n s s':Nat}(h:s<2*n)(h':s'<2*n)(e:cycOf n s=cycOf n s'):s=s':=by unfold cycOf cyc at e;by_cases h1:s % 2=0<;>by_cases h2:s' % 2=0<;>simp[h1,h2]at e<;>omega
def ZuT(n c d:Nat):Nat:=if c<=d then d-c else d+2*n-c
def Zya{n c d:Nat}(hc:c<2*n)(hd:d<2*n):ZuT n c d<2*n:=by unfold ZuT;split<;>omega
def ZcX(n c:Nat):Nat:=if c+1=2*n then 0 else c+1
def Zmf{n c d:Nat}(hc:c<2*n)(hd:d<2*n)(h:c≠d):ZuT n (ZcX n c) d+1=ZuT n c d:=by unfold ZuT ZcX;split<;>split<;>split<;>omega
structure CsOk(t:Tray)(s:Cs):Prop where
 at_:s.at_<t.n
 pins:s.pins.length=2*t.n
 q:∀p∈s.q,(0<=p.side/\p.side<2*(t.n:Int))/\(0<=p.time/\p.time<=9999)
 now:0<=s.now
 sorted:s.q.Pairwise fun a b=>a.time<=b.time
def Zew(n c:Nat)(pins:List Bool):Nat:=((List.range pins.length).map fun s=>if pins.getD s false then ZuT n c (cycOf n s)+1 else 0).sum
def jW(s:Cs):Nat:=match s.q with|[]=>0|p::_=>if s.now<p.time then 1 else 0
def Cs.c(t:Tray)(s:Cs):Nat:=cyc t.n s.at_ s.up
def mu(t:Tray)(s:Cs):Nat:=(2*t.n+2)*s.q.length+Zew t.n (s.c t) s.pins+jW s
def Zxt{l:List Nat}{f g:Nat->Nat}(h:∀i∈l,f i<=g i):(l.map f).sum<=(l.map g).sum:=by(induction l with|nil=>simp|cons a l ih=>simp only[Ye,YaF];have:=h a Kd;have:=ih fun i hi=>h i (by simp[hi]);omega)
def ZzK{l:List Nat}(hn:l.Nodup){f g:Nat->Nat}{k d:Nat}(h:∀i∈l,i≠k->f i<=g i)(hk:f k<=g k+d):(l.map f).sum<=(l.map g).sum+d:=by(induction l with|nil=>simp|cons a l ih=>have hn':=YbN.1 hn;simp only[Ye,YaF];by_cases e:a=k;{subst e;have:(l.map f).sum<=(l.map g).sum:=Zxt fun i hi=>h i (by simp[hi]) (fun e=>hn'.1 (e▸hi));omega};{have h1:=h a Kd e;have:=ih hn'.2 fun i hi hne=>h i (by simp[hi]) hne;omega})
def ZCS{l:List Nat}{f g:Nat->Nat}(h:∀i∈l,f i<=g i){k:Nat}(hm:k∈l)(hk:f k<g k):(l.map f).sum<(l.map g).sum:=by
 induction l with
 |nil=>cases hm
 |cons a l ih=>simp only[Ye,YaF];rcases YF.1 hm with rfl|hm;{have:=Zxt (l:=l) (f:=f) (g:=g) fun i hi=>h i (by simp[hi]);omega};{have h1:=h a Kd;have:=ih (fun i hi=>h i (by simp[hi])) hm;omega}
def Zka(now:Int):∀(q:List Pr)(pins:List Bool),(ZaZ now q pins).2.length=pins.length
 |[],pins=>rfl
 |p::q,pins=>by simp only[ZaZ];split;{rw[Zka now q];simp};{rfl}
def Zb7(now:Int):∀(q:List Pr)(pins:List Bool),∃k,(ZaZ now q pins).1=q.drop k
 |[],pins=>⟨0,rfl⟩
 |p::q,pins=>by simp only[ZaZ];split;{obtain⟨k,h⟩:=Zb7 now q (pins.set p.side.toNat true);exact⟨k+1,by rw[h];rfl⟩};{exact⟨0,rfl⟩}
def Zfr(now:Int):∀(q:List Pr)(pins:List Bool),∀p q',(ZaZ now q pins).1=p::q'->now<p.time
 |[],pins,p,q',h=>by cases h
 |a::q,pins,p,q',h=>by simp only[ZaZ]at h;split at h;{exact Zfr now q _ p q' h};{rename_i hn;simp only[Ya3]at h;obtain⟨rfl,_⟩:=h;omega}
def CsOk.press{t:Tray}{s:Cs}(h:CsOk t s):CsOk t s.press:=by obtain⟨k,hk⟩:=Zb7 s.now s.q s.pins;refine⟨h.at_,by simp only[Cs.press];rw[Zka];exact h.pins,fun p hp=>?_,h.now,?_⟩;{simp only[Cs.press,hk]at hp;exact h.q p (YbT hp)};{simp only[Cs.press,hk];exact h.sorted.sublist (List.drop_sublist _ _)}
def Zs5{n c:Nat}{pins:List Bool}{k:Nat}(hc:c<2*n)(hl:pins.length=2*n)(hk:k<2*n):Zew n c (pins.set k true)<=Zew n c pins+2*n:=by unfold Zew;rw[Y7];refine ZzK (k:=k) List.nodup_range (fun i _ hne=>?_) ?_;{(have e2:(pins.set k true).getD i false=pins.getD i false:=by rw[Yb,Y5,Yx (fun e=>hne e.symm),<-Yb]);rw[e2];exact Yi _};{have:=Zya hc (ZfR (n:=n) (s:=k) Kc);split<;>omega}
def ZmG{n c:Nat}(hc:c<2*n)(now:Int):∀(q:List Pr)(pins:List Bool),pins.length=2*n->(∀p∈q,0<=p.side/\p.side<2*(n:Int))->
  (2*n+2)*(ZaZ now q pins).1.length+Zew n c (ZaZ now q pins).2+2*(q.length-(ZaZ now q pins).1.length)<=(2*n+2)*q.length+Zew n c pins/\(ZaZ now q pins).1.length<=q.length
 |[],pins,_,_=>by simp[ZaZ]
 |p::q,pins,hl,h=>by simp only[ZaZ];split;{have hp:=h p Kd;have ih:=ZmG hc now q (pins.set p.side.toNat true) (by simpa using hl) fun x hx=>h x (by simp[hx]);have hs:=Zs5 hc hl (k:=p.side.toNat) Kc;obtain⟨i1,i2⟩:=ih;simp only[Yo];have e:(2*n+2)*(q.length+1)=(2*n+2)*q.length+(2*n+2):=Nat.mul_succ _ _;rw[e];generalize(2*n+2)*q.length=A at*;generalize(2*n+2)*(ZaZ now q (pins.set p.side.toNat true)).1.length=B at*;constructor<;>omega};{simp}
def ZA6{n k:Nat}{up:Bool}(h:k<n):cyc n k up<2*n:=by unfold cyc;split<;>omega
def Cs.c_lt{t:Tray}{s:Cs}(h:CsOk t s):s.c t<2*t.n:=ZA6 h.at_
def Zpj{t:Tray}{s:Cs}(h:CsOk t s):(2*t.n+2)*s.press.q.length+Zew t.n (s.press.c t) s.press.pins+2*(s.q.length-s.press.q.length)<=(2*t.n+2)*s.q.length+Zew t.n (s.c t) s.pins/\s.press.q.length<=s.q.length:=
 ZmG (Cs.c_lt h) s.now s.q s.pins h.pins fun p hp=>(h.q p hp).1
def Zj9{t:Tray}{s:Cs}(h:CsOk t s):s.pos<2*t.n:=by have:=h.at_;unfold Cs.pos sideAt;split<;>omega
def ZrZ(t:Tray)(s:Cs):cycOf t.n s.pos=s.c t:=Zqf _ _ _
def Zpi{t:Tray}{s:Cs}(h:s.at_<t.n):(s.move t).c t=ZcX t.n (s.c t)/\(s.move t).at_<t.n:=by unfold Cs.move Cs.c ZcX cyc;cases hu:s.up;{by_cases h0:0<s.at_;{simp[hu,h0];repeat'(first|omega|split|apply And.intro)};{simp[hu,h0];repeat'(first|omega|split|apply And.intro)}};{by_cases h1:s.at_+1<t.n;{simp[hu,h1];repeat'(first|omega|split|apply And.intro)};{simp[hu,h1];repeat'(first|omega|split|apply And.intro)}}
def ZjZ(t:Tray)(s:Cs):(s.move t).q=s.q/\(s.move t).pins=s.pins/\(s.move t).plays=s.plays/\(s.move t).spells=s.spells/\(s.move t).end_=s.end_:=by unfold Cs.move;split<;>split<;>exact⟨rfl,rfl,rfl,rfl,rfl⟩
def Zhw{t:Tray}(ht:0<=t.step)(s:Cs):s.now<=(s.move t).now/\(s.move t).now<=s.now+t.step/\s.steps<=(s.move t).steps/\(s.move t).steps<=s.steps+1:=by unfold Cs.move;split<;>split<;>simp only<;>omega
def ZqD{n c:Nat}{pins:List Bool}(hc:c<2*n)(hl:pins.length=2*n){k:Nat}(hk:k<2*n)(hck:cycOf n k=c)(h:pins.all (!·)=false):
  Zew n (ZcX n c) (pins.set k false)<Zew n c pins:=by unfold Zew;rw[Y7,hl];obtain⟨b,hb,hbt⟩:=Yco.1 h;obtain⟨i,hi,rfl⟩:=YbS.1 hb;(have hbi:pins[i]=true:=by simpa using hbt);(have hle:∀j∈List.range (2*n),(if(pins.set k false).getD j false then ZuT n (ZcX n c) (cycOf n j)+1 else 0)<=(if pins.getD j false then ZuT n c (cycOf n j)+1 else 0):=by intro j hj;have hj:=Yaj.1 hj;by_cases e:k=j;{subst e;(have:(pins.set k false).getD k false=false:=by rw[Yb,Y5,Yt rfl];split<;>rfl);rw[this];simp};{(have e2:(pins.set k false).getD j false=pins.getD j false:=by rw[Yb,Y5,Yx e,<-Yb]);rw[e2];have hne:c≠cycOf n j:=fun h=>e (ZfQ hk hj (by rw[hck,h]));have:=Zmf hc (ZfR hj) hne;split<;>omega});refine ZCS hle (k:=i) (Yaj.2 Kc) ?_;(have hgi:pins.getD i false=true:=by rw[Yb,Yd hi];exact hbi);rw[hgi];by_cases e:k=i;{subst e;(have:(pins.set k false).getD k false=false:=by rw[Yb,Y5,Yt rfl];split<;>rfl);rw[this];simp};{(have e2:(pins.set k false).getD i false=true:=by rw[Yb,Y5,Yx e,<-Yb];exact hgi);rw[e2];have hne:c≠cycOf n i:=fun h=>e (ZfQ hk Kc (by rw[hck,h]));have:=Zmf hc (ZfR (s:=i) (n:=n) Kc) hne;simp;omega}
def ZtU{pins:List Bool}{k:Nat}(h:pins.getD k false≠true):pins.set k false=pins:=by apply Yba;intro i;rw[Y5];split;{rename_i e;subst e;split;{rename_i hk;rw[Yb,Yd hk]at h;rw[Yd hk];simp only[YaT]at h;simp at h;rw[h]};{rename_i hk;rw[YW Kc]}};{rfl}
def Zcv(t:Tray)(s:Cs):(s.play t).pins=s.pins.set s.pos false/\(s.play t).q=s.q/\(s.play t).at_=s.at_/\(s.play t).up=s.up:=by unfold Cs.play;split;{exact⟨rfl,rfl,rfl,rfl⟩};{rename_i h;exact⟨(ZtU h).symm,rfl,rfl,rfl⟩}
def ZtB{t:Tray}(h:TrayOk t){k:Nat}(hk:k<t.n):(1<=(t.rc k).front/\(t.rc k).front<=999)/\(1<=(t.rc k).back/\(t.rc k).back<=999):=by have hk':k<t.recs.length:=hk;have:=h.recs _ (Yv hk');unfold Tray.rc;rwa [Yb,Yd hk']
def Zd0{t:Tray}(h:TrayOk t){s:Nat}(hs:s<2*t.n):1<=Zi9 t s/\Zi9 t s<=999:=by have:=ZtB h (k:=s/2) Kc;unfold Zi9;split;{exact this.1};{exact this.2}
def Zlg{t:Tray}(h:TrayOk t){s:Cs}(hs:CsOk t s):s.now<=(s.play t).now/\(s.play t).now<=s.now+999/\(s.play t).steps=s.steps:=by have:=Zd0 h (Zj9 hs);unfold Cs.play;split;{refine⟨?_,?_,rfl⟩<;>show _<=_<;>simp only[Cs.play2,Cs.play1,Cs.mark,Cs.pos]at* <;>omega};{exact⟨Yar _,Kc,rfl⟩}
def ZxO{t:Tray}(h:TrayOk t){s s':Cs}(hs:CsOk t s)(e:s.act1 t=some s'):CsOk t s':=by unfold Cs.act1 at e;split at e;{split at e;{cases e};{rename_i p q hq;simp only[Ya]at e;subst e;exact⟨hs.at_,hs.pins,hs.q,(hs.q p (by rw[hq];simp)).2.1,hs.sorted⟩}};{simp only[Ya]at e;subst e;obtain⟨p1,p2,p3,p4⟩:=Zcv t s;obtain⟨m1,m2,m3,m4,m5⟩:=ZjZ t (s.play t);have hn:=Zlg h hs;have hm:=Zhw h.step.1 (s.play t);refine⟨(Zpi (by rw[p3];exact hs.at_)).2,?_,fun p hp=>?_,?_,?_⟩;{show((s.play t).move t).pins.length=_;rw[m2,p1,Y7];exact hs.pins};{have hp':p∈((s.play t).move t).q:=hp;rw[m1,p2]at hp';exact hs.q p hp'};{show 0<=((s.play t).move t).now;have:=hs.now;omega};{show((s.play t).move t).q.Pairwise _;rw[m1,p2];exact hs.sorted}}
def ZwW{t:Tray}(h:TrayOk t){s s':Cs}(hs:CsOk t s)(e:s.act t=some s'):CsOk t s':=ZxO h hs.press e
def ZwV{t:Tray}{s s':Cs}(hs:CsOk t s)(e:s.act t=some s'):mu t s'<mu t s:=by
 have hpr:=Zpj hs;have hp:=hs.press;have hhead:=Zfr s.now s.q s.pins;have hnow:s.press.now=s.now:=rfl;unfold Cs.act at e;have hj1:s.press.q.length=s.q.length->s.press.q=s.q:=by
  intro hl;obtain⟨k,hk⟩:=Zb7 s.now s.q s.pins;have e1:s.press.q=s.q.drop k:=hk;rw[e1]at hl|-;rw[Yac]at hl;by_cases hk0:k=0;{rw[hk0];rfl}
  ·have:s.q=[]:=by cases hq:s.q with
    |nil=>rfl
    |cons a l=>rw[hq]at hl;simp at hl;omega
   rw[this];simp
 (have hjle:∀x:Cs,jW x<=1:=fun x=>by unfold jW;split<;>(try split)<;>omega);(have hjp:s.press.q=s.q->s.q≠[]->jW s=1:=by(intro he hne;unfold jW;cases hq:s.q with|nil=>exact absurd hq hne|cons p q=>(have:s.press.q=p::q:=by rw[he,hq]);have:=hhead p q this;simp[this]));unfold Cs.act1 at e;split at e;{split at e;{cases e};{rename_i p q hq;simp only[Ya]at e;subst e;unfold mu;(have hj0:jW ({s.press with now:=p.time}:Cs)=0:=by unfold jW;simp only[hq];simp);rw[hj0];(show(2*t.n+2)*s.press.q.length+Zew t.n (s.press.c t) s.press.pins+0<_;by_cases hl:s.press.q.length=s.q.length);{have he:=hj1 hl;(have hne:s.q≠[]:=by rw[<-he,hq];simp);have:=hjp he hne;omega};{omega}}};{rename_i hall;(have hall:s.press.pins.all (!·)=false:=by simpa using hall);simp only[Ya]at e;subst e;obtain⟨p1,p2,p3,p4⟩:=Zcv t s.press;obtain⟨m1,m2,m3,m4,m5⟩:=ZjZ t (s.press.play t);(have hc1:(s.press.play t).c t=s.press.c t:=by unfold Cs.c;rw[p3,p4]);have hmv:=(Zpi (t:=t) (s:=s.press.play t) (by rw[p3];exact hp.at_)).1;rw[hc1]at hmv;have hw:=ZqD (Cs.c_lt hp) hp.pins (Zj9 hp) (ZrZ t s.press) hall;(have e1:mu t ((s.press.play t).next t)=(2*t.n+2)*s.press.q.length+Zew t.n (ZcX t.n (s.press.c t)) (s.press.pins.set s.press.pos false)+jW ((s.press.play t).next t):=by unfold mu;show(2*t.n+2)*((s.press.play t).move t).q.length+Zew t.n (((s.press.play t).move t).c t) ((s.press.play t).move t).pins+_=_;rw[m1,m2,hmv,p1,p2]);rw[e1];unfold mu;have hj2:=hjle ((s.press.play t).next t);by_cases hl:s.press.q.length=s.q.length;{have he:=hj1 hl;by_cases hne:s.q=[];{(have:jW ((s.press.play t).next t)=0:=by unfold jW;(have:((s.press.play t).next t).q=[]:=by show((s.press.play t).move t).q=[];rw[m1,p2,he,hne]);rw[this]);omega};{have:=hjp he hne;omega}};{omega}}
def Zn8(f:Nat->Int){n:Nat}:∃l,Ordered f n l:=by
 cases n with
 |zero=>exact⟨[],Kd,List.Pairwise.nil⟩
 |succ n=>
  have h:∀i,1<=i->i<=n+1->∃l,SortI f (n+1) i l:=by
   intro i;induction i with
   |zero=>intro h;omega
   |succ i ih=>
    intro _ hi;cases i with
    |zero=>exact⟨_,SortI.first f Kc⟩
    |succ i=>
     obtain⟨l,hl⟩:=ih Kc Kc;have hj:∀m,m<=i+1->∃j,j<=i+1/\(∀t x,j<=t->t<i+1->l[t]? =some x->f x<f (i+1))/\(j<=i+1-m\/∃x,0<j/\l[j-1]? =some x/\f (i+1)<=f x):=by
      intro m;induction m with
      |zero=>intro _;exact⟨i+1,Yi _,fun t x h1 h2=>Kc,.inl Kc⟩
      |succ m ihm=>intro hm;obtain⟨j,h1,h2,h3⟩:=ihm Kc;rcases h3 with h3|h3;{by_cases hj0:j<=i+1-(m+1);{exact⟨j,h1,h2,.inl hj0⟩};{have hlen:=hl.len;(have hjl:j-1<l.length:=by omega);have hg:l[j-1]? =some l[j-1]:=Yd hjl;by_cases hf:f l[j-1]<f (i+1);{refine⟨j-1,Kc,fun t x h4 h5 h6=>?_,.inl Kc⟩;by_cases ht:t=j-1;{subst ht;rw[hg]at h6;cases h6;exact hf};{exact h2 t x Kc h5 h6}};{exact⟨j,h1,h2,.inr ⟨_,Kc,hg,Kc⟩⟩}}};{exact⟨j,h1,h2,.inr h3⟩}
     obtain⟨j,h1,h2,h3⟩:=hj (i+1) (Yi _);refine⟨_,hl.step Kc h1 h2 fun x h4 h5=>?_⟩;rcases h3 with h3|⟨y,_,h6,h7⟩;{omega};{rw[h5]at h6;cases h6;exact h7}
  obtain⟨l,hl⟩:=h (n+1) Kc (Yi _);exact⟨l,hl.done (Yi _)⟩
def Zz8(f:Nat->Int)(n:Nat):List Nat:=(List.range n).map fun j=>((List.range n).find? fun i=>rank f n i==j).getD 0
def Zj4{f:Nat->Int}{n:Nat}{l:List Nat}(h:Ordered f n l):l=Zz8 f n:=by have hl:=h.len;apply Ybo;{simp[Zz8,hl]};{intro j h1 h2;have hr:=h.rank h1;have hm:l[j]<n:=h.lt h1;(have e:(Zz8 f n)[j]=((List.range n).find? fun i=>rank f n i==j).getD 0:=by simp[Zz8]);(rw[e];cases hf:(List.range n).find? (fun i=>rank f n i==j)with|none=>have:=YaQ.1 hf l[j] (Yaj.2 hm);simp[hr]at this|some i=>have h3:=Ybd hf;have h4:=Yaj.1 (Yap hf);obtain⟨j',hj',rfl⟩:=h.mem h4;have h5:=h.rank hj';simp only[YaX]at h3;(have:j'=j:=by omega);subst this;rfl)}
def ZsZ(f:Nat->Int)(n:Nat):Ordered f n (Zz8 f n):=by obtain⟨l,hl⟩:=Zn8 f (n:=n);rw[<-Zj4 hl];exact hl
def Zhs(L:List Pr)(k:Nat):Int:=-(L.getD k default).time
def arr(L:List Pr)(π:List Nat):List Pr:=π.map fun k=>L.getD k default
def Ze2(L:List Pr):List Pr:=arr L (Zz8 (Zhs L) L.length)
def ZcP(L:List Pr):(Ze2 L).Perm L:=by have h:=(ZsZ (Zhs L) L.length).perm.map fun k=>L.getD k default;(have e:(List.range L.length).map (fun k=>L.getD k default)=L:=by apply Ybo Kd;intro i h1 h2;simp[h2]);rw[e]at h;exact h
def Zt0(L:List Pr):(Ze2 L).length=L.length:=(ZcP L).length_eq
def Zcx(L:List Pr):(Ze2 L).Pairwise fun a b=>a.time<=b.time:=by unfold Ze2 arr;rw[Ycq];refine(ZsZ (Zhs L) L.length).sorted.imp fun{a b} h=>?_;(have h':Zhs L b<Zhs L a\/(Zhs L a=Zhs L b/\a<b):=by simpa [before]using h);have ea:Zhs L a= -(L.getD a default).time:=rfl;have eb:Zhs L b= -(L.getD b default).time:=rfl;show(L.getD a default).time<=(L.getD b default).time;omega
def Zbl(t:Tray):Cs:=Za3 t (Ze2 t.pres)
def ZqE(n c m:Nat):Zew n c (List.replicate m false)=0:=by unfold Zew;(have:((List.range (List.replicate m false).length).map fun s=>if(List.replicate m false).getD s false then ZuT n c (cycOf n s)+1 else 0)=(List.range (List.replicate m false).length).map fun _=>0:=by refine Yal fun s _=>?_;rw[Yb,List.getElem?_replicate];split<;>simp at*);(rw[this];induction (List.range (List.replicate m false).length)with|nil=>rfl|cons a l ih=>simpa using ih)
def Zjc{t:Tray}(ht:TrayOk t){q:List Pr}(hq:q.Perm t.pres)(hs:q.Pairwise fun a b=>a.time<=b.time):CsOk t ((start t q).mark (-1)):=by refine⟨?_,by simp[start,Cs.mark],fun p hp=>?_,Yar _,hs⟩;{have:=ht.at_;show t.at_.toNat<t.n;omega};{exact ht.pres p (hq.mem_iff.1 hp)}
def Zpz{t:Tray}(ht:TrayOk t){q:List Pr}(hq:q.length<=13):mu t ((start t q).mark (-1))<=200:=by have h6:=ht.n6;have e:mu t ((start t q).mark (-1))=(2*t.n+2)*q.length+Zew t.n (((start t q).mark (-1)).c t) (List.replicate (2*t.n) false)+jW ((start t q).mark (-1)):=rfl;rw[e,ZqE];have h1:(2*t.n+2)*q.length<=14*13:=Yc1 Kc hq;(have h2:jW ((start t q).mark (-1))<=1:=by unfold jW;split<;>(try split)<;>omega);omega
structure Grown(s s':Cs):Prop where
 now:s'.now<=s.now+1059\/s'.now<=9999
 spells:s'.spells.length<=s.spells.length+3
 plays:s'.plays.length<=s.plays.length+1
 steps:s.steps<=s'.steps/\s'.steps<=s.steps+1
 q:s'.q.length<=s.q.length
def ZjJ{t:Tray}(ht:TrayOk t){s1 s':Cs}(hs1:CsOk t s1)(e:s1.act1 t=some s'):Grown s1 s':=by have hstep:=ht.step;unfold Cs.act1 at e;split at e;{split at e;{cases e};{rename_i p q hqq;simp only[Ya]at e;subst e;exact⟨.inr (hs1.q p (by rw[hqq];simp)).2.2,by simp only;omega,by simp only;omega,by simp only;omega,Yi _⟩}};{simp only[Ya]at e;subst e;have hn:=Zlg ht hs1;have hm:=Zhw hstep.1 (s1.play t);obtain⟨m1,m2,m3,m4,m5⟩:=ZjZ t (s1.play t);obtain⟨p1,p2,p3,p4⟩:=Zcv t s1;(have hsp:(s1.play t).spells.length<=s1.spells.length+2/\(s1.play t).plays.length<=s1.plays.length+1:=by unfold Cs.play;split;{simp[Cs.play2,Cs.play1,Cs.mark]};{omega});refine⟨.inl ?_,?_,?_,?_,?_⟩;{show((s1.play t).move t).now<=_;omega};{show(((s1.play t).move t).spells++[_]).length<=_;rw[m4,Yw];simp only[Yo,YI];omega};{show((s1.play t).move t).plays.length<=_;rw[m3];omega};{show s1.steps<=((s1.play t).move t).steps/\((s1.play t).move t).steps<=_;omega};{show((s1.play t).move t).q.length<=_;rw[m1,p2];exact Yi _}}
def Zro{t:Tray}(ht:TrayOk t){s s':Cs}(hs:CsOk t s)(e:s.act t=some s'):Grown s s':=by have hq:s.press.q.length<=s.q.length:=(Zpj hs).2;have h:=ZjJ ht hs.press e;exact⟨h.now,h.spells,h.plays,h.steps,YaP h.q hq⟩
def ZBt:Cz [] 110:=ec
def Zvn:Cz [] 168:=ec [(4,114700,[]),(6,196608,[])]
abbrev ZAu:List Nat:=[0,1,2,3,8]
abbrev ZwU:List Nat:=[0,1,2,3]
def Zvl:Cz [] 141:=ec
abbrev ZwS:List Nat:=[0,1,2,6]
abbrev ZwT:List Nat:=[0,1,2]
def Zvi:Cz [] 109:=ec
def ir76:Cz [] 76:=ec
def ZDF(a b:Pr)(ha:0<=a.time/\a.time<=9999)(hb:0<=b.time/\b.time<=9999):Fq 110 [.agg [iv a.side,iv a.time],.agg [iv b.side,iv b.time]] (iv (a.time-b.time)):=by have w1:=vw (n:=a.time-b.time);refine vE ZBt.h fun C hP hN hC hL=>?_;simp only[ZBt];refine vW w1 ?_;(refine vT ?_;try exact trivial)
def Zni(L:List Pr)(π:List Nat):(arr L π).length=π.length:=by simp[arr]
def Zrv{L:List Pr}{π:List Nat}{i k:Nat}(h:π[i]? =some k)(hi:i<(arr L π).length):(arr L π)[i]=L.getD k default:=by(have h2:(arr L π)[i]? =some (L.getD k default):=by simp[arr,h]);exact(Ym.1 h2).2
def Zrx(L:List Pr)(π:List Nat)(i k:Nat):(arr L π).set i (L.getD k default)=arr L (π.set i k):=by simp[arr,Yc7]
def Zrw(L:List Pr):arr L (List.range L.length)=L:=by apply Ybo (by simp[arr]);intro i h1 h2;simp[arr,h2]
def ZF5{α:Type}{cds:α->List CD}(hm:∀a,(cds a).length=2){l:List α}{k:Nat}(h:k<l.length)(j:Nat)(a:α){x y:CD}(ha:cds a=[x,y]):
  (Zac cds l j).take (k*2)++AV.c x::AV.c y::(Zac cds l j).drop (k*2+2)=Zac cds (l.set k a) j:=Zp8 hm h j a ha
def ins87{L:List Pr}{n cap jk:Nat}(hn:0<n)(hn20:n<=20)(hl0:L.length=n)(ht:∀p∈L,0<=p.time/\p.time<=9999):
  Fl 168 [.vw 2 1000 0 n cap,iv 0,iv n,.fn 110 []] [.box (Zac Pr.cds L jk)] [] (fun res l'=>res= .tup []/\∃l,Ordered (Zhs L) n l/\l'=[.box (Zac Pr.cds (arr L l) jk)]):=by(have w0:IntKind.i64.wrap (0+1)=1:=by decide);(have hti:∀i,i<n->0<=(L.getD i default).time/\(L.getD i default).time<=9999:=fun i hi=>by(have hiL:i<L.length:=by omega);have:=ht _ (Yv hiL);(have e:L.getD i default=L[i]:=by simp[*]);rw[e];exact this);(have hL0:Zac Pr.cds L jk=Zac Pr.cds (arr L (List.range n)) jk:=by rw[<-hl0,Zrw]);rw[hL0];refine vF Zvn.h fun C hP hN hC hL=>?_;simp only[Zvn,Zbj,ZaB,Yg,Ye,Nat.reduceAdd,];refine vW w0 ?_;refine Zam ZwU [1000] (fun p:Nat×List Nat=>1<=p.1/\p.1<=n/\SortI (Zhs L) n p.1 p.2) (fun p=>n-p.1) (fun p=>[(8,iv p.1)]) (fun p=>[(1000,.box (Zac Pr.cds (arr L p.2) jk))]) (1,List.range n) ⟨Yi _,hn,SortI.first (Zhs L) hn⟩ ?_ ?_;{exact Zak};{rintro⟨i,l⟩ ⟨h1,h2,hs⟩;simp only at h1 h2 hs;have hl:=hs.len;simp only[go_sem];refine vR ?_;refine vC ?_ ?_<;>intro h;{(have hi:i<n:=by simpa using h);refine vR ?_;refine Zam ZAu [1000] (fun j:Nat=>j<=i/\∀t x,j<=t->t<i->l[t]? =some x->Zhs L x<Zhs L i) (fun j=>j) (fun j=>[(9,iv j)]) (fun j=>[(1000,.box (Zac Pr.cds (arr L (mv l i j)) jk))]) i ⟨Yi _,fun t x h3 h4=>Kc⟩ ?_ ?_;{rw[ZyN Kc];exact Zak};{rintro j ⟨hj,hd⟩;have hgi:l[i]? =some i:=hs.rest i (Yi _) hi;(have hmi:(mv l i j)[j]? =some i:=by rw[Zj0 Kc hj,Yx Kc,Yt rfl,hgi]);(have hlm:(arr L (mv l i j)).length=n:=by rw[Zni,Zmw Kc hj,hl]);(simp only[go_sem];cases j with|zero=>(have hd0:decide ((0:Int)<((0:Nat):Int))=false:=by simp);refine vW hd0 ?_;refine Or.inr (Or.inr ?_);refine vC ?_ ?_<;>intro h;{simp at h};{have hs':=hs.step hi (YC _) (fun t x _ h4 h5=>hd t x (YC _) h4 h5) (fun x h6=>Kc);have w1:=vw (n:=(i:Int)+1);refine vW w1 ?_;refine⟨(i+1,mv l i 0),⟨by simp only;omega,by simp only;omega,hs'⟩,by simp only;omega,?_⟩;exact Zak}|succ j=>(have hjl:j<l.length:=by omega);have hgj:l[j]? =some l[j]:=Yd hjl;have hjn:=hs.lt (t:=j) Kc h2 hgj;(have hmj:(mv l i (j+1))[j]? =some l[j]:=by rw[Zj0 Kc hj,Yt Kc,hgj]);(have hlen0:j+1<(arr L (mv l i (j+1))).length:=by omega);(have hlen1:j<(arr L (mv l i (j+1))).length:=by omega);have g1:=Zfd Zd6 hlen0 jk;rw[Zrv hmi hlen0]at g1;have g2:=Zfd Zd6 hlen1 jk;rw[Zrv hmj hlen1]at g2;have w1:=vw (n:=(j:Int));(have e1:(((j+1:Nat):Int)-1)=(j:Int):=by omega);(have hjlt:j<n:=by omega);(have hj1:j+1<n:=by omega);have hcl:=ZaF Zd6 (arr L (mv l i (j+1))) jk;(have hq1:(j+1)*2+2<=(Zac Pr.cds (arr L (mv l i (j+1))) jk).length:=by rw[hcl,hlm];omega);(have hq2:j*2+2<=(Zac Pr.cds (arr L (mv l i (j+1))) jk).length:=by rw[hcl,hlm];omega);have p1:=ZF5 Zd6 hlen0 jk (L.getD l[j] default) rfl;rw[Zrx]at p1;(have hlen2:j<(arr L ((mv l i (j+1)).set (j+1) l[j])).length:=by rw[Zni,Y7,Zmw Kc hj];omega);have p2:=ZF5 Zd6 hlen2 jk (L.getD i default) rfl;rw[Zrx,ZyO Kc Kc i l[j] hgi hgj]at p2;(have hq3:j*2+2<=(Zac Pr.cds (arr L ((mv l i (j+1)).set (j+1) l[j])) jk).length:=by rw[ZaF Zd6,Zni,Y7,Zmw Kc hj];omega);(have hdj:decide (0<((j+1:Nat):Int))=true:=by simp);(have ht0:(((j+1:Nat):Int)).toNat=j+1:=by omega);(have hlt1:((j+1:Nat):Int)<(n:Int):=by omega);(have hlt2:(j:Int)<(n:Int):=by omega);have hc:=ZDF (L.getD i default) (L.getD l[j] default) (hti i hi) (hti l[j] Kc);(have hcc:decide ((L.getD i default).time-(L.getD l[j] default).time<0)=decide (Zhs L l[j]<Zhs L i):=by unfold Zhs;rw[Yaq];simp;omega);have hk1:Zhs L i= -(L.getD i default).time:=rfl;generalize L.getD i default=A at*;generalize L.getD l[j] default=B at*;(repeat(refine vV ?_;(try simp only[go_sem,hP,w1,e1,hdj,ht0,g1,g2,hq1,hq2,hlt1,hlt2,Pr.cds]);refine vQ ?_));refine Znc (fun _=>hc) rfl (fun _=>rfl) rfl rfl rfl ?_;simp only[go_sem,hP];refine vR ?_;rw[hcc];refine vC ?_ ?_<;>intro h;{(have h:Zhs L l[j]<Zhs L i:=by simpa using h);(repeat(refine vV ?_;(try simp only[go_sem,hP,w1,e1,ht0,g1,g2,hq1,hq2,hq3,hlt1,hlt2,p1,p2,Pr.cds]);refine vQ ?_));refine⟨j,⟨Kc,fun t x h3 h4 h5=>?_⟩,Kc,?_⟩;{by_cases htj:t=j;{subst htj;rw[hgj]at h5;cases h5;exact h};{exact hd t x Kc h4 h5}};{exact Zak}};{(have h:¬Zhs L l[j]<Zhs L i:=by simpa using h);have hs':=hs.step (j:=j+1) hi hj hd (fun x _ hx=>by rw[YcM,hgj]at hx;cases hx;omega);have w2:=vw (n:=(i:Int)+1);refine vW w2 ?_;refine⟨(i+1,mv l i (j+1)),⟨by simp only;omega,by simp only;omega,hs'⟩,by simp only;omega,?_⟩;exact Zak})}};{(have h:i=n:=by simp at h;omega);subst h;(refine ZaO ?_;simp only[go_sem]);(refine vM1 ?_;refine⟨_,[.box (Zac Pr.cds (arr L l) jk)],rfl,Zab rfl rfl ?_ ?_ rfl,?_⟩);{simp only[go_sem,Zag,Ob.keepP]};{simp only[go_sem,ZbL]};{exact⟨rfl,_,hs.done (Yi _),rfl⟩}}}
def Zwu{L:List Pr}{n cap jk:Nat}(hn:0<n)(hn20:n<20)(hl0:L.length=n)(ht:∀p∈L,0<=p.time/\p.time<=9999):
  Fl 141 [.vw 2 1000 0 n cap,iv n,.fn 110 []] [.box (Zac Pr.cds L jk)] [] (fun res l'=>res= .tup []/\∃l,Ordered (Zhs L) n l/\l'=[.box (Zac Pr.cds (arr L l) jk)]):=by refine vF Zvl.h fun C hP hN hC hL=>?_;simp only[Zvl,Zbj,ZaB,Yg,Ye,Nat.reduceAdd,];refine vR ?_;refine Zam ZwS [1000] (fun _:Unit=>True) (fun _=>0) (fun _=>[(7,iv 0),(8,iv 20)]) (fun _=>[(1000,.box (Zac Pr.cds L jk))]) () trivial ?_ ?_;{exact Zak};{rintro - -;simp only[go_sem];refine vR ?_;refine vC ?_ ?_<;>intro h;{(have h:(20:Int)<=n:=by simpa using h);omega};{(refine ZaO ?_;simp only[go_sem]);refine vR ?_;refine Zah [1000] (ins87 (jk:=jk) hn Kc hl0 ht) rfl rfl rfl Kb rfl ?_ ?_;{simp only[go_sem,Zar,Ob.lend]};{rintro r l' ⟨rfl,l,hl,rfl⟩;refine⟨_,_,rfl,by simp only[Zap,Ob.back,back_cellsG];rfl,?_⟩;simp only[go_sem,hP,Zae];refine vR ?_;refine Zam ZwT [1000] (fun _:Unit=>True) (fun _=>0) (fun _=>[(6,iv 20)]) (fun _=>[(1000,.box (Zac Pr.cds (arr L l) jk))]) () trivial ?_ ?_;{exact Zak};{rintro - -;simp only[go_sem];refine vR ?_;refine vC ?_ ?_<;>intro h;{(have h:(20:Int)<n:=by simpa using h);omega};{(refine ZaO ?_;simp only[go_sem]);(refine vM1 ?_;refine⟨_,[.box (Zac Pr.cds (arr L l) jk)],rfl,Zab rfl rfl ?_ ?_ rfl,?_⟩);{simp only[go_sem,Zag,Ob.keepP]};{simp only[go_sem,ZbL]};{exact⟨rfl,_,hl,rfl⟩}}}}}}
def ZCP{L:List Pr}{n cap jk:Nat}(hn:0<n)(hn20:n<20)(hl0:L.length=n)(ht:∀p∈L,0<=p.time/\p.time<=9999):
  Fl 109 [.vw 2 1000 0 n cap,.fn 110 []] [.box (Zac Pr.cds L jk)] [] (fun res l'=>res= .tup []/\∃l,Ordered (Zhs L) n l/\l'=[.box (Zac Pr.cds (arr L l) jk)]):=by refine vF Zvi.h fun C hP hN hC hL=>?_;simp only[Zvi,Zbj,ZaB,Yg,Ye,Nat.reduceAdd,];refine vR ?_;refine Zah [1000] (Zwu (jk:=jk) hn hn20 hl0 ht) rfl rfl rfl Kb rfl ?_ ?_;{simp only[go_sem,Zar,Ob.lend]};{rintro r l' ⟨rfl,l,hl,rfl⟩;refine⟨_,_,rfl,by simp only[Zap,Ob.back,back_cellsG];rfl,?_⟩;simp only[go_sem,hP,Zae];(refine vM1 ?_;refine⟨_,[.box (Zac Pr.cds (arr L l) jk)],rfl,Zab rfl rfl ?_ ?_ rfl,?_⟩);{simp only[go_sem,Zag,Ob.keepP]};{simp only[go_sem,ZbL]};{exact⟨rfl,_,hl,rfl⟩}}
def ZrV(l:List Pr)(hl:l.length<=1000):Fq 76 [.c (Zbb l)] (.c (Zbb l)):=by have hmax:=vM;refine vE ir76.h fun C hP hN hC hL=>?_;(simp only[ir76,Zbb];cases l with|nil=>refine vR ?_;intro b;refine vR ?_;cases b;{refine vC ?_ ?_<;>intro h;{simp at h};{(repeat(refine vV ?_;(try simp only[go_sem,hP,Ybr]);refine vQ ?_));(refine vT ?_;try exact trivial)}};{refine vC ?_ ?_<;>intro h;{refine vR ?_;(refine Zas ?_;simp only[Zaz,inQ,ZfE,Zcb,Zaq,ZbJ];simp only[go_sem,Zbu,AV.port,AV.portL,YU]);exact AVle.nil 2};{simp at h}}|cons a l=>refine vR ?_;refine vC ?_ ?_<;>intro h;{simp at h};{clear h;have hp:=ZdX (a::l);simp only[Ye]at hp;have hlen:l.length+1<=1000:=hl;(repeat(refine vV ?_;(try simp only[go_sem,hP,hp,Yo]);refine vQ ?_));(refine vT ?_;try exact trivial)})
namespace W
def ir76:Cz [100007] 76:=ec
end W
def ZEu(S:List Pr)(res:AV)(os:List Ob):Prop:=∃cap j,S.length<=cap/\cap<=maxLen/\cap*2<=S.length*2+j/\res= .vw 2 1000 0 S.length cap/\os=[.box (Zac Pr.cds S j)]
def ZoH(l:List Pr)(hl:l.length<=1000)(hne:l≠[]):Fn 76 [.c (Zbb l)] (ZEu l):=by have hmax:=vM;refine ZaL W.ir76.h (Yi _) Kb fun C hP hN hC hL=>?_;obtain⟨a,l,rfl⟩:=List.exists_cons_of_ne_nil hne;simp only[W.ir76,Zbb];refine vR ?_;refine vC ?_ ?_<;>intro h;{simp at h};{clear h;have hp:=ZdX (a::l);simp only[Ye]at hp;have hlen:l.length+1<=1000:=hl;(repeat(refine vV ?_;(try simp only[go_sem,hP,hp,Yo]);refine vQ ?_));intro cap j h1 h2 h3;have ecell:List.map AV.c (a.cds::List.map Pr.cds l).flatten++List.replicate j AV.non=Zac Pr.cds (a::l) j:=rfl;simp only[ecell];refine vR ?_;(refine Zas ?_;simp only[Zaz,inQ,Zbk,ZaN,Zaq,ZbJ];simp only[go_sem,Zbu]);refine⟨[7],.vw 2 1000 0 (a::l).length cap,_,[.box (Zac Pr.cds (a::l) j)],Kb,Kb,?_,AVle.of rfl,?_,cap,j,?_,h2,?_,rfl,rfl⟩;{simp only[go_sem,AV.lend,AV.lendL,Yo]};{simp only[go_sem,Zar,Ob.lend]};{simpa using h1};{simpa using h3}}
namespace W
def ir124:Cz [100007] 124:=ec
end W
def ir124:Cz [] 124:=ec
def zc(n:Int):List CD:=[.int .i64 n]
def vj(l:List Int)(j:Nat):List AV:=l.map iv++List.replicate j .non
def Zxy(l:List Int):(l.map fun n=>[CD.int .i64 n]).flatten.length=l.length:=by(induction l with|nil=>rfl|cons n l ih=>simp only[Ye,YaC,Yw,ih,Yo,YI];omega)
def Zfh(l:List Int)(hl:l.length<=1000):Fq 124 [.c (Zai l)] (.c (Zai l)):=by have hmax:=vM;refine vE ir124.h fun C hP hN hC hL=>?_;(simp only[ir124,Zai];cases l with|nil=>refine vR ?_;intro b;refine vR ?_;cases b;{refine vC ?_ ?_<;>intro h;{simp at h};{(repeat(refine vV ?_;(try simp only[go_sem,hP,Ybr]);refine vQ ?_));(refine vT ?_;try exact trivial)}};{refine vC ?_ ?_<;>intro h;{refine vR ?_;(refine Zas ?_;simp only[Zaz,inQ,ZfE,Zcb,Zaq,ZbJ];simp only[go_sem,Zbu,AV.port,AV.portL,YU]);exact AVle.nil 1};{simp at h}}|cons a l=>refine vR ?_;refine vC ?_ ?_<;>intro h;{simp at h};{clear h;have hlen:l.length+1<=1000:=hl;(have h1:(([CD.int .i64 a]::l.map fun n=>[CD.int .i64 n]).all fun e=>e.length==1)=true:=by rw[Yn];intro e he;rcases YF.1 he with rfl|he;{rfl};{obtain⟨n,_,rfl⟩:=Ys.1 he;rfl});(repeat(refine vV ?_;(try simp only[go_sem,hP,h1,Yo,Yc]);refine vQ ?_));(refine vT ?_;try exact trivial)})
def ZEt(S:List Int)(res:AV)(os:List Ob):Prop:=∃cap j,S.length<=cap/\cap<=maxLen/\cap<=S.length+j/\res= .vw 1 1000 0 S.length cap/\os=[.box (Zac zc S j)]
def ZkT(l:List Int)(hl:l.length<=1000)(hne:l≠[]):Fn 124 [.c (Zai l)] (ZEt l):=by have hmax:=vM;refine ZaL W.ir124.h (Yi _) Kb fun C hP hN hC hL=>?_;obtain⟨a,l,rfl⟩:=List.exists_cons_of_ne_nil hne;simp only[W.ir124,Zai];refine vR ?_;refine vC ?_ ?_<;>intro h;{simp at h};{clear h;have hlen:l.length+1<=1000:=hl;(have h1:(([CD.int .i64 a]::l.map fun n=>[CD.int .i64 n]).all fun e=>e.length==1)=true:=by rw[Yn];intro e he;rcases YF.1 he with rfl|he;{rfl};{obtain⟨n,_,rfl⟩:=Ys.1 he;rfl});(repeat(refine vV ?_;(try simp only[go_sem,hP,h1,Yo,Yc]);refine vQ ?_));intro cap j h1 h2 h3;have ecell:List.map AV.c ([CD.int .i64 a]::l.map fun n=>[CD.int .i64 n]).flatten++List.replicate j AV.non=Zac zc (a::l) j:=rfl;simp only[ecell];refine vR ?_;(refine Zas ?_;simp only[Zaz,inQ,Zbk,ZaN,Zaq,ZbJ];simp only[go_sem,Zbu]);refine⟨[7],.vw 1 1000 0 (a::l).length cap,_,[.box (Zac zc (a::l) j)],Kb,Kb,?_,AVle.of rfl,?_,cap,j,?_,h2,?_,rfl,rfl⟩;{simp only[go_sem,AV.lend,AV.lendL,Yo]};{simp only[go_sem,Zar,Ob.lend]};{simpa using h1};{simpa using h3}}
def ZuO(l:List Pr)(hlen:l.length<=1000):Fn 76 [.c (Zbb l)] (fun r os=>r= .gr 1000/\os=[.grow 122 2 (l.map Pr.cds)]):=by have hmax:=vM;refine ZaL ir76.h (Yi _) Kb fun C hP hN hC hL=>?_;rw[Zbh];(simp only[ir76,Zbb];cases l with|nil=>refine vR ?_;intro b;refine vR ?_;refine vC ?_ ?_<;>intro h;{refine Zat ?_;(refine ZcF ?_;refine vN ?_);refine Zbn 2 7 122 2 Kb Kb rfl rfl ?_;simp only[go_sem];(refine Zas ?_;simp only[Zaz,inQ,Zbk,ZaN,Zaq,ZbJ];simp only[go_sem,Zbu]);exact⟨[7],_,_,_,Kd,Kd,rfl,AVle.refl _,rfl,rfl,rfl⟩};{refine vR ?_;(refine Zas ?_;simp only[Zaz,inQ,Zbk,ZaN,Zaq,ZbJ];simp only[go_sem,Zbu]);exact⟨[7],_,_,_,Kd,Kd,rfl,AVle.refl _,rfl,rfl,rfl⟩}|cons a l=>simp only[Yo]at hlen;refine vR ?_;refine vC ?_ ?_<;>intro h;{cases h};{have hp:=ZdX (a::l);simp only[Ye]at hp;(repeat(refine vV ?_;(try simp only[go_sem,hP,hp,Yo]);refine vQ ?_));(refine Zas ?_;simp only[Zaz,inQ,Zbk,ZaN,Zaq,ZbJ];simp only[go_sem,Zbu]);exact⟨[7],_,_,_,Kd,Kd,rfl,AVle.refl _,rfl,rfl,rfl⟩})
def ZBD:Cz [] 125:=ec
def ZDn:Cz [35] 92:=ec [(6,16256,[])]
def ZrU(l:List Rec)(hl:l.length<=1000):Fq 125 [.c (ZaT l)] (.c (ZaT l)):=by have hmax:=vM;refine vE ZBD.h fun C hP hN hC hL=>?_;(simp only[ZBD,ZaT];cases l with|nil=>refine vR ?_;intro b;refine vR ?_;cases b;{refine vC ?_ ?_<;>intro h;{simp at h};{(repeat(refine vV ?_;(try simp only[go_sem,hP,Ybr]);refine vQ ?_));(refine vT ?_;try exact trivial)}};{refine vC ?_ ?_<;>intro h;{refine vR ?_;(refine Zas ?_;simp only[Zaz,inQ,ZfE,Zcb,Zaq,ZbJ];simp only[go_sem,Zbu,AV.port,AV.portL,YU]);exact AVle.nil 2};{simp at h}}|cons a l=>refine vR ?_;refine vC ?_ ?_<;>intro h;{simp at h};{clear h;have hlen:l.length+1<=1000:=hl;(have hp:((a.cds::l.map Rec.cds).all fun e=>e.length==2)=true:=by rw[Yn];intro e he;rcases YF.1 he with rfl|he;{rfl};{obtain⟨n,_,rfl⟩:=Ys.1 he;rfl});(repeat(refine vV ?_;(try simp only[go_sem,hP,hp,Yo,Yc]);refine vQ ?_));(refine vT ?_;try exact trivial)})
structure BarLn(b:Bar):Prop where
 no:b.box.wh.no.length<=1000
 co:b.box.wh.co.length<=1000
 fo:b.box.fo.length<=1000
 ma:b.box.ma.length<=1000
 sl:b.box.sl.length<=1000
 rc:b.tray.recs.length<=1000
 pr:b.tray.pres.length<=1000
def Bar.avsP(b:Bar)(p:AV):List AV:=[iv b.box.wh.ro,.c (Zai b.box.wh.no),.c (Zai b.box.wh.co),.c (Zai b.box.fo),.c (Zai b.box.ma),.c (Zai b.box.sl),iv b.box.pl,iv b.box.sk,iv b.pl,iv b.cr,.c (ZaT b.tray.recs),iv b.tray.at_,iv b.tray.way,iv b.tray.step,p]
def Zhl{b:Bar}(hb:BarLn b):Fn 92 [b.av] (fun r os=>r= .agg (b.avsP (.gr 1000))/\os=[.grow 122 2 (b.tray.pres.map Pr.cds)]):=by
 refine ZaL ZDn.h (Yi _) Kb fun C hP hN hC hL=>?_;rw[Zbh]
 simp only[ZDn,Bar.av,Bar.avs];refine vR ?_;refine Zf6 (e:=195) (n:=5) (sz:=1) (z:=List.replicate 5 (.c (.raw (.pointer none)))) (ps:=[(0,1,.t 7),(1,1,.t 10),(2,1,.t 12),(3,1,.t 14),(4,1,.t 16)]) (r:=[.bp 1 1,.bp 1 2,.bp 1 3,.bp 1 4,.bp 1 5]) Ka Ka Ka rfl ?_ rfl ?_ ?_
 ·intro i q hq;have:i=0\/i=1\/i=2\/i=3\/i=4\/5<=i:=by omega
  rcases this with rfl|rfl|rfl|rfl|rfl|h
  case inr.inr.inr.inr.inr=>rw[YW (by exact h)]at hq;cases hq
  all_goals(cases hq;exact⟨_,rfl,rfl⟩)
 ·simp only[go_sem]
 simp only[go_sem,hP];refine vR ?_;refine ZaE (fun k:Nat=>⟨upd (upd (upd (upd e0 1 (.bp 1 0)) 2 (.bp 2 0)) 17 (.agg [.bp 1 1,.bp 1 2,.bp 1 3,.bp 1 4,.bp 1 5])) 18 (iv k),upd (upd o0 1 (.box b.avs)) 2 (.box [iv 0,.c (.raw (.slice none 0 0)),.c (.raw (.slice none 0 0)),.c (.raw (.slice none 0 0)),.c (.raw (.slice none 0 0)),.c (.raw (.slice none 0 0)),iv 0,iv 0,iv 0,iv 0,.c (.raw (.slice none 0 0)),iv 0,iv 0,iv 0,.c (.raw (.slice none 0 0))])⟩) (fun k=>k<=5) (fun k=>5-k) 0 (YC _) ?_ ?_
 ·refine Zaf (by simp only[go_sem];exact Zaj) (by unfold Bar.avs;simp only[go_sem];exact Zaa)
 intro k hk;unfold Bar.avs;refine vR ?_;refine vC ?_ ?_<;>intro h
 ·have hi:k<5:=by simp at h;omega
  (refine Zbq ?_;simp only[go_sem])
  refine Zat (Zbe (Zat ?_));have w1:=vw (n:=(k:Int)+1);have:k=0\/k=1\/k=2\/k=3\/k=4:=by omega
  have h1:=Zfh _ hb.no;have h2:=Zfh _ hb.co;have h3:=Zfh _ hb.fo;have h4:=Zfh _ hb.ma;have h5:=Zfh _ hb.sl;rcases this with rfl|rfl|rfl|rfl|rfl
  all_goals(
   (refine ZcF ?_;refine vN ?_)
   refine ZbS (e:=195) (n:=5) (x':=.t 17) (i':=.t 18) (k:=.i64) (j:=_) Ka Ka Ka rfl rfl rfl rfl rfl rfl Kc rfl ?_;simp only[go_sem,hP];refine vR ?_;first|refine Zal h1 ?_|refine Zal h2 ?_|refine Zal h3 ?_|refine Zal h4 ?_|refine Zal h5 ?_
   simp only[go_sem,hP];refine vQ ?_;refine vW w1 ?_)
  all_goals(first|refine⟨1,Kc,Kc,Zaf (by simp only[go_sem];exact Zaj) (by simp only[go_sem];exact Zaa)⟩|refine⟨2,Kc,Kc,Zaf (by simp only[go_sem];exact Zaj) (by simp only[go_sem];exact Zaa)⟩|refine⟨3,Kc,Kc,Zaf (by simp only[go_sem];exact Zaj) (by simp only[go_sem];exact Zaa)⟩|refine⟨4,Kc,Kc,Zaf (by simp only[go_sem];exact Zaj) (by simp only[go_sem];exact Zaa)⟩|refine⟨5,Kc,Kc,Zaf (by simp only[go_sem];exact Zaj) (by simp only[go_sem];exact Zaa)⟩)
 ·have hk5:k=5:=by simp at h;omega
  subst hk5;have h6:=ZrU _ hb.rc;refine vR ?_;(refine ZaM (h6) rfl rfl rfl rfl rfl ?_;refine vS ?_);refine ZaK (ZuO _ hb.pr) rfl rfl rfl rfl ?_;rintro r os ⟨rfl,rfl⟩;refine⟨[35],_,_,Kd,rfl,rfl,rfl,rfl,?_⟩;refine vO ?_;refine vR ?_;(refine Zas ?_;simp only[Zaz,inQ,Zbk,ZaN,Zaq,ZbJ];simp only[go_sem,Zbu]);refine⟨[35],_,_,_,Kd,Kd,rfl,AVle.refl _,rfl,rfl,rfl⟩
def ZBX:Cz [] 180:=ec [(4,32,[]),(7,1048576,[.b [0,1,2,3,4,5,6,7,8,9,10] [.l [11,17,12,13,14,15,16,18,19,20],.l [17,11,12,13,14,15,16,18,19,20]]]),(11,2031616,[])]
def ZcD(b:Bar)(side time:Int):Option Bar:=
 if b.tray.pres.all (fun p=>decide (p.time<=time))=true/\(Ze8 b.box.wh b.pl b.cr [-1]).2=0/\(Ze8 b.box.wh b.pl b.cr [-1]).1.2.2≠0 then
  some {b with pl:=(Ze8 b.box.wh b.pl b.cr [-1]).1.1,cr:=(Ze8 b.box.wh b.pl b.cr [-1]).1.2.1,tray:={b.tray with pres:=b.tray.pres++[⟨side,time⟩]}}
 else none
def Znu(b:Bar)(o:Option Bar)(r:AV)(l':List Ob):Prop:=
 match o with
 |none=>r= .c (.bool false)/\l'=[.box (b.avsP (.gr 1001)),.grow 122 2 (b.tray.pres.map Pr.cds)]
 |some b'=>r= .c (.bool true)/\l'=[.box (b'.avsP (.gr 1001)),.grow 122 2 (b'.tray.pres.map Pr.cds)]
def Zs9{b:Bar}(hb:BarLn b)(s x:Int):Fl 180 [.bp 1000 0,.c (Zai [s,x])] [.box (b.avsP (.gr 1001)),.grow 122 2 (b.tray.pres.map Pr.cds)] [] (Znu b (ZcD b s x)):=by
 have hm:=vM;have hpr:=hb.pr;refine Zdq ZBX.h (by first|simp|exact YT rfl) (Yi _) Kb Kb fun C hP hN hC hpin hL=>?_;rw[Zbm,ZdU (by first|simp|exact YT rfl)];simp only[ZBX,Zbj,ZaB,Yg,Ye,Nat.reduceAdd,]
 (repeat(refine vV ?_;(try simp only[go_sem,hP,Zai,Bar.avsP,Yc]);refine vQ ?_))
 refine ZaE (fun k:Nat=>⟨upd (upd (upd (upd (upd (upd e0 0 (.bp 1000 0)) 1 (.c (Zai [s,x]))) 4 (.c (.bool false))) 15 (.gr 1001)) 16 (iv b.tray.pres.length)) 17 (iv k),upd (upd o0 1000 (.box (b.avsP (.gr 1001)))) 1001 (.grow 122 2 (b.tray.pres.map Pr.cds))⟩) (fun k=>k<=b.tray.pres.length/\(b.tray.pres.take k).all (fun p=>decide (p.time<=x))=true) (fun k=>b.tray.pres.length-k) 0 ⟨YC _,rfl⟩ ?_ ?_
 ·refine Zaf (by unfold Zai;simp only[go_sem];exact Zaj) (by unfold Bar.avsP;simp only[go_sem];exact Zaa)
 rintro k ⟨hk,hr⟩;refine vR0 ?_;refine vC ?_ ?_<;>intro h
 ·have hi:k<b.tray.pres.length:=by simpa using h
  have w1:=vw (n:=(k:Int)+1);obtain⟨p,hp⟩:∃p,p=b.tray.pres[k]:=⟨_,rfl⟩;have hg:(b.tray.pres.map Pr.cds).getD k []=p.cds:=by rw[Zax hi,hp]
  have hts:(b.tray.pres.take (k+1)).all (fun p=>decide (p.time<=x))=decide (p.time<=x):=by rw[Zgg _ hi,hr,YV,hp]
  (repeat(refine vV ?_;(try simp only[go_sem,hP,hg,Yc,Yr,Pr.cds]);refine vQ ?_))
  by_cases hpt:p.time<=x
  ·refine vC ?_ ?_<;>intro h
   ·simp at h;omega
   ·refine vW w1 ?_;refine⟨k+1,⟨Kc,by rw[hts];simpa using hpt⟩,Kc,?_⟩;refine Zaf (by simp only[go_sem];exact Zaj) (by unfold Bar.avsP;simp only[go_sem];exact Zaa)
  ·have hno:ZcD b s x=none:=by
    unfold ZcD;rw[Yx];rintro⟨h1,_⟩;have:=Yn.1 h1 p (by rw[hp];exact Yv hi);exact hpt (by simpa using this)
   rw[hno];refine vC ?_ ?_<;>intro h
   ·refine vR ?_;(refine vL ?_;refine⟨_,[.box (b.avsP (.gr 1001)),.grow 122 2 (b.tray.pres.map Pr.cds)],rfl,Zab rfl rfl ?_ ?_ rfl,?_⟩)
    ·unfold Bar.avsP;simp only[go_sem,Zag,Ob.keepP,AV.keepP,AV.keepPL]
    ·trivial
    ·exact⟨rfl,rfl⟩
   ·simp at h;omega
 ·have hkl:k=b.tray.pres.length:=by
   have:¬(k<b.tray.pres.length):=by simpa using h
   omega
  subst hkl;rw[YL]at hr;unfold Bar.avsP;refine vR ?_;have hrun:=Zwk b.box.wh b.pl b.cr [-1];simp only[Wh.av,Wh.avs]at hrun;generalize hR:Ze8 b.box.wh b.pl b.cr [-1]=R at hrun;obtain⟨⟨pl',cr',md⟩,e⟩:=R;simp only at hrun;refine ZcB (fun σ'=>Sub σ' ⟨upd (upd (upd (upd (upd (upd e0 0 (.bp 1000 0)) 1 (.c (Zai [s,x]))) 4 (.c (.bool false))) 7 (.bp 7 0)) 8 (iv md)) 9 (iv e),upd (upd (upd o0 1000 (.box (b.avsP (.gr 1001)))) 1001 (.grow 122 2 (b.tray.pres.map Pr.cds))) 7 (.box [iv pl',iv cr'])⟩) ?_ ?_
  ·refine ZaS ?_;simp only[go_sem,hP];(repeat'(refine And.intro ?_ ?_));all_goals(
    (refine ZaM (hrun) rfl rfl rfl rfl rfl ?_;refine vS ?_)
    refine Zaf (by unfold Zai;simp only[go_sem];exact Zaj) (by unfold Bar.avsP;simp only[go_sem];exact Zaa))
  ·intro σ' hs;refine Zav hs ?_;unfold Bar.avsP;refine vR ?_;by_cases hbad:e≠0\/md=0
   ·have hno:ZcD b s x=none:=by
     unfold ZcD;rw[Yx];rw[hR];rintro⟨_,h2,h3⟩;rcases hbad with h|h
     ·exact h h2
     ·exact h3 h
    rw[hno];refine vC ?_ ?_<;>intro h
    ·refine vR ?_;(refine vL ?_;refine⟨_,[.box (b.avsP (.gr 1001)),.grow 122 2 (b.tray.pres.map Pr.cds)],rfl,Zab rfl rfl ?_ ?_ rfl,?_⟩)
     ·unfold Bar.avsP;simp only[go_sem,Zag,Ob.keepP,AV.keepP,AV.keepPL]
     ·trivial
     ·exact⟨rfl,rfl⟩
    ·exfalso;simp at h;rcases hbad with h2|h2
     ·exact h2 h.1
     ·exact h.2 h2
   ·obtain⟨he,hmd⟩:=Ydb.1 hbad;have he:e=0:=by omega
    have hyes:ZcD b s x=some {b with pl:=pl',cr:=cr',tray:={b.tray with pres:=b.tray.pres++[⟨s,x⟩]}}:=by
     unfold ZcD;rw[hR];rw[Yt ⟨hr,he,hmd⟩]
    rw[hyes];refine vC ?_ ?_<;>intro h
    ·exfalso;simp[he,hmd]at h
    ·have hp2:=ZdX b.tray.pres;refine vR7 ?_;refine Zou 71 1001 Kb (fun hq=>by have h2:false=true:=hpin 1001 hq;cases h2) rfl ?_;simp only[go_sem];(refine vL ?_;refine⟨_,[.box (Bar.avsP {b with pl:=pl',cr:=cr',tray:={b.tray with pres:=b.tray.pres++[⟨s,x⟩]}} (.gr 1001)),.grow 122 2 ((b.tray.pres++[(⟨s,x⟩:Pr)]).map Pr.cds)],rfl,Zab rfl rfl ?_ ?_ rfl,?_⟩)
     ·unfold Bar.avsP;simp only[go_sem,Zag,Ob.keepP,AV.keepP,AV.keepPL,Zai,Yy];rfl
     ·trivial
     ·exact⟨rfl,rfl⟩
def ZB9:Cz [] 216:=ec
def ZBZ:Cz [] 184:=ec [(1,28672,[])]
def ZCa:Cz [7] 217:=ec [(1,12865,[.b [] [.l [0,1,2,3,4,5,6,7,8,9,10,11,12,13],.b [1] [.l [0,2,3,4,5,6,7,8,9,10,11,12,13],.b [2] [.l [0,3,4,5,6,7,8,9,10,11,12,13],.b [3] [.l [0,4,5,6,7,8,9,10,11,12,13],.b [4] [.l [0,5,6,7,8,9,10,11,12,13],.l [5,0,6,7,8,9,10,11,12,13]]]]]]])]
def Zj3(n e:Int):Fq 216 [iv n,iv e] (.tup [.c (Zai [n]),iv e]):=by refine vE ZB9.h fun C hP hN hC hL=>?_;simp only[ZB9,Zai];(refine vU ?_;try exact trivial)
def ZzI(b:Bar)(x:CD):Fl 184 [.bp 1000 0,.c x] [.box b.avs] [] (fun r l'=>r= .tup [.c (Zai [b.pl,b.cr]),iv 0]/\l'=[.box b.avs]):=by refine vF ZBZ.h fun C hP hN hC hL=>?_;simp only[ZBZ,Zbj,ZaB,Yg,Ye,Nat.reduceAdd,];simp only[Bar.avs];refine vR ?_;(refine vL ?_;refine⟨_,[.box b.avs],rfl,Zab rfl rfl ?_ ?_ rfl,?_⟩);{unfold Bar.avs;simp only[go_sem,Zag,Ob.keepP,AV.keepP,AV.keepPL]};{trivial};{exact⟨rfl,rfl⟩}
def Znv{f:FuncId}{b:Bar}{q:Nat}{n e:Int}(hf:Fq f [b.tray.av] (.tup [iv n,iv e]))(x:CD):Fl 217 [.bp 1000 0,.c x,.c (.raw (Zf5 q 0))] [.box b.avs,vbox (fnV f []) q] [] (fun r l'=>r= .tup [.c (Zai [n]),iv e]/\l'=[.box b.avs,vbox (fnV f []) q]):=by
 simp only[Tray.av]at hf;refine vF ZCa.h fun C hP hN hC hL=>?_;simp only[ZCa,Zbj,ZaB,Yg,Ye,Nat.reduceAdd,]
 simp only[Bar.avs];refine vR ?_;refine ZcB (fun σ'=>Sub σ' ⟨upd (upd e0 5 (.c (Zai [n]))) 6 (iv e),upd (upd o0 1000 (.box b.avs)) 1001 (vbox (fnV f []) q)⟩) ?_ ?_
 ·refine ZaS ?_;simp only[go_sem,hP];(repeat'(refine And.intro ?_ ?_));all_goals(
   refine Zn0 (n:=1001) (vr:=.fn f []) rfl rfl rfl (fun w M loc=>Zgz w M loc f) ?_;simp only[go_sem,hP];refine Zal hf ?_;simp only[go_sem,hP];refine Zal (Zj3 n e) ?_;simp only[go_sem,hP];refine Zaf (by simp only[go_sem];exact Zaj) (by unfold Bar.avs;simp only[go_sem];exact Zaa))
 ·intro σ' hs;refine Zav hs ?_;(refine vL ?_;refine⟨_,[.box b.avs,vbox (fnV f []) q],rfl,Zab rfl rfl ?_ ?_ rfl,?_⟩)
  ·unfold Bar.avs;simp only[go_sem,Zag,Ob.keepP,AV.keepP,AV.keepPL]
  ·trivial
  ·exact⟨rfl,rfl⟩
def Zsw:Cz [] 177:=ec [(3,2097152,[.b [0,1,2,3,4,5,6,7,8,9,10,11] [.l [12,18,13,14,15,16,17,19,20,21],.l [18,12,13,14,15,16,17,19,20,21]]]),(6,2064384,[])]
abbrev ZzR:VC:=Zsw.v.body.r.r.r.r.r.r
def Zqa{b:Bar}(hB:Za5 b=true){kind:Int}(hk:0<=kind/\kind<(b.box.wh.co.length:Int)){pl' cr' md e:Int}(hR:Ze8 b.box.wh b.pl b.cr [kind]=((pl',cr',md),e))(he:e=0):0<=cr'/\cr'<=1000/\0<=b.cr/\b.cr<=20/\0<=b.box.pl/\b.box.pl<=9999/\b.box.fo.length=b.box.wh.co.length/\∀n∈b.box.fo,0<=n/\n<=12:=by simp only[Za5,bxB,Yf,Yl,Zad]at hB;obtain⟨⟨⟨⟨⟨⟨⟨⟨h1,h2⟩,h3⟩,h4⟩,h5⟩,h6⟩,h7⟩,h8⟩,h9,h10,h11,h12,h13⟩:=hB;have hw:=ZdL h1;have hl:=ZaI h4;(have ha:ZkE b.box.wh kind=true:=by unfold ZkE Zad;simp only[Yae,Yf,Yl];right;omega);have hs:=Zrn hw (pl:=b.pl) (cr:=b.cr) (a:=kind) ⟨h10,h11⟩ h12 ha;(have hr:Ze8 b.box.wh b.pl b.cr [kind]=(Zki b.box.wh b.pl b.cr [kind],0):=by unfold Ze8 at hR|-;split;{rfl};{rename_i hx;rw[Yx hx]at hR;simp only[Yj]at hR;exact absurd (hR.2.trans he) hx});rw[hr]at hR;(have hcr:cr'=(ZeX b.box.wh b.pl b.cr kind).2:=by have:=congrArg (fun q=>q.1.2.1) hR;exact this.symm);rw[hcr];exact⟨hs.2.1,Kc,h12,h13,h2.1,h2.2,hl.1,hl.2⟩
def Zvo:Cz [100015] 176:=ec [(1,7168,[.b [4,5,6,7,8,9] [.b [0] [.b [1] [.b [2] [.l [3,10,11,12],.l [10,3,11,12]],.l [10,2,3,11,12]],.l [10,1,2,3,11,12]],.b [1] [.b [0] [.b [2] [.l [3,10,11,12],.l [10,3,11,12]],.l [10,2,3,11,12]],.b [2] [.b [0] [.l [3,10,11,12],.l [10,3,11,12]],.b [3] [.l [0,10,11,12],.l [10,0,11,12]],.l [10,0,3,11,12]],.l [10,0,2,3,11,12]],.l [10,0,1,2,3,11,12]]])]
variable{tb:Obj}
def Zuj:Cz [] 93:=ec
def ZeW(tb:Obj)(b:Bar)(s:List UInt8)(x:List UInt8×Bar):Prop:=Fl 93 [.bp 1000 0,.c (.str s)] [.box b.avs,(tabO tb)] [] (fun r l'=>r= .c (.str x.1)/\l'=[.box x.2.avs,(tabO tb)])
def ZvA{b:Bar}{s:List UInt8}(hs:s.length<=1000)(hp:ZaA s=none):ZeW tb b s (ZwI,b):=by unfold ZeW;refine vF Zuj.h fun C hP hN hC hL=>?_;simp only[Zuj,Zbj,ZaB,Yg,Ye,Nat.reduceAdd,];simp only[Bar.avs];refine vR ?_;refine ZaK (parse53 hs) rfl rfl rfl rfl ?_;intro r os h;unfold Zb6 at h;rw[hp]at h;obtain⟨m,v,rfl,rfl⟩:=h;refine⟨[],_,_,Kd,rfl,rfl,rfl,rfl,?_⟩;refine vO ?_;refine vR ?_;refine vC ?_ ?_<;>intro h;{refine vR ?_;(refine vL ?_;refine⟨_,[.box b.avs,(tabO tb)],rfl,Zab rfl rfl ?_ ?_ rfl,?_⟩);{unfold Bar.avs;simp only[go_sem,Zag,Ob.keepP,AV.keepP,AV.keepPL]};{trivial};{exact⟨rfl,rfl⟩}};{cases h}
def ZdR{b:Bar}(hb:BarLn b){s w:List UInt8}{ns:List Int}(hs:s.length<=1000)(hp:ZaA s=some (w,ns)){m:Int}{f:Nat}(hw:Za9 w=some ⟨m,204,f,none⟩){l:List Int}{er:Int}(hl:l.length<=10000)(hr:∀n∈l,i64 n)(hf:Fl f [.bp 1000 0,.c (Zai ns)] [.box b.avs] [] (fun r l'=>r= .tup [.c (Zai l),iv er]/\l'=[.box b.avs])):ZeW tb b s (Zjh l er,b):=by have hcp:=Zhl hb;simp only[Bar.av,Bar.avs,Bar.avsP]at hcp;unfold ZeW;refine vF Zuj.h fun C hP hN hC hL=>?_;simp only[Zuj,Zbj,ZaB,Yg,Ye,Nat.reduceAdd,];simp only[Bar.avs];refine vR ?_;refine ZaK (parse53 hs) rfl rfl rfl rfl ?_;intro r os h;unfold Zb6 at h;rw[hp]at h;obtain⟨q,e,he,rfl,rfl⟩:=h;rw[hw]at he;cases he;refine⟨[101,102,103,104,105,106,107,108],_,_,Kd,rfl,rfl,rfl,rfl,?_⟩;refine vO ?_;refine vR ?_;refine vC ?_ ?_<;>intro h;{cases h};{clear h;refine vR ?_;refine ZaK hcp rfl rfl rfl rfl ?_;rintro r os ⟨rfl,rfl⟩;refine⟨[110],_,_,Kd,rfl,rfl,rfl,rfl,?_⟩;refine vO ?_;refine vR ?_;refine Zlp (t:=204) (x':=.t 26) (u:=fnV f []) (vr:=.fn f []) Ka rfl rfl rfl (fun w M loc=>Zgz w M loc f) ?_;simp only[go_sem,hP];refine vR ?_;refine vC ?_ ?_<;>intro h;{refine vR ?_;refine Zah [1000] hf rfl rfl rfl Kb rfl (by unfold Bar.avs;simp only[go_sem,Zar,Ob.lend,AV.lend,AV.lendL];first|done|rfl) ?_;rintro r l' ⟨rfl,rfl⟩;refine⟨_,_,rfl,(by unfold Bar.avs;simp only[Zap,Ob.back,AV.back,AV.backL];rfl),?_⟩;refine vO ?_;refine vR ?_;refine Zah [1001] (Zow hl hr er) rfl rfl rfl Kb rfl rfl ?_;rintro r l' ⟨rfl,rfl⟩;refine⟨_,_,rfl,rfl,?_⟩;refine vO ?_;refine vR ?_;(refine vL ?_;refine⟨_,[.box b.avs,(tabO tb)],rfl,Zab rfl rfl ?_ ?_ rfl,?_⟩);{unfold Bar.avs;simp only[go_sem,Zag,Ob.keepP,AV.keepP,AV.keepPL]};{trivial};{exact⟨rfl,rfl⟩}};{cases h}}
def ZE0:List Nat:=[26,27,191,31,32,33,34,35]
def Zde{b:Bar}(hb:BarLn b){s w:List UInt8}{ns:List Int}(hs:s.length<=1000)(hp:ZaA s=some (w,ns)){m:Int}{f i:Nat}(hi:i<8)(hw:Za9 w=some ⟨m,204,f,some i⟩){l:List Int}{er:Int}(hl:l.length<=10000)(hr:∀n∈l,i64 n)(hf:∀q:Nat,Fl f [.bp 1000 0,.c (Zai ns),.c (.raw (Zf5 q 0))] [.box b.avs,vbox (fnV (ZE0.getD i 0) []) q] [] (fun r l'=>r= .tup [.c (Zai l),iv er]/\l'=[.box b.avs,vbox (fnV (ZE0.getD i 0) []) q])):ZeW tb b s (Zjh l er,b):=by
 have hcp:=Zhl hb;simp only[Bar.av,Bar.avs,Bar.avsP]at hcp;unfold ZeW;refine vF Zuj.h fun C hP hN hC hL=>?_;simp only[Zuj,Zbj,ZaB,Yg,Ye,Nat.reduceAdd,]
 simp only[Bar.avs];refine vR ?_;refine ZaK (parse53 hs) rfl rfl rfl rfl ?_;intro r os h;unfold Zb6 at h;rw[hp]at h;obtain⟨q,e,he,rfl,rfl⟩:=h;rw[hw]at he;cases he;refine⟨[101,102,103,104,105,106,107,108],_,_,Kd,rfl,rfl,rfl,rfl,?_⟩;refine vO ?_;refine vR ?_;refine vC ?_ ?_<;>intro h
 ·cases h
 ·clear h;refine vR ?_;refine ZaK hcp rfl rfl rfl rfl ?_;rintro r os ⟨rfl,rfl⟩;refine⟨[110],_,_,Kd,rfl,rfl,rfl,rfl,?_⟩;refine vO ?_;refine vR ?_;refine Zlp (t:=204) (x':=.t 26) (u:=fnV f [Zf5 (q i) 0]) (vr:=.fn f [.c (.raw (Zf5 (q i) 0))]) Ka rfl rfl rfl (fun w M loc=>Zyf w M loc f rfl) ?_;simp only[go_sem,hP];refine vR ?_;refine vC ?_ ?_<;>intro h
  ·refine vR ?_;have hfi:=hf (q i);have hc:i=0\/i=1\/i=2\/i=3\/i=4\/i=5\/i=6\/i=7:=by omega
   unfold Bar.avs at hfi;rcases hc with rfl|rfl|rfl|rfl|rfl|rfl|rfl|rfl
   all_goals(
    first|refine Zah [1000,101] hfi rfl rfl rfl Kb rfl (by simp only[go_sem,Zar,Ob.lend,AV.lend,AV.lendL];first|done|rfl) ?_|refine Zah [1000,102] hfi rfl rfl rfl Kb rfl (by simp only[go_sem,Zar,Ob.lend,AV.lend,AV.lendL];first|done|rfl) ?_|refine Zah [1000,103] hfi rfl rfl rfl Kb rfl (by simp only[go_sem,Zar,Ob.lend,AV.lend,AV.lendL];first|done|rfl) ?_|refine Zah [1000,104] hfi rfl rfl rfl Kb rfl (by simp only[go_sem,Zar,Ob.lend,AV.lend,AV.lendL];first|done|rfl) ?_|refine Zah [1000,105] hfi rfl rfl rfl Kb rfl (by simp only[go_sem,Zar,Ob.lend,AV.lend,AV.lendL];first|done|rfl) ?_|refine Zah [1000,106] hfi rfl rfl rfl Kb rfl (by simp only[go_sem,Zar,Ob.lend,AV.lend,AV.lendL];first|done|rfl) ?_|refine Zah [1000,107] hfi rfl rfl rfl Kb rfl (by simp only[go_sem,Zar,Ob.lend,AV.lend,AV.lendL];first|done|rfl) ?_|refine Zah [1000,108] hfi rfl rfl rfl Kb rfl (by simp only[go_sem,Zar,Ob.lend,AV.lend,AV.lendL];first|done|rfl) ?_
    rintro r l' ⟨rfl,rfl⟩;refine⟨_,_,rfl,(by simp only[Zap,Ob.back,AV.back,AV.backL];rfl),?_⟩;refine vO ?_;refine vR ?_;refine Zah [1001] (Zow hl hr er) rfl rfl rfl Kb rfl rfl ?_;rintro r l' ⟨rfl,rfl⟩;refine⟨_,_,rfl,rfl,?_⟩;refine vO ?_;refine vR ?_;(refine vL ?_;refine⟨_,[.box b.avs,(tabO tb)],rfl,Zab rfl rfl ?_ ?_ rfl,?_⟩)
    ·unfold Bar.avs;simp only[go_sem,Zag,Ob.keepP,AV.keepP,AV.keepPL]
    ·trivial
    ·exact⟨rfl,rfl⟩)
  ·cases h
def Zkc:List UInt8:=[112,114,101,115,115]
def Zmb:List UInt8:=[99,111,105,110]
def Zg9(b:Bar):Option Bar->List UInt8×Bar
 |none=>(noS,b)
 |some b'=>if Za5 b' then(Zgl,b')else(noS,b)
def Zrd{C:Ctx}{is:List Ins}{K:St->Prop}{env:Nat->AV}{own:Nat->Ob}(n:Nat){ds:List CD}{junk:List AV}(hb:own n= .box (ds.map .c++junk))(h:ZkC C is K ⟨ZoQ n ds env,Zfz n ds own⟩):ZkC C is K ⟨env,own⟩:=ZlK (ZhN n ds junk hb C) h
def Zdd(l:List Int):(Za4 zc l).length=l.length:=Zxy l
def Zdc(l:List Int):CD.sl 1 (grp 1 l.length (List.take l.length (Za4 zc l)))=Zai l:=by have h2:=ZeM (cds:=zc) (m:=1) (fun _=>rfl) l;rw[Yab]at h2;rw[h2];rfl
def ZFo:Cz [] 44:=ec [(12,192,[])]
def ZaU(F:Bar->List UInt8->List UInt8×Bar)(b:Bar)(l:List (List UInt8)):List (List UInt8)×Bar:=l.foldl (fun st s=>(st.1++[(F st.2 s).1],(F st.2 s).2)) ([],b)
def Zga(F:Bar->List UInt8->List UInt8×Bar)(b:Bar){l:List (List UInt8)}{k:Nat}(h:k<l.length):ZaU F b (l.take (k+1))=((ZaU F b (l.take k)).1++[(F (ZaU F b (l.take k)).2 (l.getD k [])).1],(F (ZaU F b (l.take k)).2 (l.getD k [])).2):=by(have hg:l.getD k []=l[k]:=by rw[Yb,Yd h];rfl);rw[Yq h,hg];unfold ZaU;rw[YaO];rfl
def ZhD(F:Bar->List UInt8->List UInt8×Bar)(b:Bar)(l:List (List UInt8)):∀k,k<=l.length->(ZaU F b (l.take k)).1.length=k
 |0,_=>rfl
 |k+1,h=>by rw[Zga F b Kc];simp only[Yw,Yo,YI,ZhD F b l k Kc]
def Zmp(b:Bar):Nat->AV
 |0=> .gr 110
 |_+1=> .c (Zbb b.tray.pres)
def ZwK:List AV:=[iv 0,.c (.raw (.slice none 0 0)),.c (.raw (.slice none 0 0)),.c (.raw (.slice none 0 0)),.c (.raw (.slice none 0 0)),.c (.raw (.slice none 0 0)),iv 0,iv 0,iv 0,iv 0,.c (.raw (.slice none 0 0)),iv 0,iv 0,iv 0,.c (.raw (.slice none 0 0))]
def Zd1{l:List (List UInt8)}{k:Nat}(h:k<l.length):(l.map fun x=>[CD.str x]).getD k []=[CD.str (l.getD k [])]:=Zlx h
def ZEw{F:Bar->List UInt8->List UInt8×Bar}{b:Bar}(hb:BarLn b)(hB:Za5 b=true){l:List (List UInt8)}(hl:l.length<=40)(hF:∀k,k<l.length->ZeW tb (ZaU F b (l.take k)).2 (l.getD k []) (F (ZaU F b (l.take k)).2 (l.getD k []))):
  Fl 44 [b.av,.c (Zaw l)] [(tabO tb)] [] (fun r l'=>r= .tup [.c (Zaw (ZaU F b l).1),(ZaU F b l).2.av,iv 0]/\l'=[(tabO tb)]):=by have hm:=vM;have hck:=check25 b;(have he:ZeI b=0:=by unfold ZeI;rw[Yt hB]);rw[he]at hck;have hcp:=Zhl hb;simp only[Bar.av,Bar.avs,Bar.avsP]at hcp hck;refine vF ZFo.h fun C hP hN hC hL=>?_;simp only[ZFo,Zbj,ZaB,Yg,Ye,Nat.reduceAdd,];simp only[Bar.av,Bar.avs];refine vR ?_;(refine Zal (hck) ?_;refine vS ?_);refine vC ?_ ?_<;>intro h;{cases h};{clear h;refine vR2 ?_;refine vC ?_ ?_<;>intro h;{exfalso;simp at h;omega};{clear h;refine vR ?_;refine ZaK hcp rfl rfl rfl rfl ?_;rintro r os ⟨rfl,rfl⟩;refine⟨[110],_,_,Kd,rfl,rfl,rfl,rfl,?_⟩;refine vO ?_;refine vR2 ?_;refine Zbn 4 36 9 1 Kb Kb rfl rfl ?_;simp only[go_sem];refine ZaE (fun k:Nat=>⟨upd (upd (upd (upd (upd (upd (upd e0 4 (.gr 36)) 5 (.bp 5 0)) 6 (iv 0)) 8 (.bp 24 0)) 25 (.c (Zaw l))) 26 (iv l.length)) 27 (iv k),upd (upd (upd (upd (upd o0 1000 (tabO tb)) 5 (.box ZwK)) 110 (.grow 122 2 (b.tray.pres.map Pr.cds))) 24 (.box ((ZaU F b (l.take k)).2.avsP (Zmp (ZaU F b (l.take k)).2 k)))) 36 (.grow 9 1 ((ZaU F b (l.take k)).1.map fun x=>[CD.str x]))⟩) (fun k=>k<=l.length) (fun k=>l.length-k) 0 (YC _) ?_ ?_;{refine Zaf (by unfold Zaw;simp only[go_sem];exact Zaj) (by simp only[Yaz,Yg,ZaU,Ycr,Zmp];unfold Bar.avsP ZwK;simp only[go_sem];exact Zaa)};intro k hk;have hrl:=ZhD F b l k hk;refine vR2 ?_;refine vC ?_ ?_<;>intro h;{(have hi:k<l.length:=by simpa using h);have hwk:=vw (n:=(k:Int)+1);have hg:=Zd1 hi;have hln:=hF k hi;have hsn:=Zga F b hi;(have h0:k=0->(ZaU F b (l.take k)).2=b:=by rintro rfl;rfl);(unfold ZeW at hln;generalize l.getD k []=s at hg hln hsn;generalize ZaU F b (l.take k)=bk at hrl hln hsn h0;generalize F bk.2 s=fx at hln hsn;refine vW1 hg ?_;cases k with|zero=>have h0:=h0 rfl;obtain⟨ba,bb⟩:=bk;simp only at h0;subst h0;simp only[Zmp];unfold Bar.avsP;refine Zah [24,1000] hln rfl rfl rfl Kb rfl (by unfold Bar.avs;simp only[go_sem,Zar,Ob.lend,AV.lend,AV.lendL];first|done|rfl) ?_;rintro r l' ⟨rfl,rfl⟩;refine⟨_,_,rfl,(by unfold Bar.avs;simp only[Zap,Ob.back,AV.back,AV.backL];rfl),?_⟩;refine vO ?_;refine vW2 (vA hwk hrl) ?_;refine⟨0+1,Kc,Kc,?_⟩;rw[hsn,Yy];simp only[Zmp];unfold ZwK;refine Zaf (by simp only[go_sem];exact Zaj) (by simp only[go_sem,Ye,Yg];exact Zaa)|succ k=>simp only[Zmp];unfold Bar.avsP;refine Zah [24,1000] hln rfl rfl rfl Kb rfl (by unfold Bar.avs;simp only[go_sem,Zar,Ob.lend,AV.lend,AV.lendL];first|done|rfl) ?_;rintro r l' ⟨rfl,rfl⟩;refine⟨_,_,rfl,(by unfold Bar.avs;simp only[Zap,Ob.back,AV.back,AV.backL];rfl),?_⟩;refine vO ?_;refine vW2 (vA hwk hrl) ?_;refine⟨k+1+1,Kc,Kc,?_⟩;rw[hsn,Yy];simp only[Zmp];unfold ZwK;refine Zaf (by simp only[go_sem];exact Zaj) (by simp only[go_sem,Ye,Yg];exact Zaa))};{(have hkl:k=l.length:=by(have:¬(k<l.length):=by simpa using h);omega);subst hkl;rw[YL]at hrl|-;(have h0:l.length=0->(ZaU F b l).2=b:=fun h=>by rw[List.length_eq_zero_iff.1 h];rfl);(generalize ZaU F b l=bk at hrl h0;generalize l.length=n at*;cases n with|zero=>have h0:=h0 rfl;obtain⟨ba,bb⟩:=bk;simp only at h0;subst h0;simp only[Zmp];unfold Bar.avsP ZwK;refine vR ?_;(refine vL ?_;refine⟨_,[(tabO tb)],rfl,Zab rfl rfl ?_ ?_ rfl,?_⟩);{exact vK};{trivial};{exact⟨rfl,rfl⟩}|succ n=>simp only[Zmp];unfold Bar.avsP ZwK;refine vR ?_;(refine vL ?_;refine⟨_,[(tabO tb)],rfl,Zab rfl rfl ?_ ?_ rfl,?_⟩);{exact vK};{trivial};{exact⟨rfl,rfl⟩})}}}
def ZFc:Cz [] 21:=ec
def Zgh(n:Int):List UInt8:=if n<0 then 45::Lib.decDigits (-(max n (-999999999))).toNat else Lib.decDigits n.toNat
def ZkX(u:Nat):∀k,u<10^(k+1)->(Lib.decDigits u).length<=k+1
 |0,h=>by rw[Lib.decDigits_one (by simpa using h)];simp
 |k+1,h=>by rw[Lib.decDigits];split;{simp};{(have h2:u/10<10^(k+1):=by rw[Nat.pow_succ]at h;omega);have:=ZkX (u/10) k h2;simp only[Yw,Yo,YI];omega}
def Zx0{n:Nat}(h:n<10):IntKind.u8.wrap (48+(n:Int))=((UInt8.ofNat (48+n)).toNat:Int):=by(have:n=0\/n=1\/n=2\/n=3\/n=4\/n=5\/n=6\/n=7\/n=8\/n=9:=by omega);rcases this with rfl|rfl|rfl|rfl|rfl|rfl|rfl|rfl|rfl|rfl<;>rfl
def ZCX(u:Nat)(hu:u<10^19)(hu2:u<=9223372036854775807):Fq 21 [iv u] (.c (.str (Lib.decDigits u))):=by(have hm:=vM;induction u using Nat.strongRecOn with|_ u ih=>refine vE ZFc.h fun C hP hN hC hL=>?_;simp only[ZFc];refine vR ?_;refine vC ?_ ?_<;>intro h;{simp at h;omega};{clear h;refine vR ?_;by_cases h10:u<10;{rw[Lib.decDigits_one h10];have w1:=vw (n:=48+(u:Int));have hb:=Zx0 h10;refine vC ?_ ?_<;>intro h;{refine vW (vA w1 hb) ?_;refine ZCH (e:=5) (x':=.t 15) (s:=[UInt8.ofNat (48+u)]) Ka Ka Ka rfl rfl rfl ?_;simp only[go_sem,hP];exact vUt};{simp at h;omega}};{have h1:=ih (u/10) Kc Kc Kc;have h2:=ih (u % 10) Kc Kc Kc;(have hd:Lib.decDigits u=Lib.decDigits (u/10)++Lib.decDigits (u % 10):=by rw[Lib.decDigits,dif_neg h10,Lib.decDigits_one (show u % 10<10 by omega)]);have hl1:=ZkX (u/10) 18 Kc;have hl2:=ZkX (u % 10) 0 Kc;rw[hd];(have e1:(u:Int).tdiv 10=((u/10:Nat):Int):=by rw[Ybl Kc];omega);(have e2:(u:Int).tmod 10=((u % 10:Nat):Int):=by rw[Ybm Kc];omega);have wa:=vw (n:=((u/10:Nat):Int));have wc:=vw (n:=((u % 10:Nat):Int));generalize u/10=a at*;generalize u % 10=c at*;refine vC ?_ ?_<;>intro h;{simp at h;omega};{refine vW (vA e1 (vA e2 (vA wa wc))) ?_;(refine Zal (h1) ?_;refine vX (vA e1 (vA e2 (vA wa wc))) ?_);(refine Zal (h2) ?_;refine vX (vA e1 (vA e2 (vA wa wc))) ?_);(refine vT ?_;try exact trivial)}}})
def ZEF{n:Int}(h0:0<=n)(h1:n<=9223372036854775807):Fq 21 [iv n] (.c (.str (Zgh n))):=by obtain⟨u,rfl⟩:=YaM h0;(have e:Zgh (u:Int)=Lib.decDigits u:=by unfold Zgh;rw[Yx Kc];simp);rw[e];exact ZCX u Kc Kc
def Zua{n:Int}(h0:0<=n)(h1:n<=999999999):(Zgh n).length<=10:=by unfold Zgh;rw[Yx Kc];have:=ZkX n.toNat 8 Kc;omega
def ZFp:Cz [] 45:=ec
def ZyS(s:List UInt8)(i:Nat):Lib.occAt s [32] i=(s[i]? ==some 32):=by(unfold Lib.occAt;cases h:s.drop i with|nil=>(have:s.length<=i:=by simpa using h);rw[YW this];rfl|cons b r=>(have h2:s[i]? =some b:=by have:=Yaf (xs:=s) (i:=i) (j:=0);rw[h]at this;simpa using this.symm);rw[h2];simp[List.isPrefixOf,BEq.comm])
def ZoK{s:List UInt8}(h:∀j,j<s.length->s.getD j 0≠32):Zhm s=[s]:=by(have hi:Lib.index s [32]= -1:=Lib.index_none fun j hj=>by rw[ZyS];by_cases hl:j<s.length;{have:=h j hl;rw[Yb,Yd hl]at this;rw[Yd hl];simpa using this};{rw[YW Kc];rfl});unfold Zhm Lib.split;rw[Lib.count_miss hi];rfl
def Zw7{s:List UInt8}{i:Nat}(hi:i<s.length)(h:s.getD i 0=32)(hn:∀j,j<i->s.getD j 0≠32):Zhm s=s.take i::Zhm (s.drop (i+1)):=by
 have hx:Lib.index s [32] = i:=Lib.index_first Kc (by
  rw[ZyS,Yd hi];rw[Yb,Yd hi]at h;simpa using h) fun j hj=>by
  have:=hn j hj;rw[Yb,Yd Kc]at this;rw[ZyS,Yd Kc];simpa using this
 have:((i:Int)== -1)=false:=by simp
 unfold Zhm Lib.split;rw[Lib.count_hit Kd hx,YbA 1,Lib.splitK,hx,this];rfl
def Zk4(s:List UInt8)(a j:Nat):(s.drop a).getD j 0=s.getD (a+j) 0:=by rw[Yb,Yaf,Yb]
def ZzY{s:List UInt8}(hs:s.length<=1000):Fq 45 [.c (.str s)] (.c (Zaw (Zhm s))):=by
 have hm:=vM;refine vE ZFp.h fun C hP hN hC hL=>?_
 simp only[ZFp];refine vR ?_;refine Zbn 3 28 9 1 Kb Kb rfl rfl ?_;simp only[go_sem];refine ZaE (fun p:Nat×Nat×List (List UInt8)=>⟨upd (upd (upd (upd (upd e0 0 (.c (.str s))) 2 (.c (.raw (.slice none 0 0)))) 3 (.gr 28)) 4 (iv p.2.1)) 5 (iv p.1),upd o0 28 (.grow 9 1 (p.2.2.map fun x=>[CD.str x]))⟩)
  (fun p=>p.1<=s.length+1/\p.2.1<=p.1/\p.2.2.length<=p.1/\(∀j,p.2.1<=j->j<p.1->j<s.length->s.getD j 0≠32)/\(p.1<=s.length->p.2.2++Zhm (s.drop p.2.1)=Zhm s)/\(p.1=s.length+1->p.2.2=Zhm s)) (fun p=>s.length+1-p.1) (0,0,[]) ⟨Kc,Yi _,Yi _,Kc,fun _=>rfl,Kc⟩ ?_ ?_
 {refine Zaf (by simp only[go_sem];exact Zaj) (by simp only[go_sem,Yg];exact Zaa)};rintro⟨i,fr,out⟩ ⟨h1,h2,h3,h3',h5,h6⟩;simp only at h1 h2 h3 h3' h5 h6|-;refine vR ?_;refine vC ?_ ?_<;>intro h;{(have hi:i<=s.length:=by simpa using h);clear h6 h;have wi:=vw (n:=(i:Int)+1);(repeat(refine vV ?_;(try simp only[go_sem,hP,Yr]);refine vQ ?_));by_cases hp:i=s.length\/s.getD i 0=32;{refine vC ?_ ?_<;>intro h;{clear h;refine vR4 ?_;refine⟨(i+1,i+1,out++[(s.drop fr).take (i-fr)]),⟨by simp only;omega,Yi _,by simp only[Yw,Yo,YI];omega,fun j hj1 hj2 _=>by simp only at hj1 hj2;omega,fun h=>?_,fun h=>?_⟩,by simp only;omega,?_⟩;{simp only at h|-;have h32:s.getD i 0=32:=hp.resolve_left Kc;(have hcut:=Zw7 (s:=s.drop fr) (i:=i-fr) (by rw[Yac];omega) (by rw[Zk4,Nat.add_sub_cancel' h2];exact h32) fun j hj=>by rw[Zk4];exact h3' (fr+j) Kc Kc Kc);rw[YcQ,show fr+(i-fr+1)=i+1 by omega]at hcut;rw[<-h5 hi,hcut,YO];rfl};{simp only at h|-;(have hil:i=s.length:=by omega);(have hcut:=ZoK (s:=s.drop fr) fun j hj=>by rw[Yac]at hj;rw[Zk4];exact h3' (fr+j) Kc Kc Kc);rw[YG (by rw[Yac];omega),<-h5 hi,hcut]};{rw[Yy];refine Zaf (by simp only[go_sem,wi];exact Zaj) (by simp only[go_sem,Ye,Yg];exact Zaa)}};{exfalso;simp at h;rcases hp with rfl|hp;{exact h.1 rfl};{rw[Yb]at hp;rw[hp]at h;exact h.2 rfl}}};{refine vC ?_ ?_<;>intro h;{exfalso;simp at h;rcases h with h|h;{exact hp (.inl Kc)};{refine hp (.inr (UInt8.toNat_inj.1 ?_));rw[Yb];exact Int.ofNat.inj h}};{refine vW wi ?_;refine⟨(i+1,fr,out),⟨by simp only;omega,by simp only;omega,by simp only;omega,fun j hj1 hj2 hj3=>?_,fun h=>h5 Kc,fun h=>by simp only at h;omega⟩,by simp only;omega,?_⟩;{simp only at hj1 hj2;by_cases hji:j=i;{subst hji;exact fun h=>hp (.inr h)};{exact h3' j hj1 Kc hj3}};{refine Zaf (by simp only[go_sem];exact Zaj) (by simp only[go_sem];exact Zaa)}}}};{(have hi:i=s.length+1:=by(have:¬(i<=s.length):=by simpa using h);omega);rw[h6 hi];(refine vU ?_;try exact trivial)}
def ZFq:Cz [] 46:=ec
def below(s:List UInt8):Bool:=decide (0<s.length)&&decide (s.getD 0 0=45)
def ZjQ(s:List UInt8):Zbp s=if below s=true then s.drop 1 else s:=by(unfold Zbp below Lib.trimPrefix;cases s with|nil=>rfl|cons b r=>by_cases h:b=45;{subst h;rfl};{simp[h,List.isPrefixOf,BEq.comm,Lib.hasPrefix]})
def dv(l:List UInt8):Int:=l.foldl (fun a b=>10*a+((b.toNat:Int)-48)) 0
def Zr0{l:List UInt8}{k:Nat}(h:k<l.length):dv (l.take (k+1))=10*dv (l.take k)+(((l.getD k 0).toNat:Int)-48):=by rw[Yq h,Yb,Yd h];unfold dv;rw[YaO];rfl
def Zw8:∀(l:List UInt8)(acc m:Nat),Lib.decFrom acc l=some m->l.foldl (fun a b=>10*a+((b.toNat:Int)-48)) (acc:Int)=m
 |[],acc,m,h=>by simp only[Lib.decFrom,Ya]at h;rw[h];rfl
 |b::r,acc,m,h=>by simp only[Lib.decFrom,Lib.digitVal]at h;by_cases hb:48<=b.toNat/\b.toNat<=57;{rw[Yt hb]at h;have:=Zw8 r _ m h;simp only[Yav];rw[<-this];congr 1;omega};{rw[Yx hb]at h;cases h}
def ZoL{l:List UInt8}:∀k,k<=l.length->k<=9->(l.take k).all dgt=true->0<=dv (l.take k)/\dv (l.take k)<10^k
 |0,_,_,_=>by simp[dv]
 |k+1,h,h9,ha=>by rw[ZcJ dgt l k Kc,Yf]at ha;have ih:=ZoL k Kc Kc ha.1;have hd:=ha.2;unfold dgt at hd;simp only[Yf,Yl]at hd;rw[Zr0 Kc,Int.pow_succ];omega
def ZyR{s:List UInt8}(h:Zb4 s=true):ZlA s=if below s=true then-(dv (Zbp s))else dv (Zbp s):=by obtain⟨h1,h2,h3,h4⟩:=ZiG h;have ha:=Zry h;obtain⟨m,hm⟩:=ZdQ (Zbp s) 0 h4;have hdv:=Zw8 _ _ _ hm;change dv (Zbp s)=m at hdv;rw[hdv];(have hne:Zbp s≠[]:=fun h=>by rw[h]at h1;cases h1);(have hdn:Lib.decNat (Zbp s)=some m:=by unfold Lib.decNat;rw[List.isEmpty_eq_false_iff.2 hne];exact hm);(have hb:=ZjQ s;cases s with|nil=>exact absurd rfl hne|cons b r=>by_cases h45:b=45;{subst h45;have e:below (45::r)=true:=rfl;rw[e,Yt rfl]at hb;rw[e,Yt rfl];rw[hb]at hdn;simp only[YaI,Yat]at hdn;simp only[Lib.atoi,YN,YJ,hdn,YR,Ya]at ha;exact ha.symm};{(have e:below (b::r)=false:=by simp[below,h45]);rw[e]at hb|-;simp only[Yp,YA]at hb|-;rw[hb]at hdn h4;(have h43:b≠43:=by rintro rfl;simp[dgt]at h4);(have e1:(b==45)=false:=by simpa using h45);(have e2:(b==43)=false:=by simpa using h43);simp only[Lib.atoi,e1,e2,hdn,YR,Yp,YA,Ya]at ha;exact ha.symm})
def ZzZ{n:Int}(h:0<=n/\n<256):IntKind.u8.wrap n=n:=by simp[IntKind.wrap,IntKind.bits,IntKind.signed];omega
def ZtK{s:List UInt8}(hs:s.length<=1000):Fq 46 [.c (.str s)] (.tup [iv (ZlA s),.c (.bool (Zb4 s))]):=by have hm:=vM;have hdb:=ZjQ s;(have hdl:(Zbp s).length<=s.length:=by unfold Zbp Lib.trimPrefix;split<;>simp);refine vE ZFq.h fun C hP hN hC hL=>?_;simp only[ZFq];refine vR ?_;(have e4:(decide ((0:Int)<s.length)&&((((s.getD (Int.toNat 0) 0).toNat:Nat):Int)==45))=below s:=by unfold below;congr 1;{exact decide_eq_decide.2 Kc};{by_cases h:s.getD 0 0=45;{simp only[Ybu,h];rfl};{simp only[Ybu,h,decide_false,Yb3,ne_eq];intro h2;exact h (UInt8.toNat_inj.1 (Int.ofNat.inj h2))}});refine ZcB (fun σ'=>Sub σ' ⟨upd (upd (upd (upd (upd e0 0 (.c (.str s))) 2 (iv 0)) 3 (.c (.bool false))) 4 (.c (.bool (below s)))) 5 (.c (.str (Zbp s))),o0⟩) ?_ ?_;{(cases hb:below s with|true=>rw[hb]at e4 hdb;rw[Yt rfl]at hdb;rw[hdb];(have hl:0<s.length:=by unfold below at hb;simp only[Yf,Yl]at hb;exact hb.1);refine vC ?_ ?_<;>intro h;{(repeat(refine vV ?_;(try simp only[go_sem,hP,e4,Ybh]);refine vQ ?_));refine Zaf (by simp only[go_sem,e4,Ybh];exact vEr) (by simp only[go_sem];exact Zaa)};{rw[e4]at h;cases h}|false=>rw[hb]at e4 hdb;rw[Yx Kb]at hdb;rw[hdb];refine vC ?_ ?_<;>intro h;{rw[e4]at h;cases h};{refine vW e4 ?_;refine Zaf (by simp only[go_sem,e4];exact vEr) (by simp only[go_sem];exact Zaa)})};intro σ' hs';refine Zav hs' ?_;refine vR ?_;refine⟨fun h=>⟨h,fun h2=>⟨h,by simp[h2]⟩⟩,fun h=>⟨h,fun h2=>⟨h,h2⟩⟩,fun h=>by rw[h];rfl,?_⟩;(have eB:(decide (((Zbp s).length:Int)<1)||decide (9<((Zbp s).length:Int))||((((Zbp s).getD (Int.toNat 0) 0).toNat:Int)==48&&(below s||decide (1<((Zbp s).length:Int)))))=ZdF s:=by(unfold ZdF;rw[show decide (((Zbp s).length:Int)<1)=(((Zbp s).length:Int)==0)from decide_eq_decide.2 Kc];cases hz:(((Zbp s).length:Int)==0)with|true=>simp only[YcX]|false=>(have hz':¬((Zbp s).length:Int)=0:=by simpa using hz);congr 2;(rw[Yaq];cases hb:below s with|true=>rw[hb,Yt rfl]at hdb;have:=congrArg List.length hdb;rw[Yac]at this;simp;omega|false=>rw[hb,Yx Kb]at hdb;rw[hdb];simp)));(refine Zav (σ':=⟨upd (upd (upd (upd (upd (upd e0 0 (.c (.str s))) 2 (iv 0)) 3 (.c (.bool false))) 4 (.c (.bool (below s)))) 5 (.c (.str (Zbp s)))) 40 (.c (.bool (ZdF s))),o0⟩) (Zaf (by simp only[go_sem];(refine vEz ?_;first|trivial|exact AWk.of (by rw[eB]))) (by simp only[go_sem];exact Zaa)) ?_;cases hb:ZdF s with|true=>(have hok:Zb4 s=false:=by unfold Zb4;rw[hb];rfl);(have hv:ZlA s=0:=by unfold ZlA;rw[hok];rfl);rw[hok,hv];refine vC ?_ ?_<;>intro h;{exact vUt};{cases h}|false=>(have hd9:(Zbp s).length<=9:=by unfold ZdF at hb;simp at hb;omega);refine vD ?_;refine vR ?_;refine ZaE (fun k:Nat=>⟨upd (upd (upd (upd (upd (upd e0 2 (iv 0)) 3 (.c (.bool false))) 4 (.c (.bool (below s)))) 5 (.c (.str (Zbp s)))) 6 (iv (dv ((Zbp s).take k)))) 7 (iv k),o0⟩) (fun k=>k<=(Zbp s).length/\((Zbp s).take k).all dgt=true) (fun k=>(Zbp s).length-k) 0 ⟨YC _,rfl⟩ ?_ ?_;{(refine Zaf (by simp only[go_sem];exact vEr) (by simp only[go_sem];exact Zaa))};rintro k ⟨hk,hr⟩;have hbd:=ZoL (l:=Zbp s) k hk Kc hr;(have hpw:(10:Int)^k<=1000000000:=by(have:k=0\/k=1\/k=2\/k=3\/k=4\/k=5\/k=6\/k=7\/k=8\/k=9:=by omega);rcases this with rfl|rfl|rfl|rfl|rfl|rfl|rfl|rfl|rfl|rfl<;>decide);refine vR ?_;refine vC ?_ ?_<;>intro h;{(have hi:k<(Zbp s).length:=by simpa using h);have hw:=vw (n:=(k:Int)+1);have hts:=ZcJ dgt (Zbp s) k hi;have hsn:=Zr0 hi;rw[hr,YV]at hts;(have hfail:dgt ((Zbp s).getD k 0)=false->Zb4 s=false:=fun h=>by unfold Zb4;(have:(Zbp s).all dgt=false:=by(cases hx:(Zbp s).all dgt with|false=>rfl|true=>have:=Yn.1 hx ((Zbp s).getD k 0) (by rw[Yb,Yd hi];exact Yv hi);rw[h]at this;cases this));rw[this,Yai]);obtain⟨z,hz⟩:∃z,(Zbp s).getD k 0=z:=⟨_,rfl⟩;rw[hz]at hts hsn hfail;(repeat(refine vV ?_;(try simp only[go_sem,hP,Yr,hz]);refine vQ ?_));generalize dv ((Zbp s).take k)=d at hbd hsn|-;by_cases hdg:dgt z=true;{rw[hdg]at hts;unfold dgt at hdg;simp only[Yf,Yl]at hdg;have w1:IntKind.u8.wrap ((z.toNat:Int)-48)=(z.toNat:Int)-48:=ZzZ Kc;have w2:=vw (n:=(z.toNat:Int)-48);have w3:=vw (n:=10*d);have w4:=vw (n:=10*d+((z.toNat:Int)-48));refine vC ?_ ?_<;>intro h;{simp at h;omega};(repeat(refine vV ?_;(try simp only[go_sem,hP,hw,Yr,hz,w1,w2,w3,w4]);refine vQ ?_));refine⟨k+1,⟨Kc,hts⟩,Kc,?_⟩;rw[hsn];(refine Zaf (by simp only[go_sem];exact vEr) (by simp only[go_sem];exact Zaa))};{(have hdg':dgt z=false:=by simpa using hdg);have hok:=hfail hdg';(have hv:ZlA s=0:=by unfold ZlA;rw[hok];rfl);rw[hok,hv];unfold dgt at hdg';simp only[YbM,Yax]at hdg';refine vC ?_ ?_<;>intro h;{exact vUt};{simp at h;omega}}};{(have hkl:k=(Zbp s).length:=by(have:¬(k<(Zbp s).length):=by simpa using h);omega);subst hkl;rw[YL]at hr hbd|-;(have hok:Zb4 s=true:=by unfold Zb4;rw[hb,hr];rfl);(have hv:=ZyR hok;rw[hok,hv];refine vR ?_;cases hbl:below s with|true=>refine vC ?_ ?_<;>intro h;{have wn:=vw (n:=-(dv (Zbp s)));(repeat(refine vV ?_;(try simp only[go_sem,hP,wn,Int.zero_sub]);refine vQ ?_));(refine vT ?_;try exact trivial)};{cases h}|false=>refine vC ?_ ?_<;>intro h;{cases h};{exact vUt})})
end Go.Proofs.YtcggfogkfhlmlaaGreatDoor
