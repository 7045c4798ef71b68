
import Derived.Test.YtcggfogkfhlmlaaGreatDoorU15
import Derived.Test.YtcggfogkfhlmlaaGreatDoorU9
set_option linter.unusedVariables false
set_option linter.defProp false
set_option linter.unusedSimpArgs false
set_option maxRecDepth 100000
set_option maxHeartbeats 8000000
namespace Go.Proofs.YtcggfogkfhlmlaaGreatDoor
open Go Go.V
def Cl(w:Wh)(A:Bag)(s:Seen×List Pt):Prop:=∀x∈sks s.1,x∈s.2\/((∀e∈ZjA x,trim A e.2∈sks s.1)/\∀e∈Zcr w A x w.co.length,trim A e.2∈sks s.1)
def Zr7{w:Wh}{A:Bag}{S:Seen}{x:Pt}{q:List Pt}(h:Cl w A (S,x::q)):Cl w A (ZbK w A x (S,q))/\∀z∈sks S,z∈sks (ZbK w A x (S,q)).1:=by have g1:=ZcS A x (ZjA x) (S,q);have g2:=ZcS A x (Zcr w A x w.co.length) (Za6 A x (ZjA x) (S,q));have g:Grew (S,q) (ZbK w A x (S,q)):=g1.1.trans g2.1;refine⟨fun z hzs=>?_,g.m⟩;rcases g.n z hzs with h1|h1;{rcases h z h1 with h2|⟨h2,h3⟩;{rcases YF.1 h2 with rfl|h2;{exact .inr ⟨fun e he=>g2.1.m _ (g1.2 e he),fun e he=>g2.2 e he⟩};{exact .inl (g.q z h2)}};{exact .inr ⟨fun e he=>g.m _ (h2 e he),fun e he=>g.m _ (h3 e he)⟩}};{exact .inl h1}
def Zw0{w:Wh}(hw:WhOk w){A:Bag}(hA:BagOk A):∀(n:Nat)(s:Seen×List Pt),SeenOk w.ro A s->Cl w A s->s.2.length+238291875000<=n+s.1.length->Cl w A (bfs w A n s,[])/\∀z∈sks s.1,z∈sks (bfs w A n s)
 |n,(S,[]),h,hj,_=>by rw[Znl];exact⟨hj,fun _ h=>h⟩
 |0,(S,x::q),h,hj,hl=>by have:=(h.len hA hw.ro.2).1;simp only[Yo]at hl this;omega
 |n+1,(S,x::q),h,hj,hl=>by
  have he:=ZdA hw hA h;have hJ:=Zr7 hj;have ih:=Zw0 hw hA n (ZbK w A x (S,q)) he.1 hJ.1 (by
   have:=he.2;simp only[Yo]at hl this|-;omega)
  refine⟨ih.1,fun z hzs=>ih.2 z (hJ.2 z hzs)⟩
def Zod{w:Wh}(hw:WhOk w){A:Bag}(hA:BagOk A):p00∈sks (Zcc w A)/\∀x∈sks (Zcc w A),(∀e∈ZjA x,trim A e.2∈sks (Zcc w A))/\∀e∈Zcr w A x w.co.length,trim A e.2∈sks (Zcc w A):=by(have h0:Cl w A ([(p00,(-2:Int),p00)],[p00]):=fun x hx=>by simp only[sks,Ye,Yg,Yk]at hx;exact .inl (by simp[hx]));have h:=Zw0 hw hA 476583750002 _ (ZeB hw hA) h0 Kd;refine⟨h.2 _ (by simp[sks]),fun x hx=>?_⟩;rcases h.1 x hx with h1|h1;{cases h1};{exact h1}
structure Sim(A:Bag)(pl cr bo:Int)(g:Bag)(x:Pt):Prop where
 hbag:x.bag=g
 hbo:x.bo=bo
 hpl:g.many<A.many->x.pl=pl
 c1:g.many<A.many->0<pl->min cr (A.many-g.many)<=x.cr
 c0:g.many<A.many->min cr (A.many-g.many-1)<=x.cr
def Sim.press{w:Wh}(hw:WhOk w){A:Bag}(hA:BagOk A){pl cr bo:Int}{g:Bag}{x:Pt}(h:Sim A pl cr bo g x)(hx:x∈sks (Zcc w A))(hcr:0<cr)(hpl:0<=pl):∃y∈sks (Zcc w A),Sim A 0 (cr-1) bo g y:=by by_cases hm:g.many<A.many;{by_cases hp:0<pl;{have h1:=h.c1 hm hp;have h2:=h.hpl hm;have hs:=((Zod hw hA).2 x hx).1 (-1,x.with 0 (x.cr-1) x.bag x.bo) (by unfold ZjA;rw[Yt ⟨Kc,Kc⟩];simp);refine⟨_,hs,?_⟩;have e:(x.with 0 (x.cr-1) x.bag x.bo).bag=x.bag:=rfl;refine⟨h.hbag,h.hbo,fun _=>rfl,fun _ h=>absurd h Kb,fun _=>?_⟩;show min (cr-1) (A.many-g.many-1)<=min (x.cr-1) (A.many-(x.with 0 (x.cr-1) x.bag x.bo).bag.many);rw[e,h.hbag];omega};{(have h0:pl=0:=by omega);subst h0;refine⟨x,hx,h.hbag,h.hbo,h.hpl,fun _ h=>absurd h Kb,fun hm=>?_⟩;have:=h.c0 hm;omega}};{exact⟨x,hx,h.hbag,h.hbo,fun h'=>absurd h' hm,fun h'=>absurd h' hm,fun h'=>absurd h' hm⟩}
def Sim.coin{w:Wh}(hw:WhOk w){A:Bag}(hA:BagOk A){pl cr bo:Int}{g:Bag}{x:Pt}(h:Sim A pl cr bo g x)(hx:x∈sks (Zcc w A)){k:Nat}(hk:k<w.co.length)(hcr:0<=cr)(hne:g.at k≠A.at k)(hm:g.many<A.many):∃y∈sks (Zcc w A),Sim A ((pl+w.co.getD k 0) % w.ro) (cr+plays w pl (w.co.getD k 0)) (bo+plays w pl (w.co.getD k 0)) (g.inc k) y:=by
 have h2:=h.hpl hm;have h0:=h.c0 hm;have hk4:k<4:=by have:=hw.cl;omega
 have hc:0<=w.co.getD k 0:=by
  rw[Yb,Yd hk];have:=hw.co _ (Yv hk);exact Yb5 Kb this.1
 have hp:=(Zdk hw (p:=pl) hc).1;have hs:=((Zod hw hA).2 x hx).2 ((k:Int),x.with ((x.pl + w.co.getD k 0) % w.ro) (x.cr + plays w x.pl (w.co.getD k 0)) (x.bag.inc k) (x.bo + plays w x.pl (w.co.getD k 0))) (by
  unfold Zcr;rw[Ya7];refine⟨k,Yaj.2 hk,?_⟩;unfold Zig;rw[h.hbag,Yx hne];simp)
 refine⟨_,hs,?_⟩;have e:(x.with ((x.pl+w.co.getD k 0) % w.ro) (x.cr+plays w x.pl (w.co.getD k 0)) (x.bag.inc k) (x.bo+plays w x.pl (w.co.getD k 0))).bag=x.bag.inc k:=rfl;have hmi:=Zk7 g hk4;have hcr2:(trim A (x.with ((x.pl+w.co.getD k 0) % w.ro) (x.cr+plays w x.pl (w.co.getD k 0)) (x.bag.inc k) (x.bo+plays w x.pl (w.co.getD k 0)))).cr=min (x.cr+plays w pl (w.co.getD k 0)) (A.many-(g.inc k).many):=by
  show min (x.cr+plays w x.pl _) (A.many-_)=_;rw[e,h.hbag,h2]
 refine⟨?_,?_,fun _=>?_,fun _ _=>?_,fun _=>?_⟩
 ·show x.bag.inc k=_;rw[h.hbag]
 ·show x.bo+plays w x.pl _=_;rw[h2,h.hbo]
 ·show(x.pl+_) % _=_;rw[h2]
 ·rw[hcr2,hmi];omega
 ·rw[hcr2,hmi];omega
def bagB(b:Bar):Bag:=pur b.box []
def Zze{b:Bx}(h:b.fo.length=b.sl.length)(i:Nat):(ZbN b).getD i 0=b.fo.getD i 0+b.sl.getD i 0:=by unfold ZbN Zgm;rw[Yb,Yb,Yb,List.getElem?_zipWith];by_cases hi:i<b.fo.length;{rw[Yd hi,Yd Kc];rfl};{rw[YW Kc,YW Kc];rfl}
def Zrz{b:Bar}(h:b.box.fo.length=b.box.sl.length){k:Nat}(hk:k<4):(bagB b).at k=b.box.fo.getD k 0+b.box.sl.getD k 0:=by(have:k=0\/k=1\/k=2\/k=3:=by omega);(have e:∀i,(ZbN b.box).getD i 0+([]:List Int).getD i 0=b.box.fo.getD i 0+b.box.sl.getD i 0:=fun i=>by rw[Zze h];simp);rcases this with rfl|rfl|rfl|rfl;{exact e 0};{exact e 1};{exact e 2};{exact e 3}
def ZrA{x y:Bag}(h:∀k,k<4->x.at k=y.at k):x=y:=by have k0:=h 0 Kc;have k1:=h 1 Kc;have k2:=h 2 Kc;have k3:=h 3 Kc;cases x;cases y;simp only[Bag.at,Bag.l,YaN,Yak]at k0 k1 k2 k3|-;rw[k0,k1,k2,k3]
def Zst(x:Bag){k i:Nat}(hk:k<4)(hi:i<4):(x.inc k).at i=x.at i+if i=k then 1 else 0:=by(have h1:k=0\/k=1\/k=2\/k=3:=by omega);(have h2:i=0\/i=1\/i=2\/i=3:=by omega);rcases h1 with rfl|rfl|rfl|rfl<;>rcases h2 with rfl|rfl|rfl|rfl<;>simp[Bag.inc,Bag.at,Bag.l]
def ZrE(c:Bool)(l:List Int)(k:Nat)(hk:k<l.length)(i:Nat):(bmp c l k).getD i 0=l.getD i 0+if c=true/\i=k then 1 else 0:=by unfold bmp;cases c;{simp};{simp only[YJ,Zn5 l k _ hk i];split;{rename_i h;subst h;simp};{rename_i h;simp[h]}}
structure PutF(b b':Bar)(k:Nat):Prop where
 lt:k<b.box.wh.co.length
 wh:b'.box.wh=b.box.wh
 pl:b'.pl=(b.pl+b.box.wh.co.getD k 0) % b.box.wh.ro
 cr:b'.cr=b.cr+plays b.box.wh b.pl (b.box.wh.co.getD k 0)
 bo:b'.box.pl=b.box.pl+plays b.box.wh b.pl (b.box.wh.co.getD k 0)
 bag:bagB b'=(bagB b).inc k
def ZiZ{t:Nat}{b b':Bar}(hB:Za5 b=true){n:Int}(h:ZeR t b n=some b'):∃k,PutF b b' k:=by obtain⟨hb,_⟩:=Zdo hB;have hcl:=hb.wh.cl;unfold ZeR at h;split at h;{rename_i hc;obtain⟨h1,h2,_⟩:=hc;obtain⟨k,rfl⟩:=YaM h1;(have hk:k<b.box.wh.co.length:=by omega);rw[ZtP hB hk,Yr]at h;cases h;refine⟨k,hk,rfl,rfl,rfl,?_,?_⟩;{simp only;omega};{have e1:=hb.fl;have e2:=hb.sl;refine ZrA fun i hi=>?_;rw[Zrz (by simp only[ZhV];omega) hi,Zst _ Kc hi,Zrz Kc hi];simp only;rw[ZrE _ _ _ Kc,ZrE _ _ _ Kc];by_cases ht:t=2;{subst ht;simp;omega};{(have e1:(t==2)=false:=by simpa using ht);(have e2:(t !=2)=true:=by simpa using ht);rw[e1,e2];simp;omega}}};{cases h}
def ZnU{b b':Bar}{x y:Int}(h:ZcD b x y=some b'):0<b.cr/\b'.pl=0/\b'.cr=b.cr-1/\b'.box=b.box:=by unfold ZcD at h;split at h;{rename_i hc;obtain⟨_,h2,h3⟩:=hc;cases h;(have hr:Ze8 b.box.wh b.pl b.cr [-1]=(Zki b.box.wh b.pl b.cr [-1],0):=by unfold Ze8 at h2|-;split;{rfl};{rename_i hx;rw[Yx hx]at h2;exact absurd h2 hx});have h4:Zki b.box.wh b.pl b.cr [-1]=((ZeX b.box.wh b.pl b.cr (-1)).1,(ZeX b.box.wh b.pl b.cr (-1)).2,0+if(-1:Int)= -1/\0<b.cr then 1 else 0):=rfl;rw[hr,h4]at h3;(have hcr:0<b.cr:=by rcases Int.lt_or_le 0 b.cr with h|h;{exact h};{simp only at h3;rw[Yx Kc]at h3;exact absurd rfl h3});rw[hr,h4];unfold ZeX;rw[Yt rfl,Yt hcr];exact⟨hcr,rfl,rfl,rfl⟩};{cases h}
def okL(s:List UInt8):Prop:=∀w ns,ZaA s=some (w,ns)->w≠Zqu/\w≠ZmV/\w≠ZbQ
def Zkp{b:Bar}(hB:Za5 b=true){s:List UInt8}(hs:okL s):(Zao b s).2=b\/(∃k,PutF b (Zao b s).2 k)\/(0<b.cr/\(Zao b s).2.pl=0/\(Zao b s).2.cr=b.cr-1/\(Zao b s).2.box=b.box):=by rcases ZdS b s with⟨h,_⟩|⟨_,_,_,w,ns,hp,h⟩;{exact .inl h};{obtain⟨n1,n2,n3⟩:=hs w ns hp;rcases h with⟨_,h⟩|⟨_,h⟩|⟨_,h⟩|⟨_,h⟩|⟨h',h⟩|⟨h',h⟩|⟨h',h⟩;{exact .inr (.inl (ZiZ hB h))};{exact .inr (.inl (ZiZ hB h))};{exact .inr (.inl (ZiZ hB h))};{exact .inr (.inr (ZnU h))};{exact absurd h' n1};{exact absurd h' n2};{exact absurd h' n3}}
def Zm0{b:Bar}(hB:Za5 b=true){s:List UInt8}(hs:okL s):(Zao b s).2.box.wh=b.box.wh/\∀k,k<4->(bagB b).at k<=(bagB (Zao b s).2).at k:=by rcases Zkp hB hs with h|⟨k,h⟩|⟨_,_,_,h⟩;{rw[h];exact⟨rfl,fun _ _=>Yar _⟩};{refine⟨h.wh,fun i hi=>?_⟩;have hk:=h.lt;have hcl:=(Zdo hB).1.wh.cl;rw[h.bag,Zst _ Kc hi];split<;>omega};{refine⟨by rw[h],fun k hk=>?_⟩;unfold bagB;rw[h];exact Yar _}
def Zlt:∀(l:List (List UInt8)){b:Bar},Za5 b=true->(∀s∈l,okL s)->(ZaU Zao b l).2.box.wh=b.box.wh/\∀k,k<4->(bagB b).at k<=(bagB (ZaU Zao b l).2).at k
 |[],b,_,_=>⟨rfl,fun _ _=>Yar _⟩
 |s::l,b,hB,hl=>by have h1:=Zm0 hB (hl s Kd);have h2:=Zlt l (Zhu hB s) fun x hx=>hl x (by simp[hx]);rw[ZbC];refine⟨h2.1.trans h1.1,fun k hk=>Yb5 (h1.2 k hk) (h2.2 k hk)⟩
def ZyG{x y:Bag}(h:∀k,k<4->x.at k<=y.at k):x.many<=y.many:=by have k0:=h 0 Kc;have k1:=h 1 Kc;have k2:=h 2 Kc;have k3:=h 3 Kc;simp only[Bag.at,Bag.l,YaN,Yak]at k0 k1 k2 k3;unfold Bag.many;omega
def ZtW{w:Wh}(hw:WhOk w){A:Bag}(hA:BagOk A):∀(l:List (List UInt8)){b:Bar}{x:Pt},Za5 b=true->b.box.wh=w->(∀s∈l,okL s)->bagB (ZaU Zao b l).2=A->Sim A b.pl b.cr b.box.pl (bagB b) x->x∈sks (Zcc w A)->∃y∈sks (Zcc w A),Sim A (ZaU Zao b l).2.pl (ZaU Zao b l).2.cr (ZaU Zao b l).2.box.pl A y
 | [],b,x,_,_,_,hg,hs,hx => ⟨x,hx,by
  have hg:bagB b=A:=hg;rw[hg]at hs;exact hs⟩
 |s::l,b,x,hB,hwh,hl,hg,hs,hx=>by rw[ZbC]at hg|-;have hB':=Zhu hB s;have hm:=Zlt l hB' fun x hx=>hl x (by simp[hx]);have hl':∀s∈l,okL s:=fun x hx=>hl x (by simp[hx]);simp only at hg|-;rw[hg]at hm;have h1:=Zm0 hB (hl s Kd);obtain⟨hp,hc⟩:=ZrC hB;(have key:∃y∈sks (Zcc w A),Sim A (Zao b s).2.pl (Zao b s).2.cr (Zao b s).2.box.pl (bagB (Zao b s).2) y:=by rcases Zkp hB (hl s Kd)with h|⟨k,h⟩|⟨h2,h3,h4,h5⟩;{rw[h];exact⟨x,hx,hs⟩};{have hk:=h.lt;(have hk4:k<4:=by have:=hw.cl;rw[hwh]at hk;omega);have h6:=hm.2 k hk4;rw[h.bag,Zst _ hk4 hk4,Yt rfl]at h6;have h7:=ZyG hm.2;rw[h.bag,Zk7 _ hk4]at h7;have:=Sim.coin hw hA hs hx (k:=k) (by rw[<-hwh];exact hk) hc.1 Kc Kc;rw[h.pl,h.cr,h.bo,h.bag,hwh];exact this};{have:=Sim.press hw hA hs hx h2 hp.1;(have e:bagB (Zao b s).2=bagB b:=by unfold bagB;rw[h5]);rw[h3,h4,h5,e];exact this});obtain⟨y,hy,hys⟩:=key;exact ZtW hw hA l hB' (h1.1.trans hwh) hl' hg hys hy
def Zm7{b:Bar}(hB:Za5 b=true){l:List (List UInt8)}(hl:∀s∈l,okL s):Zcu (ZaU Zao (ZaR b) l).2.box=(0,0)/\Zd8 (ZaU Zao (ZaR b) l).2.box=0/\(ZaU Zao (ZaR b) l).2.box.pl∈Zek (ZaU Zao (ZaR b) l).2.box:=by have hE:=ZeK hB;have hR:=ZdY hE l;obtain⟨hb,q⟩:=Zdo hR;obtain⟨hbE,_⟩:=Zdo hE;have hA:=Zke hb (ZiT _ hb);have hm:=Zlt l hE hl;(have hbag:bagB (ZaR b)=⟨0,0,0,0⟩:=ZrA fun k hk=>by rw[Zrz (by simp[ZaR]) hk];(show(List.replicate _ 0).getD k 0+(List.replicate _ 0).getD k 0=_;rw[Zi5];have:k=0\/k=1\/k=2\/k=3:=by omega);rcases this with rfl|rfl|rfl|rfl<;>rfl);have hw:WhOk (ZaR b).box.wh:=hbE.wh;have hp0:=(Zod hw (A:=bagB (ZaU Zao (ZaR b) l).2) hA).1;(have hs:Sim (bagB (ZaU Zao (ZaR b) l).2) (ZaR b).pl (ZaR b).cr (ZaR b).box.pl (bagB (ZaR b)) p00:=by rw[hbag];refine⟨rfl,rfl,fun _=>rfl,fun _ h=>absurd h (Int.lt_irrefl 0),fun h=>?_⟩;show min (0:Int) _<=0;omega);obtain⟨y,hy,hsim⟩:=ZtW hw hA l hE rfl hl rfl hs hp0;obtain⟨e,he,rfl⟩:=Ys.1 hy;refine ZpJ q ⟨e,?_,hsim.hbag,hsim.hbo⟩;rw[hm.1];exact he
end Go.Proofs.YtcggfogkfhlmlaaGreatDoor
