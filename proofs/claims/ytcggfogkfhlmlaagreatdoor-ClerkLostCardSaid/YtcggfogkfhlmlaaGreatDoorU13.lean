
import Derived.Test.YtcggfogkfhlmlaaGreatDoorU10
import Derived.Test.YtcggfogkfhlmlaaGreatDoorU9
set_option linter.unusedVariables false
set_option linter.defProp false
set_option linter.unusedSimpArgs false
set_option maxRecDepth 100000
set_option maxHeartbeats 8000000
namespace Go.Proofs.YtcggfogkfhlmlaaGreatDoor
open Go Go.V
def Zi5(n k:Nat):(List.replicate n (0:Int)).getD k 0=0:=by rw[Yb,List.getElem?_replicate];split<;>rfl
def Zkf:∀(m:Nat)(p:List Int)(lf:Nat),∃t,ZcI m p lf=(p++List.replicate m 0)::t
 |0,p,lf=>⟨[],by simp[ZcI]⟩
 |m+1,p,lf=>by obtain⟨t,ht⟩:=Zkf m (p++[(0:Int)]) lf;refine⟨t++((List.range lf).map (·+1)).flatMap fun(n:Nat)=>ZcI m (p++[(n:Int)]) (lf-n),?_⟩;have e:List.range (lf+1)=0::(List.range lf).map (·+1):=List.range_succ_eq_map;simp only[ZcI];rw[e,List.flatMap_cons];have ht':ZcI m (p++[((0:Nat):Int)]) (lf-0)=(p++[(0:Int)]++List.replicate m 0)::t:=ht;rw[ht',YH,YO,YP];rfl
def Zmi{b:Bx}(hw:WhOk b.wh){z:List Int}(hz:ZaD b.wh z=0):∀(l F:List (List Int)),(∀q∈l,PurOk b q)->0<F.length->F.getD 0 []=z->(l.foldl (Zgo b) F).getD 0 []=z/\0<(l.foldl (Zgo b) F).length
 |[],F,_,h1,h2=>⟨h2,h1⟩
 |p::l,F,hl,h1,h2=>by rw[Yav];have hp:=hl p Kd;have hwo:=Zd5 hw hp.len (Zto hp);refine Zmi hw hz l _ (fun q hq=>hl q (by simp[hq])) ?_ ?_;{unfold Zgo;split;{exact h1};{split;{split<;>simp};{exact h1}}};{unfold Zgo;split;{exact h2};{split;{split;{rename_i h;rw[h2,hz]at h;simp only[Yf,Yl]at h;omega};{rw[Yb,Y3 h1,<-Yb];exact h2}};{exact h2}}}
def Zjf(w:Wh)(n:Nat):∀k,Zcf w (List.replicate n 0) k=0
 |0=>rfl
 |k+1=>by simp only[Zcf,Zjf w n k,Zi5];simp
def Zky(w:Wh)(n:Nat):ZaD w (List.replicate n 0)=0:=Zjf w n _
def ZsS{b:Bx}(h:bxB b=true)(hh:Zqm b (pur b [])=true):Zcu b=(0,0):=by have hb:=Zbc h;obtain⟨t,ht⟩:=Zkf b.wh.co.length [] 2;have hz:=Zky b.wh b.wh.co.length;(have hpz:pur b (List.replicate b.wh.co.length 0)=pur b []:=by simp only[pur,Zi5];rfl);have hall:=ZhA (b:=b) b.wh.co.length [] 2 Kd Kd Kd;rw[YM]at ht;(have h1:Zgo b [] (List.replicate b.wh.co.length 0)=[List.replicate b.wh.co.length 0]:=by unfold Zgo;rw[hpz,hh];rfl);have h2:=Zmi hb.wh hz t [List.replicate b.wh.co.length 0] (fun q hq=>hall q (by rw[ht];simp[hq])) Kd rfl;(have h3:fndAll b=t.foldl (Zgo b) [List.replicate b.wh.co.length 0]:=by unfold fndAll;rw[ht,Yav,h1]);unfold Zcu;rw[Yt h,h3,Yx (YaJ.1 h2.2),h2.1,hz]
def ZgY:∀(l:List Int)(a:Int),a<=l.foldl max a/\∀n∈l,n<=l.foldl max a
 |[],a=>⟨Yar a,fun n h=>by cases h⟩
 |x::l,a=>by have h:=ZgY l (max a x);rw[Yav];refine⟨by have:=h.1;omega,fun n hn=>?_⟩;rcases YF.1 hn with rfl|hn;{have:=h.1;omega};{exact h.2 n hn}
def ZpJ{b:Bx}(h:bxB b=true)(he:∃e∈Zcc b.wh (pur b []),e.1.bag=pur b []/\e.1.bo=b.pl):Zcu b=(0,0)/\Zd8 b=0/\b.pl∈Zek b:=by obtain⟨e,he,h1,h2⟩:=he;have hb:=Zbc h;(have hmem:b.pl∈Zek b:=by unfold Zek;rw[Zfv,YbK,Ys];exact⟨e,Ybj.2 ⟨he,by simpa using h1⟩,h2⟩);refine⟨ZsS h ?_,?_,hmem⟩;{unfold Zqm;rw[Ybn];refine⟨e,he,?_⟩;rw[h1,h2];have:=hb.sk;simp only[Yb4,YV,Zad,Yf,Yl];omega};{unfold Zd8 Zph;rw[YL];have:=(ZgY (Zek b) ((Zek b).getD 0 0)).2 _ hmem;omega}
def ZvE(w:Wh):Zgq w (List.replicate w.co.length 0)=true:=by unfold Zgq;rw[Ybe,YN,Ybq,Ybp,YaB,YaU];intro n hn;rw[List.eq_of_mem_replicate hn];decide
def ZsV(n:Nat):∀k,mkK (List.replicate n 0) (List.replicate n 0) k=true
 |0=>rfl
 |k+1=>by simp only[mkK,ZsV n k,Zi5];rfl
def Zm1(n:Nat):∀k,sumK (List.replicate n 0) (List.replicate n 0) k=0
 |0=>rfl
 |k+1=>by simp only[sumK,Zm1 n k,Zi5];rfl
def ZeK{b:Bar}(hb:Za5 b=true):Za5 (ZaR b)=true:=by unfold Za5 at hb|-;simp only[Yf,Yl]at hb|-;obtain⟨h1,h2,h3,h4,h5,h6⟩:=hb;have hok:=Zbc h1;have hro:=hok.wh.ro;refine⟨?_,h2,Yar 0,?_,Yar 0,(by decide:(0:Int)<=20)⟩;{have hz:=ZvE b.box.wh;simp only[bxB,Yf,Yl]at h1|-;obtain⟨⟨⟨⟨⟨⟨⟨k1,k2⟩,k3⟩,k4⟩,k5⟩,k6⟩,k7⟩,k8⟩:=h1;refine⟨⟨⟨⟨⟨⟨⟨k1,rfl⟩,k3⟩,hz⟩,hz⟩,hz⟩,ZsV _ _⟩,?_⟩;show sumK (List.replicate b.box.wh.co.length 0) (List.replicate b.box.wh.co.length 0) _<=12;rw[Zm1];decide};{show(0:Int)<b.box.wh.ro;omega}
def ZjV{b:Bar}(hB:Za5 b=true):Zao b ZbQ=if b.pl=0/\b.cr=0 then(Zgl,ZaR b)else(noS,b):=by(have q:bxB b.box=true:=by unfold Za5 at hB;simp only[Yf]at hB;exact hB.1);have hb:=Zbc q;(have h1:Zao b ZbQ=Zg9 b (Zb2 b):=by unfold Zao;rw[show ZaA ZbQ=some (ZbQ,[]) by kernel_rfl];rfl);rw[h1];unfold Zb2;split;{rename_i h;(have e:({b with box:={b.box with fo:=List.replicate b.box.fo.length 0,ma:=List.replicate b.box.ma.length 0,sl:=List.replicate b.box.sl.length 0,pl:=0}}:Bar)=ZaR b:=by unfold ZaR;rw[hb.fl,hb.ml,hb.sl,h.1,h.2]);rw[e];simp only[Zg9];rw[Yt (ZeK hB)]};{rfl}
def Zqh{b:Bar}(hB:Za5 b=true):∃e∈Zcc (ZaR b).box.wh (pur (ZaR b).box []),e.1.bag=pur (ZaR b).box []/\e.1.bo=(ZaR b).box.pl:=by have hE:=ZeK hB;(have q:bxB (ZaR b).box=true:=by unfold Za5 at hE;simp only[Yf]at hE;exact hE.1);have hb:=Zbc q;have hA:=Zke hb (ZiT _ hb);obtain⟨e,he,hbag⟩:=ZpI hb.wh hA fun k h1 h2=>Ztv q h1 h2;refine⟨e,he,hbag,?_⟩;have hin:=((Zjd hb.wh hA).2.1 e he).1.bo;(have hm:e.1.bag.many=0:=by rw[hbag];(have hp:∀k,(ZbN (ZaR b).box).getD k 0=0:=fun k=>by show(List.zipWith (·+ ·) (List.replicate _ 0) (List.replicate _ 0)).getD k 0=0;rw[List.zipWith_replicate',Yb,List.getElem?_replicate];split<;>rfl);simp only[pur,Bag.many,hp];rfl);rw[hm]at hin;show e.1.bo=0;omega
def ZnA{b:Bar}(hB:Za5 b=true):Zcu (ZaR b).box=(0,0)/\Zd8 (ZaR b).box=0:=by have hE:=ZeK hB;(have q:bxB (ZaR b).box=true:=by unfold Za5 at hE;simp only[Yf]at hE;exact hE.1);have:=ZpJ q (Zqh hB);exact⟨this.1,this.2.1⟩
def Zp7:List UInt8:=[99,97,115,104]
def Zlc:List UInt8:=[109,105,115,115,105,110,103]
def Zgd:List UInt8:=[115,104,111,114,116]
def Zms{b:Bar}{x y z:Int}(h1:ZaD b.box.wh b.box.fo-ZaD b.box.wh b.box.ma=x)(h2:ZaD b.box.wh b.box.ma=y)(h3:ZaD b.box.wh b.box.sl=z):Zao b Zp7=(Zjh [x,y,z] 0,b):=by subst h1 h2 h3;unfold Zao;rw[show ZaA Zp7=some (Zp7,[]) by kernel_rfl];rfl
def ZiD{b:Bar}{x e:Int}(h:Zcu b.box=(x,e)):Zao b Zlc=(Zjh [x] e,b):=by unfold Zao;rw[show ZaA Zlc=some (Zlc,[]) by kernel_rfl];show(Zjh [(Zcu b.box).1] (Zcu b.box).2,b)=_;rw[h]
def ZgD{b:Bar}{x:Int}(h:Zd8 b.box=x):Zao b Zgd=(Zjh [x] 0,b):=by subst h;unfold Zao;rw[show ZaA Zgd=some (Zgd,[]) by kernel_rfl];rfl
def Zxe:Lib.itoa 0=[48]:=by rw[show(0:Int)=((0:Nat):Int)from rfl,Lib.itoa_nonneg,Lib.decDigits_one Kb];rfl
def ZAI:Zjh [0] 0=[48]:=by unfold Zjh;rw[Yx Kb,Yx Kb,Ye,Zxe];rfl
def ZxS:Zjh [0,0,0] 0=[48,32,48,32,48]:=by unfold Zjh;rw[Yx Kb,Yx Kb];simp only[Ye,Yg,Zxe];rfl
def Zn4{b:Bar}(hB:Za5 b=true)(h:b.pl=0/\b.cr=0):ZaU Zao b [ZbQ,Zp7,Zlc,Zgd]=([Zgl,[48,32,48,32,48],[48],[48]],ZaR b):=by have h1:=ZjV hB;rw[Yt h]at h1;have hz:=Zky b.box.wh b.box.wh.co.length;have h2:=Zms (b:=ZaR b) (x:=0) (y:=0) (z:=0) (by show ZaD b.box.wh (List.replicate b.box.wh.co.length 0)-ZaD b.box.wh (List.replicate b.box.wh.co.length 0)=0;rw[hz];rfl) hz hz;obtain⟨h3,h4⟩:=ZnA hB;have h5:=ZiD h3;have h6:=ZgD h4;rw[ZAI]at h5 h6;rw[ZxS]at h2;simp only[ZbC,ZeS,h1,h2,h5,h6]
def Zjz{b:Bar}(hB:Za5 b=true)(h:¬(b.pl=0/\b.cr=0)):∃a,ZaU Zao b [ZbQ,Zp7,Zlc,Zgd]=(noS::a,b)/\a.length=3:=by have h1:=ZjV hB;rw[Yx h]at h1;have h2:=Zms (b:=b) rfl rfl rfl;have h5:=ZiD (b:=b) (x:=(Zcu b.box).1) (e:=(Zcu b.box).2) rfl;have h6:=ZgD (b:=b) rfl;simp only[ZbC,ZeS,h1,h2,h5,h6];exact⟨_,rfl,rfl⟩
end Go.Proofs.YtcggfogkfhlmlaaGreatDoor
