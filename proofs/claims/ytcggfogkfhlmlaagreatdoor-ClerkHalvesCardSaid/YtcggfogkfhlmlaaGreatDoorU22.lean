
import Derived.Test.YtcggfogkfhlmlaaGreatDoorV2
import Derived.ProofKit
import Derived.Test.YtcggfogkfhlmlaaGreatDoorU9
import Derived.Test.YtcggfogkfhlmlaaGreatDoorU4
import Derived.Test.YtcggfogkfhlmlaaGreatDoorU7
import Derived.LaidSub
import Derived.OpenShut
import Derived.Test.YtcggfogkfhlmlaaGreatDoorRows
set_option linter.unusedVariables false
set_option linter.defProp false
set_option linter.unusedSimpArgs false
set_option maxRecDepth 100000
set_option maxHeartbeats 8000000
namespace Go.V
open Go
def M0:Cells:=fun _ _=>False
def ZhM(w:World):List CD->List Value->Prop
 |[],vs=>vs=[]
 |d::ds,vs=>∃v vs',vs=v::vs'/\RepC w M0 d v/\ZhM w ds vs'
def Op1(P:Program)(t:TypeId)(g:CD->Prop):Prop:=
 ∀(H:Type)(enc:TypeId×Value->H)(w:World)(sp:Nat->Bool)(fuel:Nat)(cs:List Value)(x:DataW H×List MemPlace),DataW.trod enc P w 0 sp true fuel t cs=some x->∃d v,cs=[v]/\g d/\RepC w M0 d v
def OpN(P:Program)(t:TypeId)(G:List CD->Prop):Prop:=
 ∀(H:Type)(enc:TypeId×Value->H)(w:World)(sp:Nat->Bool)(fuel:Nat)(cs:List Value)(x:DataW H×List MemPlace),DataW.trod enc P w 0 sp true fuel t cs=some x->∃ds,G ds/\ds.length=cs.length/\ZhM w ds cs
def Zoo{P:Program}{t:TypeId}{g:CD->Prop}(h:Op1 P t g):OpN P t fun ds=>∃d,ds=[d]/\g d:=by intro H enc w sp fuel cs x hx;obtain⟨d,v,rfl,hg,hr⟩:=h H enc w sp fuel cs x hx;exact⟨[d],⟨d,rfl,hg⟩,rfl,v,[],rfl,hr,rfl⟩
def ZxJ{P:Program}{t:TypeId}{k:IntKind}(ht:P.underlying t=some (.int k)):Op1 P t fun d=>∃n,d= .int k n:=by intro H enc w sp fuel cs x hx;obtain⟨n,rfl,_,_⟩:=DataW.trod_int ht hx;exact⟨.int k n,_,rfl,⟨n,rfl⟩,by simp only[RepC]⟩
def Zrb{w:World}:∀{ds:List CD}{cs:List Value}{ad:Addr},ZhM w ds cs->(∀j,j<cs.length->w.cell? (ad.add j)=cs[j]?)->RepL w M0 ds ad
 |[],cs,ad,_,_=>by simp only[RepL]
 |d::ds,cs,ad,h,hc=>by obtain⟨v,vs,rfl,h1,h2⟩:=h;simp only[RepL];refine⟨⟨v,?_,id,h1⟩,Zrb h2 fun j hj=>?_⟩;{have:=hc 0 Kd;simpa [Addr.add]using this};{have:=hc (j+1) (by simpa using hj);rw[Zcg,YbA 1 j];simpa using this}
def Zra{w:World}{n:Nat}:∀{es:List (List CD)}{ad:Addr},(∀i e,es[i]? =some e->e.length=n/\RepL w M0 e (ad.add (i*n)))->RepE w M0 n es ad
 |[],ad,_=>by simp only[RepE]
 |e::es,ad,h=>by simp only[RepE];refine⟨?_,Zra fun i e' hi=>?_⟩;{have:=h 0 e rfl;simpa [Addr.add]using this};{have:=h (i+1) e' (by simpa using hi);(have e:ad.add ((i+1)*n)=(ad.add n).add (i*n):=by rw[Zcg,YX,Yda,YbA]);rw[e]at this;exact this}
def ZfD{P:Program}{t e:TypeId}{G:List CD->Prop}(ht:P.underlying t=some (.slice e))(h:OpN P e G):Op1 P t fun d=>∃es,d= .sl (P.cellsOf e) es/\∀x∈es,G x:=by
 intro H enc w sp fuel cs x hx;rcases DataW.trod_slice ht hx with⟨rfl,rfl⟩|⟨a,len,cap,elems,rest,n,rfl,rfl,rfl,_,hlc,hcm,hel,hE,_,_⟩;{refine⟨.sl (P.cellsOf e) [],_,rfl,⟨[],rfl,Kd⟩,?_⟩;simp only[RepC];exact⟨none,0,rfl,Yi _,YC _,.inl trivial⟩}
 ·have each:∀i,i<len->∃ds,G ds/\ds.length=P.cellsOf e/\RepL w M0 ds (a.add (i*P.cellsOf e)):=by intro i hi;have h1:=hE i hi;rw[Yd Kc,Yz]at h1;obtain⟨cs',hcs,hd⟩:=h1;obtain⟨ds,hg,hl,hr⟩:=h H enc w sp n cs' _ hd;obtain⟨_,hlen,hcell⟩:=World.cells?_some hcs;exact⟨ds,hg,Kc,Zrb hr fun j hj=>hcell j Kc⟩
  have hex:∀m,m<=len->∃es:List (List CD),es.length=m/\∀(i:Nat)(e':List CD),es[i]? =some e'->G e'/\e'.length=P.cellsOf e/\RepL w M0 e' (a.add (i*P.cellsOf e)):=by
   intro m;induction m with
   |zero=>intro _;exact⟨[],rfl,Kd⟩
   |succ m ih=>intro hm;obtain⟨es,hes,hh⟩:=ih Kc;obtain⟨ds,h1,h2,h3⟩:=each m Kc;refine⟨es++[ds],by simp[hes],fun i e' hi=>?_⟩;rcases YaG i es.length with hlt|hge;{rw[Y3 hlt]at hi;exact hh i e' hi};{rw[Yau hge]at hi;(have:i-es.length=0:=by have:=(Ym.1 hi).1;simp at this;omega);rw[this]at hi;simp at hi;subst hi;(have:i=m:=by omega);subst this;exact⟨h1,h2,h3⟩}
  obtain⟨es,hes,hh⟩:=hex len (Yi _);refine⟨.sl (P.cellsOf e) es,_,rfl,⟨es,rfl,fun x hx=>?_⟩,?_⟩;{obtain⟨i,hi⟩:=YcB hx;exact(hh i x hi).1};{simp only[RepC];exact⟨some a,cap,by rw[hes],Kc,hcm,.inr ⟨a,rfl,Zra fun i e' hi=>(hh i e' hi).2⟩⟩}
def Zds{P:Program}{t:TypeId}{fs:Array Field}{gs:List (CD->Prop)}(ht:P.underlying t=some (.struct fs))(hn:P.cellsOf t=fs.size)(hgs:gs.length=fs.size)(h:∀(i:Nat)(f:Field)(g:CD->Prop),fs[i]? =some f->gs[i]? =some g->f.offset=i/\P.cellsOf f.type=1/\Op1 P f.type g):OpN P t fun ds=>ds.length=gs.length/\∀(i:Nat)(d:CD)(g:CD->Prop),ds[i]? =some d->gs[i]? =some g->g d:=by intro H enc w sp fuel cs x hx;obtain⟨xs,n,rfl,rfl,hl,hxl,hX⟩:=DataW.trod_struct ht hx;(have each:∀(i:Nat)(v:Value),cs[i]? =some v->∃d:CD,RepC w M0 d v/\∀g:CD->Prop,gs[i]? =some g->g d:=by intro i v hv;(have hi:i<fs.size:=by have:=(Ym.1 hv).1;omega);obtain⟨f,hf⟩:∃f,fs[i]? =some f:=⟨fs[i],by simp[hi]⟩;obtain⟨g,hg⟩:∃g,gs[i]? =some g:=⟨gs[i]'Kc,by simp[hgs,hi]⟩;obtain⟨ho,hc,hop⟩:=h i f g hf hg;have h1:=hX i f hf;rw[ho,hc,Yd Kc]at h1;obtain⟨d,v',hcs,hgd,hr⟩:=hop H enc w sp n _ _ h1;(have:v'=v:=by(have e:((cs.drop i).take 1)[0]? =some v:=by rw[Y6];simp[hv]);rw[hcs]at e;simpa using e);subst this;refine⟨d,hr,fun g' hg'=>?_⟩;rw[hg]at hg';cases hg';exact hgd);(have hex:∀(cs:List Value)(k:Nat),(∀(i:Nat)(v:Value),cs[i]? =some v->∃d:CD,RepC w M0 d v/\∀g:CD->Prop,gs[k+i]? =some g->g d)->∃ds:List CD,ds.length=cs.length/\ZhM w ds cs/\∀(i:Nat)(d:CD)(g:CD->Prop),ds[i]? =some d->gs[k+i]? =some g->g d:=by(intro cs;induction cs with|nil=>intro k _;exact⟨[],rfl,rfl,Kd⟩|cons v vs ih=>intro k hh;obtain⟨d,h1,h2⟩:=hh 0 v rfl;(obtain⟨ds,h3,h4,h5⟩:=ih (k+1) fun i u hu=>by have:=hh (i+1) u (by simpa using hu);rwa [show k+(i+1)=k+1+i from by omega]at this);(refine⟨d::ds,by simp[h3],⟨v,vs,rfl,h1,h4⟩,fun i d' g hi hg=>?_⟩;cases i with|zero=>simp at hi;subst hi;exact h2 g (by simpa using hg)|succ i=>exact h5 i d' g (by simpa using hi) (by rwa [show k+1+i=k+(i+1)from by omega]))));(obtain⟨ds,h1,h2,h3⟩:=hex cs 0 fun i v hv=>by simpa using each i v hv);exact⟨ds,⟨Kc,fun i d g hi hg=>h3 i d g hi (by simpa using hg)⟩,h1,h2⟩
end Go.V
namespace Go.Proofs.YtcggfogkfhlmlaaGreatDoor
open Go Go.V
open Go.RowKit
variable{tb:Obj}
def Zk8(tb:Obj):Prop:=∃ty fr,tb= .cells (Lib.pow10Tab.map (Value.int .u64)).toArray ty fr
def Zuk:Nat->Value:=fun n=>if n=1000 then Zc6 [3]else undef
def M3(tb:Obj):Cells:=AddM M0 (ZaX [tabO tb] []) Zuk
def ZCv(n:Nat):ZaX [tabO tb] [] n=if n=1000 then tabO tb else .none:=by rw[ZdU Kd];simp only[Yg,ZaB,Zgi,upd,o0];rw[Yx (by simp only[YI];omega)]
def ZBd{b:Nat}(h:Foot (ZaX [tabO tb] []) Zuk b):b=3:=by obtain⟨n,hn⟩:=h;rw[ZCv]at hn;by_cases e:n=1000;{subst e;simp only[YJ,tabO,Zuk,Ob.has,Zan,Yk]at hn;exact hn};{rw[Yx e]at hn;exact(Ob.has_none _ _ hn).elim}
def m3{b o:Nat}(h:M3 tb b o):b=3:=by rcases h with h|⟨n,h⟩;{exact h.elim};{exact ZBd ⟨n,Ob.has_of_mut h⟩}
def Zwz{w:World}(ht:Zk8 tb)(hw:w.heap[3]? =some tb){ad:Addr}(hb:ad.block=3){v:Value}(h:w.cell? ad=some v):∃n,v= .int .u64 n:=by obtain⟨ty,fr,rfl⟩:=ht;unfold World.cell? at h;rw[hb,hw]at h;simp only at h;split at h;{cases h};{have:=Array.mem_of_getElem? h;simp only[List.mem_toArray,Ys]at this;obtain⟨n,_,rfl⟩:=this;exact⟨n,rfl⟩}
def okD(d:CD):Prop:=(∃n,d= .int .i64 n)\/∃s,d= .str s
def Zor{w:World}(ht:Zk8 tb)(hw:w.heap[3]? =some tb):∀{ds:List CD}{ad:Addr},(∀d∈ds,okD d)->RepL w M0 ds ad->RepL w (M3 tb) ds ad
 |[],_,_,_=>by simp only[RepL]
 |d::ds,ad,hd,h=>by simp only[RepL]at h|-;obtain⟨⟨u,h1,_,h3⟩,h4⟩:=h;have hk:=hd d Kd;refine⟨⟨u,h1,fun hm=>?_,?_⟩,Zor ht hw (fun x hx=>hd x (by simp[hx])) h4⟩;{obtain⟨n,rfl⟩:=Zwz ht hw (m3 hm) h1;rcases hk with⟨m,rfl⟩|⟨s,rfl⟩<;>simp[RepC]at h3};{rcases hk with⟨m,rfl⟩|⟨s,rfl⟩<;>simpa only[RepC]using h3}
def Zoq{w:World}(ht:Zk8 tb)(hw:w.heap[3]? =some tb){sz:Nat}:∀{es:List (List CD)}{ad:Addr},(∀e∈es,∀d∈e,okD d)->RepE w M0 sz es ad->RepE w (M3 tb) sz es ad
 |[],_,_,_=>by simp only[RepE]
 |e::es,ad,hd,h=>by simp only[RepE]at h|-;exact⟨⟨h.1.1,Zor ht hw (hd e Kd) h.1.2⟩,Zoq ht hw (fun x hx=>hd x (by simp[hx])) h.2⟩
def okC(d:CD):Prop:=okD d\/∃sz es,d= .sl sz es/\∀e∈es,∀x∈e,okD x
def Zop{w:World}(ht:Zk8 tb)(hw:w.heap[3]? =some tb){d:CD}(hd:okC d){v:Value}(h:RepC w M0 d v):RepC w (M3 tb) d v:=by rcases hd with(⟨n,rfl⟩|⟨s,rfl⟩)|⟨sz,es,rfl,hes⟩;{simpa only[RepC]using h};{simpa only[RepC]using h};{simp only[RepC]at h|-;obtain⟨A,cap,h1,h2,h3,h4⟩:=h;refine⟨A,cap,h1,h2,h3,?_⟩;rcases h4 with h4|⟨ad,h4,h5⟩;{exact .inl h4};{exact .inr ⟨ad,h4,Zoq ht hw hes h5⟩}}
def ZlH{w:World}(ht:Zk8 tb)(hw:w.heap[3]? =some tb):∀{ds:List CD}{vs:List Value},(∀d∈ds,okC d)->ZhM w ds vs->RepAs w (M3 tb) Zuk (ds.map .c) vs
 |[],vs,_,h=>by simp only[ZhM]at h;subst h;simp only[Yg,RepAs]
 |d::ds,vs,hd,h=>by obtain⟨v,vs',rfl,h1,h2⟩:=h;simp only[Ye,RepAs,RepA];exact⟨v,vs',rfl,Zop ht hw (hd d Kd) h1,ZlH ht hw (fun x hx=>hd x (by simp[hx])) h2⟩
def ZcL{P:Program}{f:FuncId}{xs:List AV}(h:Zc9 P f xs [tabO tb] [] (fun r l'=>r= .c (.bool true)/\l'=[tabO tb])){w:World}(ht:Zk8 tb)(hw:w.heap[3]? =some tb){vs:List Value}(hr:RepAs w (M3 tb) Zuk xs vs):
  Calls P f vs.toArray w fun e w'=>e= .returned (.bool true)/\Below w.heap.size w w':=by
 have h3:3<w.heap.size:=(YK.1 hw).1;refine(h.2.2 w M0 Zuk vs (fun _ _ h=>h.elim) ⟨fun n=>?_,fun n m b hnm h1 h2=>?_⟩ hr).mono fun e w' hh=>?_
 ·rw[ZCv];by_cases e:n=1000
  ·subst e;simp only[YJ,tabO,Zuk];exact⟨ZzM _ _,[3],rfl,⟨rfl,rfl,hw,ht⟩,fun b hb=>by simp at hb;subst hb;exact⟨h3,trivial⟩⟩
  ·rw[Yx e];trivial
 ·rw[ZCv]at h1 h2;by_cases e:n=1000
  ·have e2:m≠1000:=by omega
   rw[Yx e2]at h2;exact Ob.has_none _ _ h2
  ·rw[Yx e]at h1;exact Ob.has_none _ _ h1
 ·obtain⟨v,r,l',loc',rfl,⟨rfl,rfl⟩,_,hfx,_,hlo,_,_,hv⟩:=hh;simp only[RepA,RepC]at hv;subst hv;refine⟨rfl,hfx.os,hfx.tape,hfx.output,hfx.size,fun k hk=>?_⟩;by_cases e:k=3
  ·subst e;have:=hlo.objs 1000;rw[ZCv]at this;simp only[YJ,tabO]at this;obtain⟨_,L,_,⟨_,_,hw',_⟩,_⟩:=this;rw[hw',hw]
  ·exact hfx.block k hk fun hx =>e (by
    obtain⟨n,hn⟩:=hx;refine ZBd (tb:=tb) ⟨n,?_⟩;rw[ZCv];by_cases en:n=1000
    ·subst en;exact hn
    ·exfalso;rcases ZaG [tabO tb] n with⟨i,o,rfl,h2,_⟩|h2
     ·have:i=0:=by have:=(Ym.1 h2).1;simp at this;omega
      subst this;exact en rfl
     ·rw[h2]at hn;exact Ob.has_none _ _ hn)
end Go.Proofs.YtcggfogkfhlmlaaGreatDoor
namespace Go.V
open Go
def ZgR{w:World}:∀{a b:List CD}{x y:List Value},ZhM w a x->ZhM w b y->ZhM w (a++b) (x++y)
 |[],b,x,y,h,hb=>by simp only[ZhM]at h;subst h;exact hb
 |d::a,b,x,y,h,hb=>by obtain⟨v,vs,rfl,h1,h2⟩:=h;exact⟨v,vs++y,rfl,h1,ZgR h2 hb⟩
def Zd9(gs:List (Nat×(List CD->Prop))):Nat:=(gs.map Prod.fst).sum
def ZhL{P:Program}{t:TypeId}{fs:Array Field}{gs:List (Nat×(List CD->Prop))}(ht:P.underlying t=some (.struct fs))(hn:P.cellsOf t=Zd9 gs)(hgs:gs.length=fs.size)(h:∀(i:Nat)(f:Field)(g:Nat×(List CD->Prop)),fs[i]? =some f->gs[i]? =some g->f.offset=Zd9 (gs.take i)/\P.cellsOf f.type=g.1/\OpN P f.type g.2):
  OpN P t fun ds=>∃ps:List (List CD),ds=ps.flatten/\ps.length=gs.length/\∀(i:Nat)(p:List CD)(g:Nat×(List CD->Prop)),ps[i]? =some p->gs[i]? =some g->g.2 p:=by intro H enc w sp fuel cs x hx;obtain⟨xs,n,rfl,rfl,hl,hxl,hX⟩:=DataW.trod_struct ht hx;(have key:∀(m k:Nat),k+m=gs.length->∃ps:List (List CD),ps.length=m/\ps.flatten.length=(cs.drop (Zd9 (gs.take k))).length/\ZhM w ps.flatten (cs.drop (Zd9 (gs.take k)))/\∀(i:Nat)(p:List CD)(g:Nat×(List CD->Prop)),ps[i]? =some p->gs[k+i]? =some g->g.2 p:=by(intro m;induction m with|zero=>intro k hk;have e:gs.take k=gs:=YG Kc;have e2:cs.drop (Zd9 (gs.take k))=[]:=List.drop_eq_nil_of_le (by rw[e];omega);rw[e2];exact⟨[],rfl,rfl,rfl,Kd⟩|succ m ih=>intro k hk;(have hkg:k<gs.length:=by omega);(have hkf:k<fs.size:=by omega);(have hf:fs[k]? =some fs[k]:=by simp[hkf]);have hg:gs[k]? =some gs[k]:=Yd hkg;obtain⟨ho,hc,hop⟩:=h k _ _ hf hg;have h1:=hX k _ hf;rw[ho,hc,Yd Kc]at h1;obtain⟨ds,hgd,hdl,hr⟩:=hop H enc w sp n _ _ h1;(have es:Zd9 (gs.take (k+1))=Zd9 (gs.take k)+gs[k].1:=by unfold Zd9;rw[Yq hkg,Yy,Ya4];simp);obtain⟨ps,p1,p2,p3,p4⟩:=ih (k+1) Kc;rw[es]at p2 p3;(have ecs:cs.drop (Zd9 (gs.take k))=(cs.drop (Zd9 (gs.take k))).take gs[k].1++cs.drop (Zd9 (gs.take k)+gs[k].1):=by rw[<-YcQ,Yah]);refine⟨ds::ps,by simp[p1],?_,?_,?_⟩;{rw[YaC,Yw,p2,hdl,<-Yw,<-ecs]};{rw[YaC,ecs];exact ZgR hr p3};{(intro i p g hi hgi;cases i with|zero=>simp at hi hgi;subst hi;rw[hg]at hgi;cases hgi;exact hgd|succ i=>exact p4 i p g (by simpa using hi) (by rwa [show k+1+i=k+(i+1)from by omega]))}));obtain⟨ps,h1,h2,h3,h4⟩:=key gs.length 0 Kc;have e0:Zd9 (gs.take 0)=0:=rfl;rw[e0,Yat]at h2 h3;exact⟨ps.flatten,⟨ps,rfl,h1,fun i p g hp hg=>h4 i p g hp (by simpa using hg)⟩,h2,h3⟩
end Go.V
namespace Go.Proofs.YtcggfogkfhlmlaaGreatDoor
open Go Go.V
open Go.ChangeShapes Go.WideShapes Go.ChangeAt Go.RowKit
set_option maxRecDepth 100000
def z3:Tryz.prog.cellsOf 3=1:=by kernel_rfl
def z22:Tryz.prog.cellsOf 22=1:=by kernel_rfl
def z26:Tryz.prog.cellsOf 26=8:=by kernel_rfl
def z24:Tryz.prog.cellsOf 24=3:=by kernel_rfl
def isI(d:CD):Prop:=∃n,d= .int .i64 n
def op3:Op1 Tryz.prog 3 isI:=ZxJ Tryz.underlying3
def ZEp:Op1 Tryz.prog 22 fun d=>∃l,d=Zai l:=by
 intro H enc w sp fuel cs x hx;obtain⟨d,v,rfl,⟨es,rfl,hes⟩,hr⟩:=ZfD Tryz.underlying22 (Zoo op3) H enc w sp fuel cs x hx;refine⟨_,v,rfl,?_,hr⟩;rw[z3];clear hr hx;induction es with
 |nil=>exact⟨[],rfl⟩
 |cons e es ih=>obtain⟨l,hl⟩:=ih fun x hx=>hes x (by simp[hx]);obtain⟨d,rfl,n,rfl⟩:=hes e Kd;refine⟨n::l,?_⟩;simp only[Zai,CD.sl.injEq,YcO]at hl|-;rw[hl];rfl
def isL(d:CD):Prop:=∃l,d=Zai l
def ZGx:OpN Tryz.prog 24 fun ds=>∃a b c,ds=[.int .i64 a,Zai b,Zai c]:=by
 have h:=Zds (P:=Tryz.prog) (gs:=[isI,isL,isL]) Tryz.underlying24 z24 rfl (fun i f g hf hg =>by
  match i with
  |0=>simp at hf hg;subst hf;subst hg;exact⟨rfl,z3,op3⟩
  |1=>simp at hf hg;subst hf;subst hg;exact⟨rfl,z22,ZEp⟩
  |2=>simp at hf hg;subst hf;subst hg;exact⟨rfl,z22,ZEp⟩
  |i+3=>simp at hg)
 intro H enc w sp fuel cs x hx;obtain⟨ds,⟨hl,hg⟩,h1,h2⟩:=h H enc w sp fuel cs x hx;refine⟨ds,?_,h1,h2⟩;obtain⟨a,b,c,rfl⟩:∃a b c,ds=[a,b,c]:=by
  match ds,hl with
  |[a,b,c],_=>exact⟨a,b,c,rfl⟩
 obtain⟨n0,rfl⟩:=hg 0 a isI rfl rfl;obtain⟨l1,rfl⟩:=hg 1 b isL rfl rfl;obtain⟨l2,rfl⟩:=hg 2 c isL rfl rfl;exact⟨n0,l1,l2,rfl⟩
def ZDQ(ds:List CD):Prop:=∃n,ds=[.int .i64 n]
def ZDo(ds:List CD):Prop:=∃l,ds=[Zai l]
def ZF4:OpN Tryz.prog 3 ZDQ:=by intro H enc w sp fuel cs x hx;obtain⟨ds,⟨d,rfl,n,rfl⟩,h1,h2⟩:=Zoo op3 H enc w sp fuel cs x hx;exact⟨_,⟨n,rfl⟩,h1,h2⟩
def ZyT:OpN Tryz.prog 22 ZDo:=by intro H enc w sp fuel cs x hx;obtain⟨ds,⟨d,rfl,n,rfl⟩,h1,h2⟩:=Zoo ZEp H enc w sp fuel cs x hx;exact⟨_,⟨n,rfl⟩,h1,h2⟩
def ZGy:OpN Tryz.prog 26 fun ds=>∃b:Bx,ds=b.cds:=by
 have h:=ZhL (P:=Tryz.prog) (gs:=[(3,fun ds => ∃ a b c,ds = [.int .i64 a,Zai b,Zai c]),(1,ZDo),(1,ZDo),(1,ZDo),(1,ZDQ),(1,ZDQ)]) Tryz.underlying26 z26 rfl (fun i f g hf hg =>by
  match i with
  |0=>simp at hf hg;subst hf;subst hg;exact⟨rfl,z24,ZGx⟩
  |1=>simp at hf hg;subst hf;subst hg;exact⟨rfl,z22,ZyT⟩
  |2=>simp at hf hg;subst hf;subst hg;exact⟨rfl,z22,ZyT⟩
  |3=>simp at hf hg;subst hf;subst hg;exact⟨rfl,z22,ZyT⟩
  |4=>simp at hf hg;subst hf;subst hg;exact⟨rfl,z3,ZF4⟩
  |5=>simp at hf hg;subst hf;subst hg;exact⟨rfl,z3,ZF4⟩
  |i+6=>simp at hg)
 intro H enc w sp fuel cs x hx;obtain⟨ds,⟨ps,rfl,hl,hg⟩,h1,h2⟩:=h H enc w sp fuel cs x hx;refine⟨_,?_,h1,h2⟩;obtain⟨p0,p1,p2,p3,p4,p5,rfl⟩:∃a b c d e f,ps=[a,b,c,d,e,f]:=by
  match ps,hl with
  |[a,b,c,d,e,f],_=>exact⟨a,b,c,d,e,f,rfl⟩
 obtain⟨a,b,c,rfl⟩:=hg 0 p0 _ rfl rfl;obtain⟨l1,rfl⟩:=hg 1 p1 _ rfl rfl;obtain⟨l2,rfl⟩:=hg 2 p2 _ rfl rfl;obtain⟨l3,rfl⟩:=hg 3 p3 _ rfl rfl;obtain⟨n4,rfl⟩:=hg 4 p4 _ rfl rfl;obtain⟨n5,rfl⟩:=hg 5 p5 _ rfl rfl;exact⟨⟨⟨a,b,c⟩,l1,l2,l3,n4,n5⟩,rfl⟩
def z29:Tryz.prog.cellsOf 29=1:=by kernel_rfl
def z30:Tryz.prog.cellsOf 30=1:=by kernel_rfl
def z32:Tryz.prog.cellsOf 32=5:=by kernel_rfl
def ZGd:Tryz.prog.cellsOf 122=2:=by kernel_rfl
def ZGe:Tryz.prog.cellsOf 166=2:=by kernel_rfl
def Zpf{α β:Type}{f:β->α}:∀{es:List α},(∀x∈es,∃s,x=f s)->∃l:List β,es=l.map f
 |[],_=>⟨[],rfl⟩
 |e::es,h=>by obtain⟨l,rfl⟩:=Zpf (f:=f) fun x hx=>h x (Ya6 _ hx);obtain⟨s,rfl⟩:=h e Kd;exact⟨s::l,rfl⟩
def ZEo:OpN Tryz.prog 166 fun ds=>∃s:Rec,ds=s.cds:=by
 have h:=Zds (P:=Tryz.prog) (gs:=[isI,isI]) Tryz.underlying166 ZGe rfl (fun i f g hf hg =>by
  match i with
  |0=>simp at hf hg;subst hf;subst hg;exact⟨rfl,z3,op3⟩
  |1=>simp at hf hg;subst hf;subst hg;exact⟨rfl,z3,op3⟩
  |i+2=>simp at hg)
 intro H enc w sp fuel cs x hx;obtain⟨ds,⟨hl,hg⟩,h1,h2⟩:=h H enc w sp fuel cs x hx;refine⟨ds,?_,h1,h2⟩;obtain⟨a,b,rfl⟩:∃a b,ds=[a,b]:=by
  match ds,hl with
  |[a,b],_=>exact⟨a,b,rfl⟩
 obtain⟨n0,rfl⟩:=hg 0 a isI rfl rfl;obtain⟨n1,rfl⟩:=hg 1 b isI rfl rfl;exact⟨⟨n0,n1⟩,rfl⟩
def ZEn:OpN Tryz.prog 122 fun ds=>∃s:Pr,ds=s.cds:=by
 have h:=Zds (P:=Tryz.prog) (gs:=[isI,isI]) Tryz.underlying122 ZGd rfl (fun i f g hf hg =>by
  match i with
  |0=>simp at hf hg;subst hf;subst hg;exact⟨rfl,z3,op3⟩
  |1=>simp at hf hg;subst hf;subst hg;exact⟨rfl,z3,op3⟩
  |i+2=>simp at hg)
 intro H enc w sp fuel cs x hx;obtain⟨ds,⟨hl,hg⟩,h1,h2⟩:=h H enc w sp fuel cs x hx;refine⟨ds,?_,h1,h2⟩;obtain⟨a,b,rfl⟩:∃a b,ds=[a,b]:=by
  match ds,hl with
  |[a,b],_=>exact⟨a,b,rfl⟩
 obtain⟨n0,rfl⟩:=hg 0 a isI rfl rfl;obtain⟨n1,rfl⟩:=hg 1 b isI rfl rfl;exact⟨⟨n0,n1⟩,rfl⟩
def op29:Op1 Tryz.prog 29 fun d=>∃l,d=ZaT l:=by intro H enc w sp fuel cs x hx;obtain⟨d,v,rfl,⟨es,rfl,hes⟩,hr⟩:=ZfD Tryz.underlying29 ZEo H enc w sp fuel cs x hx;refine⟨_,v,rfl,?_,hr⟩;obtain⟨l,rfl⟩:=Zpf (f:=Rec.cds) hes;exact⟨l,by rw[ZGe];rfl⟩
def op30:Op1 Tryz.prog 30 fun d=>∃l,d=Zbb l:=by intro H enc w sp fuel cs x hx;obtain⟨d,v,rfl,⟨es,rfl,hes⟩,hr⟩:=ZfD Tryz.underlying30 ZEn H enc w sp fuel cs x hx;refine⟨_,v,rfl,?_,hr⟩;obtain⟨l,rfl⟩:=Zpf (f:=Pr.cds) hes;exact⟨l,by rw[ZGd];rfl⟩
def op32:OpN Tryz.prog 32 fun ds=>∃r:Tray,ds=r.cds:=by
 have h:=Zds (P:=Tryz.prog) (gs:=[(fun d => ∃ l,d = ZaT l),isI,isI,isI,(fun d => ∃ l,d = Zbb l)]) Tryz.underlying32 z32 rfl (fun i f g hf hg =>by
  match i with
  |0=>simp at hf hg;subst hf;subst hg;exact⟨rfl,z29,op29⟩
  |1=>simp at hf hg;subst hf;subst hg;exact⟨rfl,z3,op3⟩
  |2=>simp at hf hg;subst hf;subst hg;exact⟨rfl,z3,op3⟩
  |3=>simp at hf hg;subst hf;subst hg;exact⟨rfl,z3,op3⟩
  |4=>simp at hf hg;subst hf;subst hg;exact⟨rfl,z30,op30⟩
  |i+5=>simp at hg)
 intro H enc w sp fuel cs x hx;obtain⟨ds,⟨hl,hg⟩,h1,h2⟩:=h H enc w sp fuel cs x hx;refine⟨ds,?_,h1,h2⟩;obtain⟨a,b,c,d,e,rfl⟩:∃a b c d e,ds=[a,b,c,d,e]:=by
  match ds,hl with
  |[a,b,c,d,e],_=>exact⟨a,b,c,d,e,rfl⟩
 obtain⟨l1,rfl⟩:=hg 0 a _ rfl rfl;obtain⟨n1,rfl⟩:=hg 1 b isI rfl rfl;obtain⟨n2,rfl⟩:=hg 2 c isI rfl rfl;obtain⟨n3,rfl⟩:=hg 3 d isI rfl rfl;obtain⟨l2,rfl⟩:=hg 4 e _ rfl rfl;exact⟨⟨l1,n1,n2,n3,l2⟩,rfl⟩
def z28:Tryz.prog.cellsOf 28=2:=by kernel_rfl
def z34:Tryz.prog.cellsOf 34=15:=by kernel_rfl
def ZGz:OpN Tryz.prog 28 fun ds=>∃a b,ds=[.int .i64 a,.int .i64 b]:=by
 have h:=Zds (P:=Tryz.prog) (gs:=[isI,isI]) Tryz.underlying28 z28 rfl (fun i f g hf hg =>by
  match i with
  |0=>simp at hf hg;subst hf;subst hg;exact⟨rfl,z3,op3⟩
  |1=>simp at hf hg;subst hf;subst hg;exact⟨rfl,z3,op3⟩
  |i+2=>simp at hg)
 intro H enc w sp fuel cs x hx;obtain⟨ds,⟨hl,hg⟩,h1,h2⟩:=h H enc w sp fuel cs x hx;refine⟨ds,?_,h1,h2⟩;obtain⟨a,b,rfl⟩:∃a b,ds=[a,b]:=by
  match ds,hl with
  |[a,b],_=>exact⟨a,b,rfl⟩
 obtain⟨n0,rfl⟩:=hg 0 a isI rfl rfl;obtain⟨n1,rfl⟩:=hg 1 b isI rfl rfl;exact⟨n0,n1,rfl⟩
def ZGA:OpN Tryz.prog 34 fun ds=>∃b:Bar,ds=b.cds:=by
 have h:=ZhL (P:=Tryz.prog) (gs:=[(8,fun ds => ∃ b:Bx,ds = b.cds),(2,fun ds => ∃ a b,ds = [.int .i64 a,.int .i64 b]),(5,fun ds => ∃ r:Tray,ds = r.cds)]) Tryz.underlying34 z34 rfl (fun i f g hf hg =>by
  match i with
  |0=>simp at hf hg;subst hf;subst hg;exact⟨rfl,z26,ZGy⟩
  |1=>simp at hf hg;subst hf;subst hg;exact⟨rfl,z28,ZGz⟩
  |2=>simp at hf hg;subst hf;subst hg;exact⟨rfl,z32,op32⟩
  |i+3=>simp at hg)
 intro H enc w sp fuel cs x hx;obtain⟨ds,⟨ps,rfl,hl,hg⟩,h1,h2⟩:=h H enc w sp fuel cs x hx;refine⟨_,?_,h1,h2⟩;obtain⟨p0,p1,p2,rfl⟩:∃a b c,ps=[a,b,c]:=by
  match ps,hl with
  |[a,b,c],_=>exact⟨a,b,c,rfl⟩
 obtain⟨x,rfl⟩:=hg 0 p0 _ rfl rfl;obtain⟨p,c,rfl⟩:=hg 1 p1 _ rfl rfl;obtain⟨t,rfl⟩:=hg 2 p2 _ rfl rfl;exact⟨⟨x,p,c,t⟩,rfl⟩
def ZpU{P:Program}{t:TypeId}(ht:P.underlying t=some .string):Op1 P t fun d=>∃s,d= .str s:=by intro H enc w sp fuel cs x hx;obtain⟨s,rfl,_,_⟩:=DataW.trod_string ht hx;exact⟨.str s.data.toList,_,rfl,⟨_,rfl⟩,by simp only[RepC]⟩
def z9:Tryz.prog.cellsOf 9=1:=by kernel_rfl
def op9:Op1 Tryz.prog 9 fun d=>∃s,d= .str s:=ZpU Tryz.underlying9
def ZGB:Op1 Tryz.prog 35 fun d=>∃l,d=Zaw l:=by intro H enc w sp fuel cs x hx;obtain⟨d,v,rfl,⟨es,rfl,hes⟩,hr⟩:=ZfD Tryz.underlying35 (Zoo op9) H enc w sp fuel cs x hx;refine⟨_,v,rfl,?_,hr⟩;rw[z9];(obtain⟨l,hl⟩:=Zpf (f:=fun t:List UInt8=>[CD.str t]) (es:=es) fun e he=>by obtain⟨d,rfl,s,rfl⟩:=hes e he;exact⟨s,rfl⟩);exact⟨l,by rw[hl];rfl⟩
def Zww(l:List (List UInt8)):okC (Zaw l):=.inr ⟨1,_,rfl,fun e he d hd=>by
 obtain⟨n,_,rfl⟩:=Ys.1 he;simp only[Yk]at hd;exact .inr ⟨n,hd⟩⟩
def Zvf(l:List Int):okC (Zai l):=.inr ⟨1,_,rfl,fun e he d hd=>by
 obtain⟨n,_,rfl⟩:=Ys.1 he;simp only[Yk]at hd;exact .inl ⟨n,hd⟩⟩
def Zwf(l:List Rec):okC (ZaT l):=.inr ⟨2,_,rfl,fun e he d hd=>by
 obtain⟨n,_,rfl⟩:=Ys.1 he;simp only[Rec.cds,YF,Yag,Ybt]at hd;rcases hd with rfl|rfl<;>exact .inl ⟨_,rfl⟩⟩
def Zzc(l:List Pr):okC (Zbb l):=.inr ⟨2,_,rfl,fun e he d hd=>by
 obtain⟨n,_,rfl⟩:=Ys.1 he;simp only[Pr.cds,YF,Yag,Ybt]at hd;rcases hd with rfl|rfl<;>exact .inl ⟨_,rfl⟩⟩
def Zyv(n:Int):okC (.int .i64 n):=.inl (.inl ⟨n,rfl⟩)
def ZxV(b:Bar):∀d∈b.cds,okC d:=by intro d hd;simp only[Bar.cds,YF,Yag,Ybt]at hd;rcases hd with rfl|rfl|rfl|rfl|rfl|rfl|rfl|rfl|rfl|rfl|rfl|rfl|rfl|rfl|rfl;all_goals first|exact Zyv _|exact Zvf _|exact Zwf _|exact Zzc _
section
variable{tb:Obj}{H:Type}{enc:TypeId×Value->H}{w:World}{sp:Nat->Bool}
def open_bar(ht:Zk8 tb)(hw:w.heap[3]? =some tb){r:Reach}{b0:Nat}{v:Value}{d:DataW H}{ps:List MemPlace}(hval:Value.okWide Tryz.prog w r b0 34 v)(hd:DataW.Trod enc Tryz.prog w 0 sp true 34 v d ps):∃R:Bar,RepA w (M3 tb) Zuk R.av v:=by unfold Value.okWide at hval;rw[Tryz.underlying34]at hval;obtain⟨cs,rfl,_,_⟩:=hval;obtain⟨fuel,hf⟩:=hd;obtain⟨ds,⟨R,rfl⟩,_,hr⟩:=ZGA H enc w sp fuel _ _ hf;refine⟨R,?_⟩;simp only[Bar.av,RepA];exact⟨cs.toList,Kd,ZlH ht hw (ZxV R) hr⟩
def ZdG(ht:Zk8 tb)(hw:w.heap[3]? =some tb){r:Reach}{b0:Nat}{v:Value}{d:DataW H}{ps:List MemPlace}(hval:Value.okWide Tryz.prog w r b0 35 v)(hd:DataW.Trod enc Tryz.prog w 0 sp true 35 v d ps):∃l:List (List UInt8),RepA w (M3 tb) Zuk (.c (Zaw l)) v:=by obtain⟨fuel,hf⟩:=hd;obtain⟨d',v',hc,⟨l,rfl⟩,hr⟩:=ZGB H enc w sp fuel _ _ hf;(have:v=v':=by obtain⟨a,b,c,rfl⟩:=okWide_slice Tryz.underlying35 hval;simpa [Value.cells]using hc);subst this;exact⟨l,by simp only[RepA];exact Zop ht hw (Zww l) hr⟩
def Zpl{r:Reach}{b0:Nat}{v:Value}{d:DataW H}{ps:List MemPlace}(hval:Value.okWide Tryz.prog w r b0 3 v)(_:DataW.Trod enc Tryz.prog w 0 sp true 3 v d ps):∃n:Int,RepA w (M3 tb) Zuk (iv n) v:=by obtain⟨n,rfl⟩:=okWide_int Tryz.underlying3 hval;exact⟨n,by simp only[iv,RepA,RepC]⟩
end
def Tryz.own:ownKnob Tryz.prog.godebug=none:=by kernel_rfl
def Tryz.laidOut:laidOutB Tryz.prog=true:=by kernel_rfl
def ZdH{H:Type}{enc:TypeId×Value->H}{f:Func}{s:ChangeSpec}{apart fresh handsOn again:Bool}{W W':World}{args:Array Value}{b:Bool}{ds:List (DataW H)}{before:List MemPlace}(hf:f.resultTypes= #[4])(hv:s.vars=[])(hW:DataW.Whole enc Tryz.prog f.params.toList s.vars apart W args.toList ds [] before)(hb:Below W.heap.size W W')(hr:(s.fn H (ds++[])).results=[.lit (.bool b)])(ha:(s.fn H (ds++[])).args=ds)(hvs:(s.fn H (ds++[])).vars=[])(hst:∀sp:Nat->Bool,(∀p∈before,sp p.block=true)->DataW.TrodAll enc Tryz.prog W' 0 sp true f.params.toList args.toList ds before):s.post enc Tryz.prog f apart fresh handsOn again W args (.bool b) W':=by
 (have hlt:∀p∈before,p.block<W.heap.size:=fun p hp=>by simpa using hW.lt p hp);(have hres:∀(n:Nat)(sp:Nat->Bool)(hd:Bool),DataW.TrodAll enc Tryz.prog W' n sp hd f.resultTypes.toList ((Value.bool b).resultList f.resultTypes.size) (s.fn H (ds++[])).results []:=by intro n sp hd;rw[hf,hr];exact trodAll_mk1 (shut_bool Tryz.underlying4 _));(have hargs:∀sp:Nat->Bool,(∀p∈before,sp p.block=true)->DataW.TrodAll enc Tryz.prog W' 0 sp true f.params.toList args.toList (s.fn H (ds++[])).args before:=fun sp h=>by rw[ha];exact hst sp h);have hvars:∀sp:Nat->Bool,DataW.TrodVars enc Tryz.prog W' sp s.vars (s.fn H (ds++[])).vars []:=fun sp=>by rw[hv,hvs];rfl
 refine⟨ds,[],before,[],before,[],hW,hres _ _ _,hargs _ fun p hp=>by simpa using hlt p hp,hvars _,hb.frame _,fun _=>?_⟩;have hz:=hW;obtain⟨_,_,_,_,_,hz1,hz2⟩:=hz;have hall:DataW.TrodAll enc Tryz.prog W' 0 (fun _=>true) true (f.resultTypes.toList++f.params.toList) ((Value.bool b).resultList f.resultTypes.size++args.toList) ((s.fn H (ds++[])).results++(s.fn H (ds++[])).args) ([]++before):=
  trodAll_append (hargs (fun _=>true) fun _ _=>rfl) (hres 0 (fun _=>true) true)
 rw[YM]at hall;refine⟨ok_one hf rfl (okWide_bool_mk Tryz.underlying4 b),(s.fn H (ds++[])).results++(s.fn H (ds++[])).args,(s.fn H (ds++[])).vars,before,⟨before,[],hall,hvars _,Kd,?_,hz2⟩,fun p hp _=>hp⟩;intro k off hp;rw[hb.frozen (hlt _ hp)];exact hz1 k off hp
def Zct:List (String × DataW Unit):=[("math/bits.deBruijn32tab",Rows.laid_math_bits_deBruijn32tab),("math/bits.deBruijn64tab",Rows.laid_math_bits_deBruijn64tab),("internal/strconv.uint64pow10",Rows.laid_internal_strconv_uint64pow10),("unicode/utf8.acceptRanges",Rows.laid_unicode_utf8_acceptRanges),("strconv.ErrRange",Rows.laid_strconv_ErrRange),("strconv.ErrSyntax",Rows.laid_strconv_ErrSyntax),("unicode/utf8.first",Rows.laid_unicode_utf8_first)]
def ZuY:Zct.filter (fun x =>x.1 == "internal/strconv.uint64pow10") = [("internal/strconv.uint64pow10",Rows.laid_internal_strconv_uint64pow10)]:=by kernel_rfl
def ZvY:(Rows.laid_internal_strconv_uint64pow10:DataW Unit)= .agg (Lib.pow10Tab.map fun n=> .lit (.int .u64 n)):=by kernel_rfl
def ZeV{W:World}(h0:laidMetH Tryz.prog Zct W):∃tb,Zk8 tb/\W.heap[3]? =some tb:=by have h:=h0.filter fun x =>x.1 == "internal/strconv.uint64pow10";rw[ZuY,MakeChecks.laidMetH_plain _ _ _ Ka]at h;obtain⟨ps,⟨g,t,cs,fuel,p,q,hg,ht,hv,hd,_,_⟩,_,_⟩:=h;obtain rfl:=YQ ((show Tryz.prog.globalNamed "internal/strconv.uint64pow10" = some 3 by kernel_rfl).symm.trans hg);obtain rfl:=YQ ((show(Tryz.prog.globals[3]?).map (·.type)=some 316 by kernel_rfl).symm.trans ht);obtain⟨xs,m,_,ex,hcl,hl,hel⟩:=DataW.trod_array Tryz.underlying316 hd;(have c5:Tryz.prog.cellsOf 272=1:=by kernel_rfl);(have c20:Tryz.prog.cellsOf 316=20:=by kernel_rfl);(have hp:Lib.pow10Tab.length=20:=by kernel_rfl);(have hcs:cs.toList=Lib.pow10Tab.map (Value.int .u64):=by have e3:(xs.map (·.1))=Lib.pow10Tab.map fun n=> .lit (.int .u64 n):=((ZvY.symm.trans (Prod.mk.inj ex).1)|>DataW.agg.inj).symm;refine Ybo (by rw[Yc,hp,<-c20];exact hcl) fun r h1 h2=>?_;rw[Yc,hp]at h2;have hE:=hel r h2;rw[c5,Yab,Yd Kc]at hE;obtain⟨z,e1,e2,_⟩:=DataW.trod_int Tryz.underlying272 hE;(have e4:(xs.map (·.1))[r]? =(Lib.pow10Tab.map fun n=>(DataW.lit (.int .u64 n):DataW Unit))[r]?:=by rw[e3]);rw[Y0,Y0,Yd (by omega:r<xs.length),Yd (by omega:r<Lib.pow10Tab.length),e2]at e4;simp only[YR,Ya,DataW.lit.injEq,Lit.int.injEq,YcO]at e4;(have h0:((cs.toList.drop r).take 1)[0]? =some (.int .u64 z):=by rw[e1];rfl);rw[Y6]at h0;simp only[Yaf]at h0;rw[Ycx,<-e4];(have h3:cs.toList[r]? =some (.int .u64 z):=by simpa using h0);rw[Yd h1]at h3;exact YQ h3);unfold World.var? at hv;rw [show Tryz.prog.globalNamed "internal/strconv.uint64pow10" = some 3 by kernel_rfl]at hv;simp only[Ya8]at hv;split at hv;{rename_i c ty fr hb;cases hv;exact⟨_,⟨ty,fr,by rw[<-hcs]⟩,hb⟩};{cases hv}
end Go.Proofs.YtcggfogkfhlmlaaGreatDoor
