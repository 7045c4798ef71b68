
import Derived.Test.YtcggfogkfhlmlaaGreatDoorV1
import Derived.LoopNIn
import Derived.OrdersIn
import Derived.RegionIn
import Derived.RangeFuncNested
import Derived.Laws.IdiomStrings
import Derived.Lib.AppendStr
import Derived.Laws.Externs
import Derived.Lib.Bytealg
set_option linter.unusedVariables false
set_option linter.defProp false
set_option linter.unusedSimpArgs false
namespace Go.V
section
variable{P:Program}{σ σ':St}{d:Nat}
def ZnF{g:Nat×Bool}(h:σ'.env g.1=σ.env g.1):σ'.guard g=σ.guard g:=by unfold St.guard;rw[h]
def Zqy{i:Ins}{ε:Eff}(h:∀x∈i.i.xs,σ'.val x=σ.val x)(ho:σ'.own=σ.own)(hg:∀g,i.g=some g->σ'.env g.1=σ.env g.1):Zcm P i σ' ε↔Zcm P i σ ε:=by
 obtain⟨d,ins,g,s⟩:=i;have hp:=Zs3 h ho;have hm:=Zqv (d:=d) h ho;have hcall:∀f xs,ins= .call f xs->σ'.val f=σ.val f/\(∀x∈xs,σ'.val x=σ.val x):=by rintro f xs rfl;exact⟨h f (by simp[I.xs]),fun x hx=>h x (by simp[I.xs,hx])⟩
 cases g with
 |none=>
  cases ins<;>first
   |(rename_i f xs;obtain⟨h1,h2⟩:=hcall f xs rfl;simp only[Zcm,h1,Zda h2,Zet h2,ho];done)
   |(simp only[Zcm,hp,hm])
 |some g=>
  have hgg:=ZnF (hg g rfl);cases ins<;>first
   |(rename_i f xs;obtain⟨h1,h2⟩:=hcall f xs rfl;simp only[Zcm,hgg,h1,Zda h2,Zet h2,ho];done)
   |(simp only[Zcm,hgg,hp,hm])
def Zeu{i:I}(h:i.putsB=true)(d:Option Nat):ZeZ σ d i=none:=by cases i<;>cases d<;>first|rfl|simp[I.putsB]at h
def Zf1{i:Ins}{ε:Eff}(h:i.i.putsB=true)(ho:Zcm P i σ ε):∃v,ε= .put v:=by
  obtain⟨d,ins,g,s⟩:=i;have hm:=Zeu (σ:=σ) h d;cases g with
  |none=>
    cases ins<;>first
      |(obtain⟨_,_,_,r,_,_,_,_,_,_,rfl⟩:=ho;exact⟨r,rfl⟩)
      | (simp only [Zcm] at ho
         rcases ho with⟨q,v,_,_,rfl⟩|⟨_,q,h2,_⟩
         · exact⟨v,rfl⟩
         · simp only at hm;rw[hm]at h2;cases h2)
  |some g=>
    cases ins<;>first
      |(obtain⟨G,_,r,_,_,rfl⟩:=ho;exact⟨_,rfl⟩)
      | (simp only [Zcm] at ho
         obtain⟨G,_,ho⟩:=ho;rcases ho with⟨q,v,_,_,rfl⟩|⟨_,⟨q,h2,_⟩|⟨_,_,rfl⟩⟩
         · exact⟨_,rfl⟩
         · simp only at hm;rw[hm]at h2;cases h2
         · exact⟨_,rfl⟩)
def Zmu{e:Option Nat}{i:I}{q:Prop}{ε:Eff}(hm:ZeZ σ e i=some (q,ε))(hq:q):
  (∃d r o rm,e=some d/\ε= .new r o rm/\rmO σ.own rm d= .none/\(rm=none\/∃n e' sz es,rm=some n/\σ.own n= .grow e' sz es/\i.consumes=true))\/
  (∃n cs cs',ε= .set n (.box cs')/\σ.own n= .box cs/\i.writesBox=true):=by
 (have hnone:∀{o:Ob},o.isNone=true->o= .none:=fun{o} h=>by cases o<;>simp_all [Ob.isNone]);cases i<;>cases e<;>(try(simp[ZeZ]at hm;done))
 case alloc.some cs d=>
  simp only[ZeZ,Ya,Yj]at hm;obtain⟨rfl,rfl⟩:=hm;exact .inl ⟨d,_,_,none,rfl,rfl,hnone hq,.inl rfl⟩
 case mks.some e sz bytes z x y d=>
  simp only[ZeZ]at hm;split at hm
  ·simp only[Ya,Yj]at hm;obtain⟨rfl,rfl⟩:=hm;exact .inl ⟨d,_,_,none,rfl,rfl,hnone hq.1,.inl rfl⟩
  ·cases hm
 case box.some sz x d=>
  simp only[ZeZ]at hm;split at hm
  ·simp only[Ya,Yj]at hm;obtain⟨rfl,rfl⟩:=hm;exact .inl ⟨d,_,_,none,rfl,rfl,hnone hq.1,.inl rfl⟩
  ·cases hm
 case bsl.some e sz xs d=>
  simp only[ZeZ]at hm;split at hm
  ·simp only[Ya,Yj]at hm;obtain⟨rfl,rfl⟩:=hm;exact .inl ⟨d,_,_,none,rfl,rfl,hnone hq.1,.inl rfl⟩
  ·cases hm
 case st.none sz x y=>
  simp only[ZeZ]at hm;split at hm
  ·rename_i n o vs _ _;split at hm
   ·rename_i cs hown;simp only[Ya,Yj]at hm;obtain⟨rfl,rfl⟩:=hm;exact .inr ⟨n,cs,_,rfl,hown,rfl⟩
   ·cases hm
  ·cases hm
 case app.some e sz bytes s x d=>
  simp only[ZeZ]at hm;split at hm
  ·rename_i n ys _ _;split at hm
   ·rename_i e' sz' es hown;split at hm
    ·simp only[Ya,Yj]at hm;obtain⟨rfl,rfl⟩:=hm;exact .inl ⟨d,_,_,some n,rfl,rfl,hnone hq.2.2.1,.inr ⟨n,e',sz',es,rfl,hown,rfl⟩⟩
    ·cases hm
   ·cases hm
  ·simp only[Ya,Yj]at hm;obtain⟨rfl,rfl⟩:=hm;exact .inl ⟨d,_,_,none,rfl,rfl,hnone hq.2.2.1,.inl rfl⟩
  ·cases hm
def ZsP{e:Option Nat}{i:I}(hw:i.writesBox=true){q:Prop}{ε:Eff}(hm:ZeZ σ e i=some (q,ε)):∃n cs cs',ε= .set n (.box cs')/\σ.own n= .box cs:=by cases i<;>simp only[I.writesBox,Yp]at hw;cases e<;>simp only[ZeZ,reduceCtorEq]at hm;split at hm;{split at hm;{rename_i hn;simp only[Ya,Yj]at hm;exact⟨_,_,_,hm.2.symm,hn⟩};{cases hm}};{cases hm}
def ZyX{i:Ins}{ε:Eff}(hw:i.i.writesBox=true)(ho:Zcm P i σ ε):(∃v,ε= .put v)\/∃n cs cs',ε= .set n (.box cs')/\σ.own n= .box cs:=by
 obtain⟨d,ins,g,s⟩:=i;cases ins<;>simp only[I.writesBox,Yp]at hw
 cases g with
 |none=>simp only[Zcm]at ho;rcases ho with⟨q,v,_,_,rfl⟩|⟨_,q,h2,hq⟩;{exact .inl ⟨v,rfl⟩};{exact .inr (ZsP rfl h2)}
 |some g=>simp only[Zcm]at ho;obtain⟨G,_,ho⟩:=ho;rcases ho with⟨q,v,_,_,rfl⟩|⟨_,⟨q,h2,_,hq⟩|⟨_,_,rfl⟩⟩;{exact .inl ⟨_,rfl⟩};{exact .inr (ZsP rfl h2)};{exact .inl ⟨_,rfl⟩}
def ZmA{i:Ins}{ε:Eff}(ho:Zcm P i σ ε):
    (∃v,ε= .put v)\/(∃d r o rm,i.d=some d/\ε= .new r o rm/\rmO σ.own rm d= .none/\(rm=none\/∃n e' sz es,rm=some n/\σ.own n= .grow e' sz es/\i.i.consumes=true))\/
    (∃n cs cs',ε= .set n (.box cs')/\σ.own n= .box cs/\i.i.writesBox=true):=by
  obtain⟨d,ins,g,s⟩:=i;cases g with
  |none=>
    cases ins<;>first
      |(obtain⟨_,_,_,r,_,_,_,_,_,_,rfl⟩:=ho;exact .inl ⟨r,rfl⟩)
      | (simp only [Zcm] at ho
         rcases ho with⟨q,v,_,_,rfl⟩|⟨_,q,h2,hq⟩
         · exact .inl ⟨v,rfl⟩
         · exact .inr (Zmu h2 hq))
  |some g=>
    cases ins<;>first
      |(obtain⟨G,_,r,_,_,rfl⟩:=ho;exact .inl ⟨_,rfl⟩)
      | (simp only [Zcm] at ho
         obtain⟨G,_,ho⟩:=ho;rcases ho with⟨q,v,_,_,rfl⟩|⟨_,⟨q,h2,_,hq⟩|⟨_,_,rfl⟩⟩
         · exact .inl ⟨_,rfl⟩
         · exact .inr (Zmu h2 hq)
         · exact .inl ⟨_,rfl⟩)
def Zxn{x:AV}{f:FuncId}{caps:List AV}(h:x.prg d= .fn f caps):∃c,x= .fn f c/\caps=AV.prgL d c:=by cases x<;>simp only[AV.prg,reduceCtorEq,AV.fn.injEq]at h;{split at h<;>cases h};{split at h<;>cases h};{split at h<;>cases h};{obtain⟨rfl,rfl⟩:=h;exact⟨_,rfl,rfl⟩}
def ZiK{i:Ins}{ε':Eff}(hpu:i.i.putsB=true)(hc:i.i.constB=true)(h:Newer σ σ' d i.i.xs)(hg:∀g,i.g=some g->σ'.env g.1=(σ.env g.1).prg d)(ho:Zcm P i σ' ε'):
    ∃v,Zcm P i σ (.put v)/\ε'= .put (v.prg d):=by
  obtain⟨e,ins,g⟩:=i;have hp:=ZmE h hc;have hm:=Zeu (σ:=σ') hpu e
  have callee:∀{f xs fid caps args},ins= .call f xs->(σ'.val f).dg=true->(xs.all fun x=>(σ'.val x).dg)=true->(σ'.val f).dv= .fn fid caps->AV.portL σ'.own (xs.map (fun x=>(σ'.val x).dv)++caps)=some args->
      ∃caps',(σ.val f).dg=true/\(xs.all fun x=>(σ.val x).dg)=true/\(σ.val f).dv= .fn fid caps'/\AV.portL σ.own (xs.map (fun x=>(σ.val x).dv)++caps')=some args:=by
    rintro f xs fid caps args rfl h1 h2 h3 h4;have hf:f∈(I.call f xs).xs:=by simp[I.xs]
    have hxs:∀x∈xs,x∈(I.call f xs).xs:=fun x hx=>by simp[I.xs,hx]
    rw[h.dg hf]at h1;rw[h.all_dg xs hxs]at h2;rw[h.dv hf]at h3;obtain⟨c,hc,rfl⟩:=Zxn h3;rw[h.map_dv xs hxs,<-ZdV,h.portL]at h4;exact⟨c,h1,h2,hc,h4⟩
  cases g with
  |none=>
    cases ins<;>first
      | (obtain ⟨fid, caps, args, r, k1, k2, k3, k4, k5, k6, rfl⟩ := ho
         obtain⟨c,j1,j2,j3,j4⟩:=callee rfl k1 k2 k3 k4;exact⟨r,⟨fid,c,args,r,j1,j2,j3,j4,k5,k6,rfl⟩,by rw[prg_pure d k5]⟩)
      | (simp only [Zcm] at ho |-
         rcases ho with⟨q,v,k1,k2,rfl⟩|⟨_,q,k2,_⟩
         · simp only[hp,Yh]at k1
           obtain⟨⟨q',v'⟩,k1,k3⟩:=k1;simp only[Yj]at k3;obtain⟨rfl,rfl⟩:=k3;exact⟨v',.inl ⟨_,v',k1,k2,rfl⟩,rfl⟩
         · simp only at hm;rw[hm]at k2;cases k2)
  |some g=>
    have hgg:=Zix (hg g rfl);cases ins<;>first
      | (obtain ⟨G, hG, r, k5, k6, rfl⟩ := ho
         refine⟨.opt G r,⟨G,by rw[<-hgg];exact hG,r,k5,fun hGt=>?_,rfl⟩,by rw[show(AV.opt G r).prg d= .opt G (r.prg d)from rfl,prg_pure d k5]⟩;obtain⟨fid,caps,args,k1,k2,k3,k4,k7⟩:=k6 hGt;obtain⟨c,j1,j2,j3,j4⟩:=callee rfl k1 k2 k3 k4;exact⟨fid,c,args,j1,j2,j3,j4,k7⟩)
      | (simp only [Zcm] at ho |-
         obtain⟨G,hG,ho⟩:=ho;rcases ho with⟨q,v,k1,k2,rfl⟩|⟨_,⟨q,k2,_⟩|⟨k2,_,_⟩⟩
         · simp only[hp,Yh]at k1
           obtain⟨⟨q',v'⟩,k1,k3⟩:=k1;simp only[Yj]at k3;obtain⟨rfl,rfl⟩:=k3;exact⟨.opt G v',⟨G,by rw[<-hgg];exact hG,.inl ⟨_,v',k1,k2,rfl⟩⟩,rfl⟩
         · simp only at hm;rw[hm]at k2;cases k2
         · simp only at hpu;rw[hpu]at k2;cases k2)
def ZiJ{i:Ins}{ε:Eff}{env:Nat->AV}{own own':Nat->Ob}{b:Bool}(hpu:i.i.putsB=true)(h:OwnLe b own' own)(hb:b=true->i.i.readsBox=false)(ho:Zcm P i ⟨env,own'⟩ ε):Zcm P i ⟨env,own⟩ ε:=by
  obtain⟨e,ins,g⟩:=i;have hm:=Zeu (σ:=⟨env,own'⟩) hpu e;have hv:∀x,St.val ⟨env,own'⟩ x=St.val ⟨env,own⟩ x:=Zca;cases g with
  |none=>
    cases ins<;>first
      | (obtain ⟨fid, caps, args, r, k1, k2, k3, k4, k5, k6, rfl⟩ := ho
         simp only[hv]at k1 k2 k3 k4;exact⟨fid,caps,args,r,k1,k2,k3,h.portL k4,k5,k6,rfl⟩)
      | (simp only [Zcm] at ho |-
         rcases ho with⟨q,v,k1,k2,rfl⟩|⟨_,q,k2,_⟩
         · exact .inl ⟨q,v,h.pev hb k1,k2,rfl⟩
         · simp only at hm;rw[hm]at k2;cases k2)
  |some g=>
    cases ins<;>first
      | (obtain ⟨G, hG, r, k5, k6, rfl⟩ := ho
         refine⟨G,hG,r,k5,fun hGt=>?_,rfl⟩;obtain⟨fid,caps,args,k1,k2,k3,k4,k7⟩:=k6 hGt;simp only[hv]at k1 k2 k3 k4;exact⟨fid,caps,args,k1,k2,k3,h.portL k4,k7⟩)
      | (simp only [Zcm] at ho |-
         obtain⟨G,hG,ho⟩:=ho;refine⟨G,hG,?_⟩;rcases ho with⟨q,v,k1,k2,rfl⟩|⟨_,⟨q,k2,_⟩|⟨k2,_,_⟩⟩
         · exact .inl ⟨q,v,h.pev hb k1,k2,rfl⟩
         · simp only at hm;rw[hm]at k2;cases k2
         · simp only at hpu;rw[hpu]at k2;cases k2)
def Zs2{env:Nat->AV}{own:Nat->Ob}{n e sz:Nat}{es:List (List CD)}(hn:own n= .grow e sz es){i:I}(hr:i.readsGrow=false){r:Prop×AV}(h:pevO ⟨env,own⟩ i=some r):pevO ⟨env,upd own n .none⟩ i=some r:=by
 have hv:∀x,St.val ⟨env,upd own n .none⟩ x=St.val ⟨env,own⟩ x:=Zca;(have hbox:∀m,(own m).isBox=true->upd own n .none m=own m:=fun m hm=>by by_cases hmn:m=n;{subst hmn;rw[hn]at hm;cases hm};{simp[upd,hmn]});cases i<;>(try(simp[I.readsGrow]at hr;done))
 case fa off x=>
  simp only[pevO,hv]at h|-;generalize hx:(St.val ⟨env,own⟩ x).dv=y at h|-;cases y;case bp m o=>
   simp only at h|-;split at h
   ·rename_i hb;rw[hbox m hb,Yt hb];exact h
   ·cases h
  case c c=>cases c<;>exact h
  all_goals exact h
 case nilc x=>
  simp only[pevO,hv]at h|-;generalize hx:(St.val ⟨env,own⟩ x).dv=y at h|-;cases y;case bp m o=>
   simp only at h|-;split at h
   ·rename_i hb;rw[hbox m hb,Yt hb];exact h
   ·cases h
  case c c=>cases c<;>exact h
  all_goals exact h
 case iap n sz x i=>
  simp only[pevO,hv]at h|-;generalize(St.val ⟨env,own⟩ i).dv.asC=u at h|-;generalize(St.val ⟨env,own⟩ x).dv=y at h|-;rcases u with _|u
  ·exact h
  ·cases u<;>try exact h
   simp only at h|-;cases y;case bp m o=>
    simp only at h|-;split at h
    ·rename_i hb;rw[hbox m hb,Yt hb];exact h
    ·cases h
   case c c=>cases c<;>exact h
   all_goals exact h
 case ld one sz x=>
  simp only[pevO,hv]at h|-;generalize hx:(St.val ⟨env,own⟩ x).dv=y at h|-;cases y;case bp m o=>
   simp only at h|-;cases hm:own m with
   |none=>rw[hm]at h;cases h
   |grow _ _ _=>rw[hm]at h;cases h
   |win _=>rw[hm]at h;cases h
   |guest _ _=>rw[hm]at h;cases h
   |mp _ _ _=>rw[hm]at h;cases h
   |box cs=>rw[hbox m (by rw[hm];rfl),hm];rw[hm]at h;exact h
  case c c=>cases c<;>exact h
  all_goals exact h
 all_goals first
  |(simp only[pevO,hv]at h|-;exact h)
  |exact h
def Zpm{env:Nat->AV}{own:Nat->Ob}{n e sz:Nat}{es:List (List CD)}(hn:own n= .grow e sz es){i:I}(hr:i.readsGrow=false){r:Prop×AV}(h:pev ⟨env,own⟩ i=some r):pev ⟨env,upd own n .none⟩ i=some r:=by
 rw[ZmD]at h|-;rcases h with h|h
 ·exfalso;cases i<;>first
   |(simp[vwp]at h;done)
   |(simp[I.readsGrow]at hr;done)
 ·exact .inr (Zs2 hn hr h)
def Zj5{i:Ins}{v:AV}(hpu:i.i.putsB=true)(hnc:i.i.callB=false)(hc:i.i.constB=true)(h:Newer σ σ' d i.i.xs)(hg:∀g,i.g=some g->σ'.env g.1=(σ.env g.1).prg d)(ho:Zcm P i σ (.put v)):Zcm P i σ' (.put (v.prg d)):=by
  obtain⟨e,ins,g⟩:=i;have hp:=ZmE h hc;have hm:=Zeu (σ:=σ) hpu e;cases g with
  |none=>
    cases ins<;>first
      |(simp[I.callB]at hnc;done)
      | (simp only [Zcm] at ho |-
         rcases ho with⟨q,v',k1,k2,k3⟩|⟨_,q,k2,_⟩
         · simp only[Eff.put.injEq]at k3
           subst k3;simp only at hp;exact .inl ⟨q,_,by rw[hp,k1];rfl,k2,rfl⟩
         · simp only at hm;rw[hm]at k2;cases k2)
  |some g=>
    have hgg:=Zix (hg g rfl);cases ins<;>first
      |(simp[I.callB]at hnc;done)
      | (simp only [Zcm] at ho |-
         obtain⟨G,hG,ho⟩:=ho;refine⟨G,by rw[hgg];exact hG,?_⟩;rcases ho with⟨q,v',k1,k2,k3⟩|⟨_,⟨q,k2,_⟩|⟨k2,_,_⟩⟩
         · simp only[Eff.put.injEq]at k3
           subst k3;simp only at hp;exact .inl ⟨q,_,by rw[hp,k1];rfl,k2,rfl⟩
         · simp only at hm;rw[hm]at k2;cases k2
         · simp only at hpu;rw[hpu]at k2;cases k2)
def Zs0{i:Ins}{ε:Eff}{env:Nat->AV}{own:Nat->Ob}{n e sz:Nat}{es:List (List CD)}(hpu:i.i.putsB=true)(hnc:i.i.callB=false)(hn:own n= .grow e sz es)(hr:i.i.readsGrow=false)(ho:Zcm P i ⟨env,own⟩ ε):
    Zcm P i ⟨env,upd own n .none⟩ ε:=by
  obtain⟨e',ins,g⟩:=i;have hm:=Zeu (σ:=⟨env,own⟩) hpu e';cases g with
  |none=>
    cases ins<;>first
      |(simp[I.callB]at hnc;done)
      | (simp only [Zcm] at ho |-
         rcases ho with⟨q,v',k1,k2,k3⟩|⟨_,q,k2,_⟩
         · exact .inl ⟨q,v',Zpm hn hr k1,k2,k3⟩
         · simp only at hm;rw[hm]at k2;cases k2)
  |some g=>
    cases ins<;>first
      |(simp[I.callB]at hnc;done)
      | (simp only [Zcm] at ho |-
         obtain⟨G,hG,ho⟩:=ho;refine⟨G,hG,?_⟩;rcases ho with⟨q,v',k1,k2,k3⟩|⟨_,⟨q,k2,_⟩|⟨k2,_,_⟩⟩
         · exact .inl ⟨q,v',Zpm hn hr k1,k2,k3⟩
         · simp only at hm;rw[hm]at k2;cases k2
         · simp only at hpu;rw[hpu]at k2;cases k2)
def Zgj{α:Type}(f:Nat->α){s t:Nat}(h:s≠t)(u v:α):upd (upd f s u) t v=upd (upd f t v) s u:=by funext n;simp only[upd];by_cases h1:n=t<;>by_cases h2:n=s<;>simp_all
def St.ext{σ σ':St}(h1:σ.env=σ'.env)(h2:σ.own=σ'.own):σ=σ':=by cases σ;cases σ';simp_all
def ZnY(σ:St){d e:Option Nat}(h:∀x,d=some x->e≠some x)(u v:AV):(σ.put d u).put e v=(σ.put e v).put d u:=by(cases d<;>cases e<;>try rfl);rename_i d e;simp only[St.put];rw[Zgj _ (fun x=>h d rfl (by rw[x]))]
def Zhz(d:Nat)(f:Nat->AV)(t:Nat)(v:AV):ZdI d (upd f t v)=upd (ZdI d f) t (v.prg d):=by funext n;simp only[ZdI,upd];split<;>rfl
def ZsY(env:Nat->AV)(own:Nat->Ob){d:Nat}{e:Option Nat}(h:e≠some d)(r:AV)(o:Ob)(v:AV):
  St.new (St.put ⟨env,own⟩ e v) d r o=(St.new ⟨env,own⟩ d r o).put e (v.prg d):=by(cases e with|none=>rfl|some e=>have hne:e≠d:=fun x=>h (by rw[x]);refine St.ext ?_ rfl;simp only[St.new,St.put,Zhz];exact Zgj _ hne _ _)
def Zkt{e:Option Nat}{v:AV}{x:X}(h:∀d,e=some d->x≠ .t d):(σ.put e v).val x=σ.val x:=by(cases e with|none=>rfl|some d=>(cases x with|k v=>rfl|t n=>have:n≠d:=fun e=>h d rfl (by rw[e]);simp[St.put,St.val,upd,this]))
def ZdE{i:Ins}{d:Nat}(h:d∉i.looks):(∀x∈i.i.xs,x≠ .t d)/\(∀g,i.g=some g->g.1≠d):=by simp only[Ins.looks,YD,Ydb]at h;refine⟨fun x hx hxd=>h.1 ?_,fun g hg hgd=>h.2 ?_⟩;{exact List.mem_filterMap.2 ⟨x,hx,by rw[hxd];rfl⟩};{rw[hg];obtain⟨a,b⟩:=g;simp at hgd;simp[hgd]}
def Zdg{i:Ins}{ε:Eff}{e:Option Nat}{v:AV}(h:∀d,e=some d->d∉i.looks):Zcm P i (σ.put e v) ε↔Zcm P i σ ε:=by(refine Zqy (fun x hx=>Zkt fun d hd hxd=>(ZdE (h d hd)).1 x hx hxd) (by cases e<;>rfl) (fun g hg=>?_);cases e with|none=>rfl|some d=>have:=(ZdE (h d rfl)).2 g hg;simp[St.put,upd,this])
def ZiF{env:Nat->AV}{own:Nat->Ob}{d:Nat}{r:AV}{o:Ob}{i:Ins}(hd:own d= .none)(hl:d∉i.looks)(hok:i.i.xs.all X.okB=true):
  Newer ⟨env,own⟩ (St.new ⟨env,own⟩ d r o) d i.i.xs/\∀g,i.g=some g->(St.new ⟨env,own⟩ d r o).env g.1=(env g.1).prg d:=by(obtain⟨h1,h2⟩:=ZdE hl;refine⟨⟨fun x hx=>?_,fun n hn=>by simp[St.new,upd,hn,ZbE],hd⟩,fun g hg=>by simp[St.new,upd,h2 g hg,ZdI]⟩;cases x with|t n=>have:n≠d:=fun e=>h1 _ hx (by rw[e]);simp[St.val,St.new,upd,this,ZdI]|k v=>have:=Yn.1 hok _ hx;simp only[X.okB]at this;simp only[St.val];rw[prg_pure d this])
def ZCL(own:Nat->Ob)(rm:Option Nat):OwnLe false (rmO own rm) own:=by(intro n;cases rm with|none=>exact .inl rfl|some m=>by_cases h:n=m;{subst h;right;left;simp[rmO,upd]};{left;simp[rmO,upd,h]})
def Zgw{i j:Ins}(hc:comm i j=true):i.s=false/\j.s=false:=by simp only[comm,Yf,YaB]at hc;exact⟨hc.1.1.1.1.1.1.1.1.1.1,hc.1.1.1.1.1.1.1.1.1.2⟩
def Zqb{i j:Ins}(hc:comm i j=true){K:St->Prop}(h:ZaQ P i (fun σ1=>ZaQ P j K σ1) σ):ZaQ P j (fun σ1=>ZaQ P i K σ1) σ:=by simp only[comm,Yf]at hc;obtain⟨⟨⟨⟨⟨⟨⟨_,c1⟩,c2⟩,c3⟩,c4⟩,c5⟩,c6⟩,c7⟩:=hc;(have hid:∀d,i.d=some d->d∉j.looks/\j.d≠some d:=by intro d hd;rw[hd]at c1;simpa using c1);(have hjd:∀d,j.d=some d->d∉i.looks:=by intro d hd;rw[hd]at c2;simpa using c2);rw[ZbP]at h;obtain⟨εi,hi,h⟩:=h;rw[ZbP]at h;obtain⟨εj,hj,hK⟩:=h;rw[ZbP];(suffices hs:∃εj' εi',Zcm P j σ εj'/\Zcm P i (εj'.app j.d σ) εi'/\εi'.app i.d (εj'.app j.d σ)=εj.app j.d (εi.app i.d σ) by obtain⟨εj',εi',h1,h2,h3⟩:=hs;refine⟨εj',h1,?_⟩;rw[ZbP];exact⟨εi',h2,by rw[h3];exact hK⟩);simp only[Yae,Yf,YaB,YbM]at c7;rcases c7 with(⟨hpu,hbx⟩|⟨⟨⟨hpu,hnc⟩,hcr⟩,hrc⟩)|⟨⟨hpu,hnb⟩,hwb⟩;{obtain⟨vj,rfl⟩:=Zf1 hpu hj;rcases ZmA hi with⟨v,rfl⟩|⟨d,r,o,rm,hd,rfl,hnone,_⟩|⟨n,cs,cs',rfl,hown,hwb⟩;{refine⟨.put vj,.put v,(Zdg (fun d hd=>(hid d hd).1)).1 hj,(Zdg hjd).2 hi,?_⟩;exact ZnY σ (fun x hx hx'=>(hid x hx').2 hx) vj v};{(have e1:(Eff.new r o rm).app i.d σ=St.new ⟨σ.env,rmO σ.own rm⟩ d r o:=by rw[hd];rfl);rw[e1]at hj;obtain⟨hn,hg⟩:=ZiF (env:=σ.env) (own:=rmO σ.own rm) (r:=r) (o:=o) hnone (hid d hd).1 c4;obtain⟨v,hv,he⟩:=ZiK hpu c6 hn hg hj;simp only[Eff.put.injEq]at he;subst he;have hv':Zcm P j σ (.put v):=ZiJ (own:=σ.own) hpu (ZCL σ.own rm) Kd hv;refine⟨.put v,.new r o rm,hv',(Zdg hjd).2 hi,?_⟩;rw[e1];simp only[hd,Eff.app];have:=ZsY σ.env (rmO σ.own rm) (d:=d) (e:=j.d) (hid d hd).2 r o v;rw[<-this];cases j.d<;>rfl};{(have hb:j.i.readsBox=false:=by rcases hbx with h|h;{rw[hwb]at h;cases h};{exact h});(have hle:OwnLe true (upd σ.own n (.box cs')) σ.own:=by intro m;by_cases hm:m=n;{subst hm;right;right;exact⟨rfl,by simp[upd,Ob.isBox],by rw[hown];rfl⟩};{left;simp[upd,hm]});have hj':Zcm P j σ (.put vj):=ZiJ (own:=σ.own) hpu hle (fun _=>hb) hj;refine⟨.put vj,.set n (.box cs'),hj',(Zdg hjd).2 hi,?_⟩;simp only[Eff.app];cases j.d<;>rfl}};{obtain⟨v,rfl⟩:=Zf1 hpu hi;have hj':Zcm P j σ εj:=(Zdg (fun d hd=>(hid d hd).1)).1 hj;rcases ZmA hj' with⟨v',rfl⟩|⟨d,r,o,rm,hd,rfl,hnone,hrm⟩|⟨n,cs,cs',rfl,hown,hwb⟩;{refine⟨.put v',.put v,hj',(Zdg hjd).2 hi,?_⟩;exact ZnY σ (fun x hx hx'=>(hid x hx').2 hx) v' v};{obtain⟨hn,hg⟩:=ZiF (env:=σ.env) (own:=rmO σ.own rm) (r:=r) (o:=o) hnone (hjd d hd) c3;(have e1:(Eff.new r o rm).app j.d σ=St.new ⟨σ.env,rmO σ.own rm⟩ d r o:=by rw[hd];rfl);(have hi':Zcm P i ⟨σ.env,rmO σ.own rm⟩ (.put v):=by rcases hrm with rfl|⟨n,e',sz,es,rfl,hgr,hcons⟩;{exact hi};{(have hr:i.i.readsGrow=false:=by rcases hrc with h|h;{exact h};{rw[hcons]at h;cases h});exact Zs0 hpu hnc hgr hr hi});refine⟨.new r o rm,.put (v.prg d),hj',?_,?_⟩;{rw[e1];exact Zj5 hpu hnc c5 hn hg hi'};{rw[e1];simp only[Eff.app];have hne:i.d≠some d:=fun h=>(hid d h).2 hd;have:=ZsY σ.env (rmO σ.own rm) (d:=d) (e:=i.d) hne r o v;rw[<-this];rw[hd];cases i.d<;>rfl}};{exfalso;cases hji:j.i<;>rw[hji]at hwb hcr<;>simp[I.writesBox,I.creates]at hwb hcr}};{obtain⟨v,rfl⟩:=Zf1 hpu hi;have hj':Zcm P j σ εj:=(Zdg (fun d hd=>(hid d hd).1)).1 hj;rcases ZyX hwb hj' with⟨v',rfl⟩|⟨n,cs,cs',rfl,hown⟩;{refine⟨.put v',.put v,hj',(Zdg hjd).2 hi,?_⟩;exact ZnY σ (fun x hx hx'=>(hid x hx').2 hx) v' v};{(have hle:OwnLe true σ.own (upd σ.own n (.box cs')):=by intro m;by_cases hm:m=n;{subst hm;right;right;exact⟨rfl,by rw[hown];rfl,by simp[upd,Ob.isBox]⟩};{left;simp[upd,hm]});have hi':Zcm P i ⟨σ.env,upd σ.own n (.box cs')⟩ (.put v):=ZiJ (own':=σ.own) hpu hle (fun _=>hnb) hi;refine⟨.set n (.box cs'),.put v,hj',hi',?_⟩;simp only[Eff.app];cases i.d<;>rfl}}
end
end Go.V
namespace Go.V
mutual
def back_prg{dd d:Nat}(hd:d≠dd):∀{x y:AV},x.back [dd]=some y->y.prg d=y
 |.c x,y,h=>by simp only[AV.back,Ya]at h;subst h;rfl
 |.gr n,y,h=>by simp only[AV.back]at h;split at h;{simp only[Yh]at h;obtain⟨m,hm,rfl⟩:=h;(have:m=dd:=by have:=Yu hm;simpa using this);subst this;simp only[AV.prg,fun e:m=d=>hd e.symm,YA];rw[Yx (fun e=>hd e.symm)]};{cases h}
 |.bp n o,y,h=>by simp only[AV.back]at h;split at h;{simp only[Yh]at h;obtain⟨m,hm,rfl⟩:=h;(have:m=dd:=by have:=Yu hm;simpa using this);subst this;simp only[AV.prg];rw[Yx (fun e=>hd e.symm)]};{cases h}
 |.vw sz n o l c,y,h=>by simp only[AV.back]at h;split at h;{simp only[Yh]at h;obtain⟨m,hm,rfl⟩:=h;(have:m=dd:=by have:=Yu hm;simpa using this);subst this;simp only[AV.prg];rw[Yx (fun e=>hd e.symm)]};{cases h}
 |.agg cs,y,h=>by simp only[AV.back,Yh]at h;obtain⟨ys,h,rfl⟩:=h;simp only[AV.prg,backL_prg hd h]
 |.tup cs,y,h=>by simp only[AV.back,Yh]at h;obtain⟨ys,h,rfl⟩:=h;simp only[AV.prg,backL_prg hd h]
 |.fn f cs,y,h=>by simp only[AV.back,Yh]at h;obtain⟨ys,h,rfl⟩:=h;simp only[AV.prg,backL_prg hd h]
 |.non,y,h=>by simp only[AV.back,Ya]at h;subst h;rfl
 |.opt g x,y,h=>by simp only[AV.back,Yh]at h;obtain⟨z,h,rfl⟩:=h;simp only[AV.prg,back_prg hd h]
def backL_prg{dd d:Nat}(hd:d≠dd):∀{xs ys:List AV},AV.backL [dd] xs=some ys->AV.prgL d ys=ys
 |[],ys,h=>by simp only[AV.backL,Ya]at h;subst h;rfl
 |x::xs,ys,h=>by simp only[AV.backL]at h;split at h;{rename_i y ys' h1 h2;simp only[Ya]at h;subst h;simp only[AV.prgL,back_prg hd h1,backL_prg hd h2]};{cases h}
end
def Zqx{dd d:Nat}(hd:d≠dd){o o':Ob}(h:o.back [dd]=some o'):o'.prg d=o':=by cases o<;>simp only[Ob.back,Yh,Ya]at h;(case box cs=>obtain⟨ys,h,rfl⟩:=h;simp only[Ob.prg,backL_prg hd h]);(case win cs=>obtain⟨ys,h,rfl⟩:=h;simp only[Ob.prg,backL_prg hd h]);all_goals(subst h;rfl)
variable{P:Program}{σ σ':St}{d:Nat}{K:St->Prop}
def Zmx{env:Nat->AV}{own:Nat->Ob}{d:Nat}{r:AV}{o:Ob}{i:Ins}(hd:own d= .none)(hl:d∉i.looks)(hok:i.i.xs.all X.okB=true):
  Newer ⟨env,own⟩ ⟨upd (ZdI d env) d r,upd (ZbE d own) d o⟩ d i.i.xs/\∀g,i.g=some g->(upd (ZdI d env) d r) g.1=(env g.1).prg d:=by(obtain⟨h1,h2⟩:=ZdE hl;refine⟨⟨fun x hx=>?_,fun n hn=>by simp[upd,hn,ZbE],hd⟩,fun g hg=>by simp[upd,h2 g hg,ZdI]⟩;cases x with|t n=>have:n≠d:=fun e=>h1 _ hx (by rw[e]);simp[St.val,upd,this,ZdI]|k v=>have:=Yn.1 hok _ hx;simp only[X.okB]at this;simp only[St.val];rw[prg_pure d this])
def ZfW{o:Ob}(h:o.isNone=true):o= .none:=by cases o<;>first|rfl|cases h
def Ztq(n:Nat){z:List AV}(h:AV.pureL z=true):AV.pureL (List.replicate n z).flatten=true:=by(induction n with|zero=>rfl|succ n ih=>(simp only[YP,YaC];revert ih;generalize(List.replicate n z).flatten=y;intro ih;induction z with|nil=>exact ih|cons a z ihz=>simp only[AV.pureL,Yf]at h;simp only[YH,AV.pureL,Yf];exact⟨h.1,ihz h.2⟩))
def ZsM{i:Ins}{ε:Eff}(hm:i.i.makesB=true)(hg:i.g=none)(hc:i.i.constB=true)(ho:Zcm P i σ ε):
  ∃d0 r0 o0,i.d=some d0/\ε= .new r0 o0 none/\σ.own d0= .none/\(∀d,d≠d0->r0.prg d=r0)/\(∀d,o0.prg d=o0)/\
   ∀(σ':St)(d:Nat),Newer σ σ' d i.i.xs->σ'.own d0= .none->Zcm P i σ' ε:=by
 obtain⟨di,ii,gi,si⟩:=i;simp only at hm hg hc ho|-;subst hg;cases ii<;>simp only[I.makesB,Yp]at hm
 case alloc cs=>
  cases di with
  |none=>exfalso;simp[Zcm,pev,vwp,pevO,ZeZ]at ho
  |some d0=>
   simp only[I.constB]at hc;simp only[Zcm,pev,vwp,pevO,ZeZ]at ho;rcases ho with⟨q,v,h,_⟩|⟨_,q,h,hq⟩
   ·cases h
   ·simp only[Ya,Yj]at h;obtain⟨rfl,rfl⟩:=h;refine⟨d0,_,_,rfl,rfl,ZfW hq,fun d hd=>by simp only[AV.prg];rw[Yx (fun e=>hd e.symm)],fun d=>by simp only[Ob.prg,prgL_pure d hc],fun σ' d hn h0=>?_⟩;simp only[Zcm,pev,vwp,pevO,ZeZ];exact .inr ⟨trivial,_,rfl,by rw[h0];rfl⟩
 case mks e sz bytes z x y=>
  cases di with
  |none=>exfalso;simp[Zcm,pev,vwp,pevO,ZeZ]at ho
  |some d0=>
   simp only[I.constB]at hc;simp only[Zcm,pev,vwp,pevO,ZeZ]at ho;rcases ho with⟨q,v,h,_⟩|⟨_,q,h,hq⟩
   ·cases h
   ·split at h
    ·rename_i k l k' c hx hy;simp only[Ya,Yj]at h;obtain⟨rfl,rfl⟩:=h;obtain⟨q0,q1,q2,q3⟩:=hq;refine⟨d0,_,_,rfl,rfl,ZfW q0,fun d hd=>by simp only[AV.prg];rw[Yx (fun e=>hd e.symm)],fun d=>by simp only[Ob.prg,prgL_pure d (Ztq _ hc)],fun σ' d hn h0=>?_⟩;have hxm:x∈(I.mks e sz bytes z x y).xs:=by simp[I.xs]
     have hym:y∈(I.mks e sz bytes z x y).xs:=by simp[I.xs]
     simp only[Zcm,pev,vwp,pevO,ZeZ,hn.dv hxm,hn.dv hym,ZcT,hx,hy,hn.dg hxm,hn.dg hym];exact .inr ⟨trivial,_,rfl,by rw[h0];rfl,q1,q2,q3⟩
    ·cases h
def ZhH{dj:Option Nat}{f:X}{xs:List X}{K:St->Prop}{σ:St}:AStep P ⟨dj,.calln f xs,none,true⟩ K σ↔Zog P dj f xs K σ:=by unfold AStep;rw[Yt rfl];simp only[Zb0]
def Znx{i j:Ins}(hc:Zii i j=true)(h:ZaQ P i (fun σ1=>AStep P j K σ1) σ):AStep P j (fun σ1=>ZaQ P i K σ1) σ:=by
 obtain⟨dj,ij,gj,sj⟩:=j;simp only[Zii,Yf,YaB]at hc;obtain⟨⟨⟨⟨⟨⟨⟨⟨⟨⟨_,_⟩,hs⟩,hcn⟩,hgj⟩,c1⟩,c2⟩,c3⟩,c4⟩,c5⟩,c6⟩:=hc;(try simp only at hs hcn hgj c4);subst hs;cases ij<;>simp only[I.callnB,Yp]at hcn
 rename_i f xs;cases gj with
 |some g=>cases hgj
 |none=>
 rw[ZhH];rw[ZbP]at h;obtain⟨ε,ho,hk⟩:=h;rw[ZhH]at hk;obtain⟨dd,fid,caps,args,Post,rfl,k1,k2,k3,k4,k5,k6,k7,k8⟩:=hk;(have hdd:dd∉i.looks:=by simpa using c2);(obtain⟨d0,hd0⟩:∃d0,i.d=some d0:=by(cases hd:i.d with|none=>rw[hd]at c1;cases c1|some d0=>exact⟨d0,rfl⟩));rw[hd0]at c1;simp only[Yf,YaB,Yc5,ne_eq,Ya]at c1;obtain⟨c1,hne⟩:=c1;(have hjl:d0∉(⟨some dd,.calln f xs,none,true⟩:Ins).looks:=by simpa using c1);have hxs:∀x∈f::xs,x≠ .t d0:=(ZdE hjl).1;simp only[Yae,Yf,YaB]at c6;rcases c6 with⟨hpu,hnc⟩|⟨hmk,hgi⟩;{obtain⟨v,rfl⟩:=Zf1 hpu ho;(have hv:∀x∈f::xs,(σ.put i.d v).val x=σ.val x:=fun x hx=>Zkt fun d hd=>by rw[hd0]at hd;cases hd;exact hxs x hx);(have hown:(σ.put i.d v).own=σ.own:=by rw[hd0];rfl);have e1:(Eff.put v).app i.d σ=σ.put i.d v:=rfl;rw[e1]at k2 k3 k4 k5 k6 k8;rw[hown]at k2 k6;have hown0:=ZfW k2;refine⟨dd,fid,caps,args,Post,rfl,k1,k2,by rw[<-hv f Kd];exact k3,?_,by rw[<-hv f Kd];exact k5,?_,k7,fun r os hp=>?_⟩;{rw[<-Zda (σ':=σ.put i.d v) fun x hx=>hv x (by simp[hx])];exact k4};{rw[<-Zet (σ':=σ.put i.d v) fun x hx=>hv x (by simp[hx])];exact k6};obtain⟨o,r',o',rfl,b1,b2,hkk⟩:=k8 r os hp;refine⟨o,r',o',rfl,b1,b2,?_⟩;obtain⟨hn,hg⟩:=Zmx (env:=σ.env) (own:=σ.own) (r:=r') (o:=o') hown0 hdd c3;rw[ZbP];refine⟨.put (v.prg dd),Zj5 hpu hnc c5 hn hg ho,?_⟩;(have e2:(Eff.put (v.prg dd)).app i.d ⟨upd (ZdI dd σ.env) dd r',upd (ZbE dd σ.own) dd o'⟩=⟨upd (ZdI dd (σ.put i.d v).env) dd r',upd (ZbE dd (σ.put i.d v).own) dd o'⟩:=by rw[hd0];simp only[Eff.app,St.put];rw[Zhz,Zgj _ (fun e=>hne e)]);rw[e2];exact hkk};{(have hgi:i.g=none:=by simpa using hgi);obtain⟨d0',r0,o0,hd0',rfl,hown,hr0,ho0,hout⟩:=ZsM hmk hgi c5 ho;rw[hd0]at hd0';cases hd0';(have e1:(Eff.new r0 o0 none).app i.d σ=St.new ⟨σ.env,σ.own⟩ d0 r0 o0:=by rw[hd0];rfl);rw[e1]at k2 k3 k4 k5 k6 k8;obtain⟨hnw,_⟩:=ZiF (env:=σ.env) (own:=σ.own) (r:=r0) (o:=o0) (i:=⟨some dd,.calln f xs,none,true⟩) hown hjl c4;have hdn:dd≠d0:=hne;(have hown0:σ.own dd= .none:=by(have:(St.new ⟨σ.env,σ.own⟩ d0 r0 o0).own dd=(σ.own dd).prg d0:=by simp[St.new,upd,hdn,ZbE]);rw[this,Zqp]at k2;exact ZfW k2);(have hfm:f∈(I.calln f xs).xs:=by simp[I.xs]);(have hxm:∀x∈xs,x∈(I.calln f xs).xs:=fun x hx=>by simp[I.xs,hx]);rw[hnw.dg hfm]at k3;rw[hnw.all_dg xs hxm]at k4;rw[hnw.dv hfm]at k5;obtain⟨c,hc1,rfl⟩:=Zxn k5;(have e3:AV.prgL d0 (xs.map fun x=>(σ.val x).dv)++AV.prgL d0 c=AV.prgL d0 ((xs.map fun x=>(σ.val x).dv)++c):=by rw[ZdV]);rw[hnw.map_dv xs hxm,e3,hnw.portL]at k6;refine⟨dd,fid,c,args,Post,rfl,k1,by rw[hown0];rfl,k3,k4,hc1,k6,k7,fun r os hp=>?_⟩;obtain⟨o,r',o',rfl,b1,b2,hkk⟩:=k8 r os hp;refine⟨o,r',o',rfl,b1,b2,?_⟩;obtain⟨hn,hg⟩:=Zmx (env:=σ.env) (own:=σ.own) (r:=r') (o:=o') hown0 hdd c3;rw[ZbP];refine⟨.new r0 o0 none,hout _ dd hn ?_,?_⟩;{show upd (ZbE dd σ.own) dd o' d0=_;simp only[upd,fun e:d0=dd=>hdn e.symm,YA,ZbE,hown,Ob.prg];rw[Yx (fun e=>hdn e.symm)]};{(have e2:(Eff.new r0 o0 none).app i.d ⟨upd (ZdI dd σ.env) dd r',upd (ZbE dd σ.own) dd o'⟩=⟨upd (ZdI dd (St.new ⟨σ.env,σ.own⟩ d0 r0 o0).env) dd r',upd (ZbE dd (St.new ⟨σ.env,σ.own⟩ d0 r0 o0).own) dd o'⟩:=by rw[hd0];(show St.new ⟨upd (ZdI dd σ.env) dd r',upd (ZbE dd σ.own) dd o'⟩ d0 r0 o0=_;have p1:ZdI d0 (ZdI dd σ.env)=ZdI dd (ZdI d0 σ.env):=by funext t;exact prg_comm dd d0 _);(have p2:ZbE d0 (ZbE dd σ.own)=ZbE dd (ZbE d0 σ.own):=by funext t;exact Ob.prg_comm dd d0 _);(have p3:∀(e:Nat)(f:Nat->Ob)(t:Nat)(v:Ob),ZbE e (upd f t v)=upd (ZbE e f) t (v.prg e):=fun e f t v=>by funext s;simp only[ZbE,upd];split<;>rfl);have p4:d0≠dd:=fun e=>hdn e.symm;simp only[St.new,Zhz,p3,p1,p2,back_prg p4 b1,Zqx p4 b2,hr0 dd hdn,ho0];rw[Zgj _ hdn,Zgj _ hdn]);rw[e2];exact hkk}}
end Go.V
namespace Go.V
def Zb8{P:Program}{d:Option Nat}{i:I}{K K':St->Prop}{σ:St}(hk:∀σ,K σ->K' σ)(h:Zcn P d i K σ):Zcn P d i K' σ:=fun C loc a w o h1 h2 h3 h4 h5=>by obtain⟨σ',h6,h7⟩:=h C loc a w o h1 h2 h3 h4 h5;exact⟨σ',h6,hk _ h7⟩
def ZhO{P:Program}{d:Option Nat}{f:X}{xs:List X}{K K':St->Prop}{σ:St}(hk:∀σ,K σ->K' σ)(h:Zc7 P d f xs K σ):Zc7 P d f xs K' σ:=by
 rcases h with h|h|h|h|h|h|h
 ·obtain⟨fid,caps,args,r,h1,h2,h3,h4,h5,h6,h7⟩:=h;exact .inl ⟨fid,caps,args,r,h1,h2,h3,h4,h5,h6,hk _ h7⟩
 ·obtain⟨fid,caps,args,r,h1,h2,h3,h4,h5,h6,h7⟩:=h;exact .inr (.inl ⟨fid,caps,args,r,h1,h2,h3,h4,h5,h6,hk _ h7⟩)
 ·obtain⟨fid,caps,L,l,args,Post,h1,h2,h3,h4,h5,h6,h7,h8⟩:=h;exact .inr (.inr (.inl ⟨fid,caps,L,l,args,Post,h1,h2,h3,h4,h5,h6,h7,fun r l' hp =>by
   obtain⟨r',os,k1,k2,k3⟩:=h8 r l' hp;exact⟨r',os,k1,k2,hk _ k3⟩⟩))
 ·obtain⟨n,g,e,rem,L,h1,h2,h3,h4,h5,h6,h7,h8⟩:=h;exact .inr (.inr (.inr (.inl ⟨n,g,e,rem,L,h1,h2,h3,h4,h5,h6,h7,hk _ h8⟩)))
 ·obtain⟨fid,caps,L,l,pre,fc,fcaps,post,fcaps',pre',post',rem,Fin,r,h1,h2,h3,h4,h5,h6,h7,h8,h9,h10,h11,h12,h13,h14,h15⟩:=h;exact .inr (.inr (.inr (.inr (.inl ⟨fid,caps,L,l,pre,fc,fcaps,post,fcaps',pre',post',rem,Fin,r,h1,h2,h3,h4,h5,h6,h7,h8,h9,h10,h11,h12,h13,h14,fun l' hf =>by
   obtain⟨os,k1,k2,k3⟩:=h15 l' hf;exact⟨os,k1,k2,hk _ k3⟩⟩))))
 ·obtain⟨fid,caps,args,Post,h1,h2,h3,h4,h5,h6⟩:=h;exact .inr (.inr (.inr (.inr (.inr (.inl ⟨fid,caps,args,Post,h1,h2,h3,h4,h5,fun r os hp =>by
   obtain⟨L,r',os',k1,k2,k3,k4,k5,k6⟩:=h6 r os hp;exact⟨L,r',os',k1,k2,k3,k4,k5,hk _ k6⟩⟩)))))
 ·exact .inr (.inr (.inr (.inr (.inr (.inr (Zb8 hk h))))))
def ZcK{P:Program}{i:Ins}{K K':St->Prop}{σ:St}(hk:∀σ,K σ->K' σ)(h:AStep P i K σ):AStep P i K' σ:=by unfold AStep at h|-;split at h;{rename_i hs;rw[Yt hs];simp only[Zb0]at h|-;split at h;{split at h;{exact ZhO hk h};{obtain⟨dd,fid,caps,args,Post,k0,k1,k2,k3,k4,k5,k6,k7,k8⟩:=h;refine⟨dd,fid,caps,args,Post,k0,k1,k2,k3,k4,k5,k6,k7,fun r os hp=>?_⟩;obtain⟨o,r',o',b0,b1,b2,b3⟩:=k8 r os hp;exact⟨o,r',o',b0,b1,b2,hk _ b3⟩};{split at h;{exact⟨h.1,hk _ h.2⟩};{split at h;{exact⟨h.1,hk _ h.2⟩};{split at h;{exact⟨h.1,hk _ h.2⟩};{split at h;{exact⟨h.1,hk _ h.2⟩};{unfold nvw at h|-;split at h;{exact Zb8 hk h};{split at h;{exact⟨h.1,fun b=>hk _ (h.2 b)⟩};{exact h}};{split at h;{refine⟨h.1,h.2.1,h.2.2.1,h.2.2.2.1,h.2.2.2.2.1,h.2.2.2.2.2.1,h.2.2.2.2.2.2.1,?_⟩;have h8:=h.2.2.2.2.2.2.2;split at h8;{rename_i h0;rw[Yt h0];exact⟨h8.1,hk _ h8.2⟩};{rename_i h0;rw[Yx h0];exact fun cap j h1 h2 h3=>hk _ (h8 cap j h1 h2 h3)}};{exact h}};{exact Zb8 hk h};{exact Zb8 hk h};{exact Zb8 hk h};{exact Zb8 hk h};{exact Zb8 hk h};{exact Zb8 hk h};{exact h}}}}}}};{split at h;{exact h};{split at h;{rcases h with⟨r,h1,h2,h3⟩|⟨r,h1,h2,h3⟩|h;{exact .inl ⟨r,h1,h2,hk _ h3⟩};{exact .inr (.inl ⟨r,h1,h2,hk _ h3⟩)};{exact .inr (.inr ⟨fun hg=>ZhO hk (h.1 hg),fun hg=>hk _ (h.2 hg)⟩)}};{split at h;{exact⟨h.1,hk _ h.2⟩};{split at h;{exact⟨fun hg=>⟨(h.1 hg).1,hk _ (h.1 hg).2⟩,fun hg=>hk _ (h.2 hg)⟩};{split at h;{exact⟨h.1,hk _ h.2⟩};{split at h;{exact⟨fun hg=>⟨(h.1 hg).1,hk _ (h.1 hg).2⟩,fun hg=>hk _ (h.2 hg)⟩};{unfold Zz7 at h|-;split at h;{exact⟨fun hg=>Zb8 hk (h.1 hg),fun hg=>hk _ (h.2 hg)⟩};{exact⟨h.1,hk _ h.2⟩}}}}}}}}};{rename_i hs;rw[Yx hs];exact Zdx hk h}
def Zch{P:Program}{i:Ins}{K:St->Prop}{σ:St}(hs:i.s=false):AStep P i K σ↔ZaQ P i K σ:=by unfold AStep;rw[Yx (by rw[hs];simp)]
def ZkA(P:Program):List Ins->(St->Prop)->St->Prop
 |[],K,σ=>K σ
 |i::is,K,σ=>AStep P i (ZkA P is K) σ
mutual
def ATree(P:Program):OT->(St->Prop)->St->Prop
 |.nil,K,σ=>K σ
 |.cons i t,K,σ=>AStep P i (ATree P t K) σ
 |.br ts,K,σ=>ATrees P ts K σ
def ATrees(P:Program):List OT->(St->Prop)->St->Prop
 |[],_,_=>True
 |t::ts,K,σ=>ATree P t K σ/\ATrees P ts K σ
end
section
variable{P:Program}{ops:Array Oper}{is:List Ins}{K:St->Prop}
def Zxz(P:Program)(ops:Array Oper)(is:List Ins)(K:St->Prop):Nat->Array Bool->St->Prop
 |0,listed,σ=>Region.ready .any ops listed=[]/\K σ
 |n+1,listed,σ=>(Region.ready .any ops listed=[]->K σ)/\∀i∈Region.ready .any ops listed,∃ins,is[i]? =some ins/\AStep P ins (Zxz P ops is K n (listed.setIfInBounds i true)) σ
def Closed(ops:Array Oper)(listed:Array Bool):Prop:=
 ∀(m:Nat)(o:Oper)(e:Edge),ops[m]? =some o->listed.getD m false=true->e∈o.after->Region.binds .any e=true->listed.getD e.on false=true
def Closed.set_{listed:Array Bool}(h:Closed ops listed){i:Nat}(hi:i∈Region.ready .any ops listed):Closed ops (listed.setIfInBounds i true):=by intro m o e ho hm he hb;obtain⟨_,oi,hoi,hall⟩:=mem_ready.1 hi;(have hmono:∀k,listed.getD k false=true->(listed.setIfInBounds i true).getD k false=true:=by intro k hk;rw[YZ]at hk|-;rw[Ya1];split;{split<;>simp_all};{exact hk});by_cases hmi:m=i;{subst hmi;rw[ho]at hoi;cases hoi;exact hmono _ (hall e he hb)};{refine hmono _ (h m o e ho ?_ he hb);rw[YZ]at hm|-;rwa [Array.getElem?_setIfInBounds_ne (Ycz hmi)]at hm}
def Zrs{L:Nat->Prop}(acc:List Nat)(hacc:∀j,L j->∀k,(acc.getD j 0).testBit k=true->L k):∀(es:List Edge)(m:Nat),(∀e∈es,Region.binds .any e=true->L e.on)->(∀k,m.testBit k=true->L k)->
  ∀k,(es.foldl (fun m e=>if Region.binds .any e then m|||2^e.on|||acc.getD e.on 0 else m) m).testBit k=true->L k
 |[],m,_,hm,k,h=>hm k h
 |e::es,m,he,hm,k,h=>by rw[Yav]at h;refine Zrs acc hacc es _ (fun e' h'=>he e' (by simp[h'])) (fun k' hk'=>?_) k h;split at hk';{rename_i hb;have hl:=he e Kd hb;rw[Nat.testBit_or,Nat.testBit_or,Nat.testBit_two_pow]at hk';simp only[Yae,Yl]at hk';rcases hk' with(h1|rfl)|h1;{exact hm _ h1};{exact hl};{exact hacc _ hl _ h1}};{exact hm _ hk'}
def ZwX{listed:Array Bool}(h:Closed ops listed):∀(l:List Oper)(acc:List Nat),(∀(i:Nat)(o:Oper),l[i]? =some o->ops[acc.length+i]? =some o)->
  (∀j,listed.getD j false=true->∀k,(acc.getD j 0).testBit k=true->listed.getD k false=true)->
  ∀j,listed.getD j false=true->∀k,((l.foldl ZhR acc).getD j 0).testBit k=true->listed.getD k false=true
 |[],acc,_,hacc=>hacc
 |o::l,acc,hl,hacc=>by rw[Yav];refine ZwX h l (ZhR acc o) (fun i o' hi=>?_) fun j hj k hk=>?_;{have:=hl (i+1) o' (by simpa using hi);simp only[ZhR,Yw,Yo,YI];rwa [show acc.length+(0+1)+i=acc.length+(i+1)from by omega]};{unfold ZhR at hk;rw[Yb]at hk;rcases Nat.lt_trichotomy j acc.length with hlt|heq|hgt;{rw[Y3 hlt,<-Yb]at hk;exact hacc j hj k hk};{subst heq;rw[Yau (Yi _),Yb6]at hk;have ho:=hl 0 o rfl;rw[Yad]at ho;refine Zrs (L:=fun k=>listed.getD k false=true) acc hacc o.after.toList 0 (fun e he hb=>h _ o e ho hj (by simpa using he) hb) (fun k hk=>by simp at hk) k ?_;simpa using hk};{rw[YW (by simp;omega)]at hk;simp at hk}}
def ZwG{listed:Array Bool}(h:Closed ops listed){i:Nat}(hi:listed.getD i true=false){m:Nat}(hm:listed.getD m false=true)(n:Nat):Zm6 ops i n m=false:=by(cases hw:Zm6 ops i n m with|false=>rfl|true=>have:=ZwX h ops.toList [] (fun i o hi=>by simpa using hi) (fun j _ k hk=>by simp at hk) m hm i hw;rw[YZ]at this hi;cases hx:listed[i]? <;>rw[hx]at this hi<;>simp_all)
def Zd2{listed:Array Bool}(h:Closed ops listed){i j:Nat}(hi:listed.getD i true=false)(hsz:listed.size=ops.size)(hj:j∈Region.ready .any ops listed)(n:Nat)(hji:j≠i):Zm6 ops i n j=false:=by have hc:=h.set_ hj;(have hjlt:j<listed.size:=by obtain⟨_,o,ho,_⟩:=mem_ready.1 hj;have:=(YK.1 ho).1;omega);refine ZwG (listed:=listed.setIfInBounds j true) hc ?_ ?_ n;{rw[YZ]at hi|-;rwa [Array.getElem?_setIfInBounds_ne hji]};{rw[YZ,Ya1,Yt rfl,Yt hjlt];rfl}
def ZdP{i j:Ins}(hc:(comm i j||Zii i j)=true):i.s=false:=by simp only[Yae]at hc;rcases hc with hc|hc;{exact(Zgw hc).1};{simp only[Zii,Yf,YaB]at hc;exact hc.1.1.1.1.1.1.1.1.1.1}
def Zij{i j:Ins}{K:St->Prop}{σ:St}(hc:(comm i j||Zii i j)=true)(h:ZaQ P i (fun σ1=>AStep P j K σ1) σ):AStep P j (fun σ1=>ZaQ P i K σ1) σ:=by simp only[Yae]at hc;rcases hc with hc|hc;{have hsj:=(Zgw hc).2;rw[Zch hsj];exact Zqb hc (Zdx (fun σ1 h=>(Zch hsj).1 h) h)};{exact Znx hc h}
def ZpZ{i:Nat}{ins:Ins}(hins:is[i]? =some ins)(hlen:∀j:Nat,j<ops.size->(is[j]?).isSome=true):∀(n:Nat)(listed:Array Bool)(σ:St),listed.size=ops.size->Closed ops listed->
  (∀j ins',is[j]? =some ins'->j≠i->listed.getD j true=false->Zm6 ops i ops.size j=false->(comm ins ins'||Zii ins ins')=true)->
  i∈Region.ready .any ops listed->AStep P ins (Zxz P ops is K n (listed.setIfInBounds i true)) σ->Zxz P ops is K (n+1) listed σ:=by(intro n;induction n with|zero=>intro listed σ hsz hcl hfree hr H;refine⟨fun h=>(by rw[h]at hr;cases hr),fun j hj=>?_⟩;by_cases hji:j=i;{subst hji;exact⟨ins,hins,H⟩};{have h1:=ready_mono hj hji;obtain⟨hjun,oj,hoj,_⟩:=mem_ready.1 hj;have hiun:=(mem_ready.1 hr).1;have hjlt:j<ops.size:=(YK.1 hoj).1;obtain⟨ins',hins'⟩:=YaA.1 (hlen j hjlt);have hcomm:=hfree j ins' hins' hji hjun (Zd2 hcl hiun hsz hj _ hji);rw[Zch (ZdP hcomm),ZbP]at H;obtain⟨ε,_,h2,_⟩:=H;rw[h2]at h1;cases h1}|succ n ih=>intro listed σ hsz hcl hfree hr H;refine⟨fun h=>(by rw[h]at hr;cases hr),fun j hj=>?_⟩;by_cases hji:j=i;{subst hji;exact⟨ins,hins,H⟩};{obtain⟨hjun,oj,hoj,_⟩:=mem_ready.1 hj;have hiun:=(mem_ready.1 hr).1;have hjlt:j<ops.size:=(YK.1 hoj).1;obtain⟨ins',hins'⟩:=YaA.1 (hlen j hjlt);refine⟨ins',hins',?_⟩;have hcomm:=hfree j ins' hins' hji hjun (Zd2 hcl hiun hsz hj _ hji);have hsi:=ZdP hcomm;(have h1:ZaQ P ins (fun σ1=>AStep P ins' (Zxz P ops is K n ((listed.setIfInBounds i true).setIfInBounds j true)) σ1) σ:=by rw[Zch hsi]at H;refine Zdx (fun σ1 h=>?_) H;obtain⟨x,hx,hs⟩:=h.2 j (ready_mono hj hji);rw[hins']at hx;cases hx;exact hs);have h2:=Zij hcomm h1;refine ZcK (fun σ1 h=>?_) h2;refine ih (listed.setIfInBounds j true) σ1 (by simpa using hsz) (hcl.set_ hj) (fun k ins'' hk hki hun hw=>?_) (ready_mono hr (Ycz hji)) ?_;{refine hfree k ins'' hk hki ?_ hw;by_cases hjk:j=k;{subst hjk;exact hjun};{rwa [getD_set_ne true hjk]at hun}};{rw[Array.setIfInBounds_comm _ _ hji,Zch hsi];exact h}})
def ZjC:∀{ts:List OT}{σ:St},ATrees P ts K σ->∀t∈ts,ATree P t K σ
 |[],_,_,t,ht=>by cases ht
 |u::ts,σ,h,t,ht=>by simp only[ATrees]at h;rcases YF.1 ht with rfl|ht;{exact h.1};{exact ZjC h.2 t ht}
def Zks(hlen:∀j:Nat,j<ops.size->(is[j]?).isSome=true):∀(n:Nat)(listed:Array Bool)(t:OT)(σ:St),listed.size=ops.size->Closed ops listed->ZpG ops is n listed=some t->ATree P t K σ->Zxz P ops is K n listed σ
 |0,listed,t,σ,_,_,ht,h=>by simp only[ZpG]at ht;split at ht;{rename_i he;simp only[Ya]at ht;subst ht;simp only[ATree]at h;exact⟨Ycy.1 he,h⟩};{cases ht}
 |n+1,listed,t,σ,hsz,hcl,ht,h=>by simp only[ZpG]at ht;split at ht;{rename_i he;simp only[Ya]at ht;subst ht;simp only[ATree]at h;have he':=Ycy.1 he;exact⟨fun _=>h,fun i hi=>by rw[he']at hi;cases hi⟩};{rename_i hne;(have cons:∀k t',k∈Region.ready .any ops listed->OT.consAt is k (ZpG ops is n (listed.setIfInBounds k true))=some t'->ATree P t' K σ->∃ins,is[k]? =some ins/\AStep P ins (Zxz P ops is K n (listed.setIfInBounds k true)) σ:=by intro k t' hk hct hat;unfold OT.consAt at hct;split at hct;{rename_i ins t'' hins ht'';simp only[Ya]at hct;subst hct;simp only[ATree]at hat;exact⟨ins,hins,ZcK (fun σ1 h1=>Zks hlen n _ _ σ1 (by simpa using hsz) (hcl.set_ hk) ht'' h1) hat⟩};{cases hct});split at ht;{rename_i k hk;have hkr:=Yap hk;have hkf:=Ybd hk;obtain⟨ins,hins,hs⟩:=cons k t hkr ht h;refine ZpZ hins hlen n listed σ hsz hcl (fun j ins' hj hji hun hw=>?_) hkr hs;simp only[Zyg,Yn,Yaj,Yae]at hkf;(have hjlt:j<ops.size:=by rcases YaG j listed.size with h|h;{omega};{rw[YZ,Ycl h]at hun;cases hun});have:=hkf j hjlt;rw[hins,hj]at this;simp only[YaX,hji,hun,hw,Yp,Yc4,Ydd]at this;exact this};{split at ht;{rename_i k hk;refine⟨fun h0=>(by rw[h0]at hk;cases hk),fun j hj=>?_⟩;rw[hk]at hj;simp only[Yk]at hj;subst hj;exact cons j t (by rw[hk];simp) ht h};{simp only[Yh]at ht;obtain⟨ts,hts,rfl⟩:=ht;simp only[ATree]at h;refine⟨fun h0=>(by rw[h0]at hne;simp at hne),fun j hj=>?_⟩;obtain⟨k,hk⟩:=Ybf.1 hj;obtain⟨t',ht',hc⟩:=ZfZ hts hk;exact cons j t' hj hc (ZjC h t' (Yu ht'))}}}
def ZjW:∀(t:OT)(l:List Ins)(σ:St),t.list? =some l->ZkA P l K σ->ATree P t K σ
 |.nil,l,σ,h,ha=>by simp only[OT.list?,Ya]at h;subst h;simpa only[ATree,ZkA]using ha
 |.cons i t,l,σ,h,ha=>by simp only[OT.list?,Yh]at h;obtain⟨l',hl,rfl⟩:=h;simp only[ATree];exact ZcK (fun σ1 h1=>ZjW t l' σ1 hl h1) ha
 |.br _,l,σ,h,_=>by simp[OT.list?]at h
def Wp(C:Ctx)(c:Code)(Q:Exit->St->Prop)(σ:St):Prop:=
 ∀a w,Gam C σ a w->c.wpIn C.F 0 C.P (fun e a' w'=>∃σ',Gam C σ' a' w'/\Q e σ') a w
def WV(C:Ctx)(v:VC)(Q:Exit->St->Prop)(σ:St):Prop:=∀c,comp C.P C.N C.m c=some v->Wp C c Q σ
variable{C:Ctx}{σ:St}{Q:Exit->St->Prop}
def ZlM(hlen:∀(j:Nat)(o:Oper),ops[j]? =some o->∃ins,is[j]? =some ins/\INS C.P C.N ops o ins){Q':Exit->Act->World->Prop}(hQ:∀σ a w,Gam C σ a w->K σ->Q' .normal a w):
  ∀(n:Nat)(listed:Array Bool)(σ:St)(a:Act)(w:World),Gam C σ a w->Zxz C.P ops is K n listed σ->wpAnyIn C.F 0 C.P .any ops Q' n listed a w
 |0,_,σ,a,w,hg,h=>⟨h.1,hQ σ a w hg h.2⟩
 |n+1,listed,σ,a,w,hg,h=>by refine⟨fun h0=>hQ σ a w hg (h.1 h0),fun i hi=>?_⟩;obtain⟨_,o,ho,_⟩:=mem_ready.1 hi;obtain⟨ins,hins,hc⟩:=hlen i o ho;obtain⟨ins',hins',hs⟩:=h.2 i hi;rw[hins]at hins';cases hins';have:=ZdN hg hc hs (Q:=Q') (fun σ' a' w' hg' hk=>ZlM hlen hQ n _ σ' a' w' hg' hk);unfold wpOpIn;rw[ho];exact this
def ZiI{Q':Exit->Act->World->Prop}(hQ:∀σ a w,Gam C σ a w->K σ->Q' .normal a w):∀(l:List Ins)(k:Nat)(σ:St)(a:Act)(w:World),(∀(j:Nat)(ins:Ins),l[j]? =some ins->∃o,ops[k+j]? =some o/\INS C.P C.N ops o ins)->
  Gam C σ a w->ZkA C.P l K σ->wpOpsIn C.F 0 C.P ops Q' (List.range' k l.length) a w
 |[],k,σ,a,w,_,hg,h=>hQ σ a w hg h
 |i::l,k,σ,a,w,hl,hg,h=>by obtain⟨o,ho,hc⟩:=hl 0 i rfl;simp only[Yad]at ho;have ih:=fun σ a w=>ZiI hQ l (k+1) σ a w (fun j ins hj=>by have:=hl (j+1) ins (by simpa using hj);rwa [show k+(j+1)=k+1+j from by omega]at this);have:=ZdN hg hc h (Q:=Q') (fun σ' a' w' hg' hk=>ih σ' a' w' hg' hk);simp only[Yo,YcV,wpOpsIn,ho];exact this
def Zhv{α β:Type}{f:α->Option β}:∀{l:List α}{r:List β},l.mapM f=some r->r.length=l.length
 |[],r,h=>by simp at h;subst h;rfl
 |x::l,r,h=>by simp only[Yao,Yaw,YS,Yz,Ya]at h;obtain⟨y,_,ys,hys,rfl⟩:=h;simp[Zhv hys]
def Zmt{α β:Type}{f:α->Option β}:∀{l:List α}{r:List β}{i:Nat}{y:β},l.mapM f=some r->r[i]? =some y->∃x,l[i]? =some x/\f x=some y
 |[],r,i,y,h,hy=>by simp at h;subst h;simp at hy
 |z::l,r,i,y,h,hy=>by(simp only[Yao,Yaw,YS,Yz,Ya]at h;obtain⟨u,hu,ys,hys,rfl⟩:=h;match i,hy with|0,hy=>simp at hy;subst hy;exact⟨z,rfl,hu⟩|i+1,hy=>simpa using Zmt hys (by simpa using hy))
def Zin{id:Nat}{ops:Array Oper}{is:List Ins}(his:ops.toList.mapM (cOp C.P C.N ops)=some is)(hm:C.P.follows .mixedOrders=true){t:OT}(ht:ZpG ops (ZeA C.m ops is) ops.size (Array.replicate ops.size false)=some t)(h:ATree C.P t (Q .normal) σ):Wp C (.region id ops true) Q σ:=by intro a w hg;have hlen:=Zhv his;(have hget:∀(j:Nat)(o:Oper),ops[j]? =some o->∃ins,(ZeA C.m ops is)[j]? =some ins/\INS C.P C.N ops o ins:=fun j o ho=>by obtain⟨ins,h1,h2⟩:=ZfZ his (by simpa using ho);obtain⟨v1,v2,v3,_⟩:=Zud C.m ins;refine⟨{vwI C.m ins with s:=ZzD ops j||Zsj C.m (vwI C.m ins)},by simp[ZeA,h1],ins.s,ins.i,?_,v1⟩;rw[h2];obtain⟨d,i,g,s⟩:=ins;simp only at v2 v3|-;rw[v2,v3]);(have hlen2:(ZeA C.m ops is).length=is.length:=by simp[ZeA]);(have hcl:Closed ops (Array.replicate ops.size false):=by intro m o e ho hm he hb;rw[YZ,Array.getElem?_replicate]at hm;split at hm<;>cases hm);have:=Zks (P:=C.P) (fun j hj=>by rw[Yd (by simp at hlen;omega)];rfl) ops.size _ t σ Kd hcl ht h;obtain⟨loc,hg⟩:=hg;exact wpIn_region_any hm (ZlM hget (fun σ a w hg hk=>⟨σ,hg,hk⟩) _ _ σ a _ ⟨loc,hg.drew⟩ this)
def Zp3{P:Program}{m:List Nat}{ops:Array Oper}{is is':List Ins}(h:ZlR P m ops is=some (.ops is')):False:=by unfold ZlR at h;split at h;{split at h;{split at h<;>cases h};{cases h}};{cases h}
def ZlL{is:List Ins}{c:Code}(hc:comp C.P C.N C.m c=some (.ops is)):∃id ops,c= .region id ops false/\∀(j:Nat)(ins:Ins),is[j]? =some ins->∃o,ops[j]? =some o/\INS C.P C.N ops o ins:=by cases c<;>simp only[comp,reduceCtorEq,Ya]at hc<;>(try(simp[Yz,Yh]at hc;done));rename_i id ops draw;split at hc;{rename_i is' his;split at hc;{exact(Zp3 hc).elim};{rename_i hd;simp only[Ya,VC.ops.injEq]at hc;subst hc;(have hd':draw=false:=by simpa using hd);subst hd';refine⟨id,ops,rfl,fun j ins hj=>?_⟩;rw[Y0,Yh]at hj;obtain⟨ins0,hj,rfl⟩:=hj;obtain⟨o,ho,hc⟩:=Zmt his hj;obtain⟨v1,v2,v3,v4⟩:=Zud C.m ins0;refine⟨o,by simpa using ho,ins0.s,ins0.i,?_,v1⟩;rw[v2,v3];exact hc}};{cases hc}
def ZfF{is:List Ins}{id:Nat}{ops:Array Oper}(hc:comp C.P C.N C.m (.region id ops false)=some (.ops is)):is.length=ops.size:=by simp only[comp]at hc;split at hc;{rename_i is' his;simp only[Yp,YA,Ya,VC.ops.injEq]at hc;subst hc;have:=Zhv his;simp at this|-;exact this};{cases hc}
def ZgT{is:List Ins}(h:ZkA C.P is (Q .normal) σ):WV C (.ops is) Q σ:=by intro c hc;obtain⟨id,ops,rfl,hi⟩:=ZlL hc;intro a w hg;refine wpIn_region ?_;have hlen:=ZfF hc;have:=ZiI (Q':=fun e a' w'=>∃σ',Gam C σ' a' w'/\Q e σ') (fun σ a w hg hk=>⟨σ,hg,hk⟩) is 0 σ a w (fun j ins hj=>by simpa using hi j ins hj) hg h;rw[YbU];rwa [hlen]at this
def Zcz{is:List Ins}(h:ZkA C.P is (Q .normal) σ):WV C (.dops is) Q σ:=by intro c hc;cases c<;>simp only[comp,reduceCtorEq,Ya]at hc<;>(try(simp[Yz,Yh]at hc;done));rename_i id ops draw;split at hc;{rename_i is' his;split at hc;{rename_i hd;subst hd;unfold ZlR at hc;split at hc;{rename_i hcond;simp only[Yf]at hcond;split at hc;{rename_i t ht;split at hc;{rename_i l hl;simp only[Ya,VC.dops.injEq]at hc;subst hc;exact Zin his hcond.2 ht (ZjW t _ σ hl h)};{cases hc}};{cases hc}};{cases hc}};{cases hc}};{cases hc}
def ZaS{t:OT}(h:ATree C.P t (Q .normal) σ):WV C (.drw t) Q σ:=by intro c hc;cases c<;>simp only[comp,reduceCtorEq,Ya]at hc<;>(try(simp[Yz,Yh]at hc;done));rename_i id ops draw;split at hc;{rename_i is' his;split at hc;{rename_i hd;subst hd;unfold ZlR at hc;split at hc;{rename_i hcond;simp only[Yf]at hcond;split at hc;{rename_i t' ht;split at hc;{cases hc};{simp only[Ya,VC.drw.injEq]at hc;subst hc;exact Zin his hcond.2 ht h}};{cases hc}};{cases hc}};{cases hc}};{cases hc}
end
end Go.V
namespace Go.V
variable{C:Ctx}{σ:St}{Q:Exit->St->Prop}
def Zaz(K:St->Prop)(Q:Exit->St->Prop):Exit->St->Prop
 |.normal,σ=>K σ
 |e,σ=>Q e σ
def inQ(id:Nat)(Q:Exit->St->Prop):Exit->St->Prop
 |.exit id',σ=>if id'=id then Q .normal σ else Q (.exit id') σ
 |e,σ=>Q e σ
def Zjg{F:Fence}{m:Nat}{P:Program}{c:Code}{Q:Exit->Act->World->Prop}(I:Nat->Act->World->Prop)(n₀:Nat){a:Act}{w:World}(h₀:I n₀ a w)(hr:∀n a w,I n a w->c.wpIn F m P (Exit.then (fun a w=>∃n',n'<n/\I n' a w) Q) a w):(Code.loop c).wpIn F m P Q a w:=by(have key:∀k n a w,n<=k->I n a w->Code.roundsIn F m P c Q (k+1) a w:=by(intro k;induction k with|zero=>intro n a w hn hI;(have:n=0:=by omega);(subst this;rw[roundsIn_succ];refine wpIn_mono (hr 0 a w hI) ?_;intro e a' w' h;cases e with|normal=>obtain⟨n',h1,_⟩:=h;omega|_=>exact h)|succ k ih=>(intro n a w hn hI;rw[roundsIn_succ];refine wpIn_mono (hr n a w hI) ?_;intro e a' w' h;cases e with|normal=>obtain⟨n',h1,h2⟩:=h;exact ih n' a' w' Kc h2|_=>exact h)));exact wpIn_loop_rounds (n₀+1) (key n₀ n₀ a w (Yi _) h₀)
def WV.mono{v:VC}{Q':Exit->St->Prop}(h:WV C v Q σ)(hq:∀e σ,Q e σ->Q' e σ):WV C v Q' σ:=fun c hc a w hg=>
 wpIn_mono (h c hc a w hg) fun e _ _ ⟨σ',hg',hQ⟩=>⟨σ',hg',hq e σ' hQ⟩
def Zbq(h:Q .normal σ):WV C .skip Q σ:=by intro c hc;cases c<;>simp only[comp,reduceCtorEq,Ya]at hc<;>(try(simp[Yz,Yh]at hc;done));{exact fun a w hg=>wpIn_skip ⟨σ,hg,h⟩};{exfalso;split at hc;{split at hc;{unfold ZlR at hc;split at hc;{split at hc;{split at hc<;>cases hc};{cases hc}};{cases hc}};{cases hc}};{cases hc}}
def Zci{P:Program}{N:Nat}{m:List Nat}{id:Nat}{ops:Array Oper}{draw:Bool}{v:VC}(h:comp P N m (.region id ops draw)=some v):(∃is,v= .ops is)\/(∃is,v= .dops is)\/v= .bad\/∃t,v= .drw t:=by simp only[comp]at h;split at h;{split at h;{unfold ZlR at h;split at h;{split at h;{split at h<;>simp only[Ya]at h<;>subst h;{exact .inr (.inl ⟨_,rfl⟩)};{exact .inr (.inr (.inr ⟨_,rfl⟩))}};{cases h}};{cases h}};{simp only[Ya]at h;subst h;exact .inl ⟨_,rfl⟩}};{simp only[Ya]at h;subst h;exact .inr (.inr (.inl rfl))}
def ZAG{x y:VC}(h:∀K:St->Prop,(∀σ',WV C y Q σ'->K σ')->WV C x (Zaz K Q) σ):WV C (.seq x y) Q σ:=by
 intro c hc;cases c;case seq a b=>
  simp only[comp,YS,Yz,Ya,VC.seq.injEq]at hc;obtain⟨x',hx,y',hy,rfl,rfl⟩:=hc;intro a w hg;refine wpIn_seq (wpIn_mono (h (WV C y' Q) (fun _ h=>h) _ hx a w hg) ?_);rintro e a' w' ⟨σ',hg',hq⟩;cases e with
  |normal=>exact hq _ hy a' w' hg'
  |_=>exact⟨σ',hg',hq⟩
 (case region=>rcases Zci hc with⟨_,h⟩|⟨_,h⟩|h|⟨_,h⟩<;>cases h);all_goals(simp[comp,Yz,Yh]at hc)
def Zcy{x:X}{t f:VC}{b:Bool}(hx:σ.val x= .c (.bool b))(ht:b=true->WV C t Q σ)(hf:b=false->WV C f Q σ):WV C (.cond x t f) Q σ:=by
 intro c hc;cases c;case cond y a b'=>
  simp only[comp,YS,Yz,Ya,VC.cond.injEq]at hc;obtain⟨x',hx',t',ht',f',hf',rfl,rfl,rfl⟩:=hc;intro a w hg;have hg0:=hg;obtain⟨loc,hg1⟩:=hg;have hr:=Zuc hg1 hx';rw[hx]at hr;simp only[RepA,RepC]at hr;refine wpIn_cond hr ?_;cases b with
  |true=>exact ht rfl _ ht' a w hg0
  |false=>exact hf rfl _ hf' a w hg0
 (case region=>rcases Zci hc with⟨_,h⟩|⟨_,h⟩|h|⟨_,h⟩<;>cases h);all_goals(simp[comp,Yz,Yh]at hc)
def Zbe{id:Nat}{x:VC}(h:WV C x (inQ id Q) σ):WV C (.block id x) Q σ:=by
 intro c hc;cases c;case block id' a=>
  simp only[comp,Yh,VC.block.injEq]at hc;obtain⟨x',hx,rfl,rfl⟩:=hc;intro a w hg;refine wpIn_block (wpIn_mono (h _ hx a w hg) ?_);rintro e a' w' ⟨σ',hg',hq⟩;cases e with
  |exit id=>
   simp only[Exit.inBlock,inQ]at hq|-;split
   ·rename_i hid;rw[Yt hid]at hq;exact⟨σ',hg',hq⟩
   ·rename_i hid;rw[Yx hid]at hq;exact⟨σ',hg',hq⟩
  |_=>exact⟨σ',hg',hq⟩
 (case region=>rcases Zci hc with⟨_,h⟩|⟨_,h⟩|h|⟨_,h⟩<;>cases h);all_goals(simp[comp,Yz,Yh]at hc)
def ZxL{x:VC}(I:Nat->St->Prop)(n₀:Nat)(h₀:I n₀ σ)(hr:∀n σ,I n σ->WV C x (Zaz (fun σ'=>∃n',n'<n/\I n' σ') Q) σ):WV C (.loop x) Q σ:=by
 intro c hc;cases c;case loop a=>
  simp only[comp,Yh,VC.loop.injEq]at hc;obtain⟨x',hx,rfl⟩:=hc;intro a w hg;refine Zjg (fun n a w=>∃σ,Gam C σ a w/\I n σ) n₀ ⟨σ,hg,h₀⟩ ?_;rintro n a w ⟨σ,hg,hI⟩;refine wpIn_mono (hr n σ hI _ hx a w hg) ?_;rintro e a' w' ⟨σ',hg',hq⟩;cases e with
  |normal=>
   obtain⟨n',hlt,hI'⟩:=hq;exact⟨n',hlt,σ',hg',hI'⟩
  |_=>exact⟨σ',hg',hq⟩
 (case region=>rcases Zci hc with⟨_,h⟩|⟨_,h⟩|h|⟨_,h⟩<;>cases h);all_goals(simp[comp,Yz,Yh]at hc)
def ZaO{id:Nat}(h:Q (.exit id) σ):WV C (.exit id) Q σ:=by
 intro c hc;cases c;case exit id'=>
  simp only[comp,Ya,VC.exit.injEq]at hc;subst hc;exact fun a w hg=>wpIn_exit ⟨σ,hg,h⟩
 (case region=>rcases Zci hc with⟨_,h⟩|⟨_,h⟩|h|⟨_,h⟩<;>cases h);all_goals(simp[comp,Yz,Yh]at hc)
def Zas(h:Q .ret σ):WV C .ret Q σ:=by intro c hc;cases c;(case ret=>exact fun a w hg=>wpIn_ret ⟨σ,hg,h⟩);(case region=>rcases Zci hc with⟨_,h⟩|⟨_,h⟩|h|⟨_,h⟩<;>cases h);all_goals(simp[comp,Yz,Yh]at hc)
def Zgr{v:VC}{σ':St}(h:∀a w,Gam C σ a w->Gam C σ' a w)(hv:WV C v Q σ'):WV C v Q σ:=fun c hc a w hg=>hv c hc a w (h a w hg)
def ZbJ(σ:St):RV->Option (Prop×AV)
 |.t n=>some ((σ.env n).dg=true,(σ.env n).dv)
 |.cell n one sz=>pev σ (.ld one sz (.t n))
def Zaq(σ:St):List RV->Option (Prop×List AV)
 |[]=>some (True,[])
 |r::rs=>
  match ZbJ σ r,Zaq σ rs with
  |some (q,v),some (p,vs)=>some (q/\p,v::vs)
  |_,_=>none
def Zbu:List AV->AV
 |[v]=>v
 |vs=> .tup vs
def AVle(x y:AV):Prop:=∀(w:World)(M:Cells)(loc:Nat->Value)(v:Value),RepA w M loc x v->RepA w M loc y v
def AVle.of{x y:AV}(h:x=y):AVle x y:=fun _ _ _ _ hr=>h▸hr
def Zcb(rs:List RV)(r:AV)(σ:St):Prop:=
 match Zaq σ rs with
 |some (q,vs)=>q/\∃r',(Zbu vs).port σ.own=some r'/\AVle r' r
 |none=>False
def ZfE(rs:List RV)(r:AV):Exit->St->Prop
 |.normal,σ=>Zcb rs r σ
 |.ret,σ=>Zcb rs r σ
 |_,_=>False
def ZqL{loc:Nat->Value}{a:Act}{w:World}(hg:G C σ loc a w){rv:ResultVar}{r:RV}(hc:Zx2 C.P rv=some r){q:Prop}{v:AV}(hr:ZbJ σ r=some (q,v))(hq:q):
  ∃u,(match rv with|.tmp t=>(pure (a.tmps.getD t undef):Sem Value)|.cell b t=>do loadVar t (<-asAddr (a.tmps.getD b undef))).run C.P w= .ok u w/\RepA w (MM C σ.own loc) loc v u:=by(cases rv with|tmp t=>simp only[Zx2,Ya]at hc;subst hc;simp only[ZbJ,Ya,Yj]at hr;obtain⟨rfl,rfl⟩:=hr;exact⟨_,rfl,Zw9 (hg.slots t) hq⟩|cell b t=>simp only[Zx2,YS,Yz,Ya]at hc;obtain⟨ag,hag,sz,hsz,rfl⟩:=hc;simp only[ZbJ]at hr;obtain⟨u,hu,hru⟩:=Zxj (o:=⟨none,.load t (.tmp b),t, "",#[],none⟩) hg rfl hag hsz (x:=.tmp b) rfl hr hq;refine⟨u,?_,hru⟩;simp only[execOp,Sem.run_bind,Sem.run_pure,Instr.loadAt,Act.eval]at hu;(cases hv:a.tmps.getD b undef<;>rw[hv]at hu<;>try(simp[Instr.sureAddr,Result.andThen]at hu;done));(rename_i p;cases p with|none=>simp[Instr.sureAddr,Result.andThen]at hu|some ad=>simp only[Instr.sureAddr,Sem.run_pure,Result.andThen_ok]at hu;(have:(loadVar t ad).run C.P w= .ok u w:=by(cases hl:(loadVar t ad).run C.P w with|ok x w1=>rw[hl]at hu;simp only[Result.andThen_ok,Result.ok.injEq,Next.value.injEq]at hu;rw[hu.1,hu.2]|halt x w1=>rw[hl]at hu;simp[Result.andThen]at hu));simp only[hv,asAddr,Sem.run_bind,Sem.run_pure,Result.andThen_ok,this]))
def ZbB{loc:Nat->Value}{a:Act}{w:World}(hg:G C σ loc a w):∀(l:List ResultVar)(rs:List RV),l.mapM (Zx2 C.P)=some rs->∀{q:Prop}{vs:List AV},Zaq σ rs=some (q,vs)->q->
  ∃us,(l.mapM fun(x:ResultVar)=>(match x with|.tmp t=>(pure (a.tmps.getD t undef):Sem Value)|.cell b t=>do loadVar t (<-asAddr (a.tmps.getD b undef)))).run C.P w= .ok us w/\RepAs w (MM C σ.own loc) loc vs us
 |[],rs,h,q,vs,hr,hq=>by simp at h;subst h;simp only[Zaq,Ya,Yj]at hr;obtain⟨rfl,rfl⟩:=hr;exact⟨[],Kd,by simp[RepAs]⟩
 |x::l,rs,h,q,vs,hr,hq=>by simp only[Yao,Yaw,YS,Yz,Ya]at h;obtain⟨y,hy,ys,hys,rfl⟩:=h;simp only[Zaq]at hr;split at hr;{rename_i q1 v1 p1 vs1 h1 h2;simp only[Ya,Yj]at hr;obtain⟨rfl,rfl⟩:=hr;obtain⟨u,hu,hru⟩:=ZqL hg hy h1 hq.1;obtain⟨us,hus,hrus⟩:=ZbB hg l ys hys h2 hq.2;refine⟨u::us,?_,by simp only[RepAs];exact⟨u,us,rfl,hru,hrus⟩⟩;simp only[Yao,Sem.run_bind];rw[hu,Result.andThen_ok,hus];simp};{cases hr}
def St.init(args:List AV):St:=⟨fun t=>args.getD t .non,fun _=> .none⟩
def ZgB{w:World}{M:Cells}{loc:Nat->Value}(N:Nat):∀(args:List AV)(vs:List Value),RepAs w M loc args vs->∀t,RepA w M loc (args.getD t .non) ((vs.toArray++Array.replicate (N -vs.length) undef).getD t undef):=by intro args vs h t;have hlen:=h.length;by_cases ht:t<args.length;{have e1:args[t]? =some args[t]:=Yd ht;obtain⟨v,hv,hr⟩:=h.get t e1;rw[Yb,e1];rw[YZ,Array.getElem?_append_left (by simp;omega)];simpa [hv]using hr};{rw[Yb,YW Kc];simp only[Option.getD_none,RepA]}
def G.release{loc:Nat->Value}{a:Act}{w:World}(hg:G C σ loc a w){D:Nat}{ds:List Deferred}(hds:a.defers= {target:=.collected D,args:=#[]} ::ds)(hD:w.heap[D]? =some markO):
  G C σ loc {a with defers:=ds} (w.putObj D (.deferred none)):=by(have hmem:∀d,d∈ds->d∈a.defers:=fun d h=>by rw[hds];exact Ya6 _ h);obtain⟨D',e1,hB,_,hF⟩:=hg.marks _ (by rw[hds];exact YbJ);simp only[Deferred.mk.injEq,Target.collected.injEq,Ya2]at e1;subst e1;(have hsz:(w.putObj D (.deferred none)).heap.size=w.heap.size:=by simp);have hoth:∀k,k≠D->(w.putObj D (.deferred none)).heap[k]? =w.heap[k]?:=fun k h=>World.putObj_heap_other h;(have hcell:∀p:Addr,(w.cell? p).isSome=true->p.block≠D:=by rintro p hp rfl;unfold World.cell? at hp;rw[hD]at hp;cases p.spot<;>simp at hp);have hk:Keeps w (w.putObj D (.deferred none)) (MM C σ.own loc) (MM C σ.own loc):=⟨fun p hp _=>World.cell?_of_block (hoth _ (hcell p hp)),fun p _ h=>h⟩;have hpw:=hg.mnd;rw[hds,Ycc]at hpw;refine⟨⟨hg.fr.os,hg.fr.tape,hg.fr.output,by rw[hsz];exact hg.fr.size,fun k hk hx=>(hoth k Kc).trans (hg.fr.block k hk hx)⟩,hg.m0,hg.kp.trans hk,fun x hx=>?_,hpw.2,hg.pin,hg.size,fun t=>RepA.keep hk _ _ (hg.slots t),fun n=>?_,hg.disj⟩;{obtain⟨D2,e1,e2,e3,e4⟩:=hg.marks x (hmem x hx);refine⟨D2,e1,e2,(hoth D2 ?_).trans e3,e4⟩;rintro rfl;exact hpw.1 x hx (by rw[e1])};{exact ObOk.keep' hk (by rw[hsz];exact Yi _) (fun b hb=>hoth b (by rintro rfl;exact hF ⟨n,hb⟩)) (hg.objs n)}
def ZiB{fn:Func}{R:Ending->World->Prop}{loc:Nat->Value}:∀(ds:List Deferred)(a:Act)(w:World),a.defers=ds->G C σ loc a w->
  (∀w',G C σ loc {a with defers:=[]} w'->∃v,(results fn a.tmps).run C.P w'= .ok v w'/\R (.returned v) w')->LeavesInM Fence.wide 0 C.P fn a.tmps R ds .returning w
 |[],a,w,hds,hg,h=>by(have:{a with defers:=[]} =a:=by cases a;simp at hds;simp[hds]);exact h w (by rw[this];exact hg)
 |d::ds,a,w,hds,hg,h=>by obtain⟨D,rfl,hB,hD,hF⟩:=hg.marks d (by rw[hds];exact YbJ);refine⟨Kd,.inl ⟨D,_,rfl,run_takeDeferred hD,?_⟩⟩;exact ZiB ds {a with defers:=ds} _ rfl (hg.release hds hD) fun w' hg'=>h w' hg'
def Zcq{P:Program}{m:List Nat}{f:FuncId}{fc:FC}(hc:compM P m f=some fc):ZbF P f/\∀(C:Ctx)(Q:Exit->St->Prop)(σ₀:St)(loc₀:Nat->Value)(vs:List Value)(R:Ending->World->Prop),C.P=P->C.N=fc.N->C.m=m->C.rd=none->vs.length<=fc.np->
  WV C fc.body Q σ₀->(∀tm,tm.size=fc.N->(∀t,tm.getD t undef=(vs.toArray++Array.replicate (fc.N -vs.length) undef).getD t undef)->G C σ₀ loc₀ {tmps:=tm,defers:=[]} C.w0)->
  (∀(l:List ResultVar),l.mapM (Zx2 P) = some fc.rs -> ∀(σ:St)(loc:Nat ->Value)(a:Act)(w:World),G C σ loc a w -> (Q .normal σ \/ Q .ret σ) ->
   ∃us,(l.mapM fun(x:ResultVar)=>(match x with|.tmp t=>(pure (a.tmps.getD t undef):Sem Value)|.cell b t=>do loadVar t (<-asAddr (a.tmps.getD b undef)))).run P w= .ok us w/\R (.returned (if h:us.toArray.size=1 then us.toArray[0]else .tuple us.toArray)) w)->
  (∀e σ,Q e σ->e= .normal\/e= .ret)->Calls P f vs.toArray C.w0 R:=by
 unfold compM at hc;split at hc;case h_2=>cases hc
 rename_i fn hfn;split at hc;case h_2=>cases hc
 rename_i c hbody;simp only[YS,Yz]at hc;obtain⟨vc,hvc,rs,hrs,hfin⟩:=hc;split at hfin;case isFalse=>cases hfin
 rename_i hcond;simp only[Yf,Yc5,ne_eq,Yl]at hcond;simp only[Ya]at hfin;subst hfin;refine⟨⟨fn,hfn,by rw[hbody];rfl,hcond.1⟩,fun C Q σ₀ loc₀ vs R hP hN hmm hrd hlen hwv hg hret hQ=>?_⟩;subst hP;simp only at hN hlen hg hret;have hF:C.F=Fence.wide:=by unfold Ctx.F;rw[hrd]
 have hwp:=hwv c (by rw[hN,hmm];exact hvc) {tmps:=vs.toArray++Array.replicate (fn.ntmps -vs.toArray.size) undef,defers:=[]} C.w0 ⟨loc₀,hg _ (by simp;omega) (fun t=>by simp)⟩;rw[hF]at hwp;have hfinal:∀σ a w,Gam C σ a w->(Q .normal σ\/Q .ret σ)->LeavesInM Fence.wide 0 C.P fn a.tmps R a.defers .returning w:=by
  rintro σ a w ⟨loc,hg'⟩ hq;refine ZiB a.defers a w rfl hg' fun w' hg2=>?_
  obtain⟨us,hh,hR⟩:=hret fn.results.toList hrs σ loc _ w' hg2 hq;refine⟨_,?_,hR⟩;unfold results;rw[Array.mapM_eq_mapM_toList];simp only at hh;generalize(fn.results.toList.mapM fun(x:ResultVar)=>(match x with|.tmp t=>(pure (a.tmps.getD t undef):Sem Value)|.cell b t=>do loadVar t (<-asAddr (a.tmps.getD b undef))))=m at hh;simp only[bind_pure_comp,Sem.run_map,hh,Result.andThen_ok]
 refine(callsIn_wide (n:=0)).1 (callsIn_of_wp_marks hfn hbody trivial (wpIn_mono hwp ?_));rintro e a' w' ⟨σ',hg',hq⟩;rcases hQ e σ' hq with rfl|rfl
 ·exact hfinal σ' a' w' hg' (.inl hq)
 ·exact hfinal σ' a' w' hg' (.inr hq)
def ZgO{w:World}{M:Cells}{loc:Nat->Value}:∀{avs:List AV}{us:List Value},RepAs w M loc avs us->RepA w M loc (Zbu avs) (if h:us.toArray.size=1 then us.toArray[0]else .tuple us.toArray)
 |[],us,hr=>by simp only[RepAs]at hr;subst hr;simp only[Zbu,RepA];exact⟨[],Kd,by simp[RepAs]⟩
 |[v],us,hr=>by simp only[RepAs]at hr;obtain⟨u,_,rfl,h1,rfl⟩:=hr;simpa [Zbu]using h1
 |v1::v2::avs,us,hr=>by have hl:=hr.length;simp only[Zbu,RepA];refine⟨us,?_,hr⟩;rw[dif_neg (by simp at hl|-;omega)]
def Ctx.of(P:Program)(N:Nat)(m:List Nat)(w:World)(M:Cells):Ctx:={P:=P,N:=N,m:=m,w0:=w,M0:=M,X:=fun _=>False,Mi:=fun b o=>M b o\/Mut (fun _=> .none) (fun _=>undef) b o,rd:=none,l0:=fun _=>undef,pin:=fun _=>False}
def Zur(loc:Nat->Value)(b o:Nat):¬Mut (fun _=> .none) loc b o:=fun⟨n,h⟩=>Ob.has_none _ _ (Ob.has_of_mut h)
def Zol{P:Program}{N:Nat}{m:List Nat}{w:World}{M:Cells}{args:List AV}{vs:List Value}(hM:∀b o,M b o->b<w.heap.size)(hr:RepAs w M (fun _=>undef) args vs)(hn:vs.length<=N){tm:Array Value}(hs:tm.size=N)(ht:∀t,tm.getD t undef=(vs.toArray++Array.replicate (N -vs.length) undef).getD t undef):G (Ctx.of P N m w M) (St.init args) (fun _=>undef) {tmps:=tm,defers:=[]} w:=by have hk:Keeps w w M (MM (Ctx.of P N m w M) (St.init args).own fun _=>undef):=Keeps.less fun b o h=>h.elim id fun h=>(Zur _ _ _ h).elim;refine⟨⟨rfl,rfl,rfl,Yi _,fun _ _ _=>rfl⟩,fun b o h=>⟨hM b o h,fun h=>h⟩,Keeps.refl _ _,fun d h=>(by cases h),List.Pairwise.nil,fun n h=>h.elim,hs,fun t=>?_,fun n=>trivial,fun n m b _ h _=>Ob.has_none _ _ h⟩;have:=RepA.keep hk _ _ (ZgB N args vs hr t);rw[<-ht t]at this;exact this
def Zq2{P:Program}{m:List Nat}{f:FuncId}{fc:FC}(hc:compM P m f=some fc){args:List AV}{r:AV}(hn:args.length<=fc.np)(hnp:fc.np<=fc.N)(h:∀C:Ctx,C.P=P->C.N=fc.N->C.Ok->(∀n,¬C.pin n)->AV.lensL args->WV C fc.body (ZfE fc.rs r) (St.init args)):FSpec P f args r:=by obtain⟨hcl,hb⟩:=Zcq hc;refine⟨hcl,fun w M vs hM hr=>?_⟩;have hlen:=hr.length;refine hb (Ctx.of P fc.N m w M) (ZfE fc.rs r) (St.init args) (fun _=>undef) vs _ rfl rfl rfl rfl Kc (h _ rfl rfl (fun _ h=>by cases h) (fun n h=>h) hr.lens) (fun tm hs ht=>Zol hM hr Kc hs ht) (fun l₀ hl₀ σ loc a w' hg hq=>?_) (fun e σ hq=>by cases e<;>first|exact .inl rfl|exact .inr rfl|exact hq.elim);have hret:Zcb fc.rs r σ:=hq.elim id id;unfold Zcb at hret;split at hret;(case h_2=>exact hret.elim);rename_i q avs hres;obtain⟨hq,r',hport,hle⟩:=hret;have hbelow:RowKit.Below w.heap.size w w':=⟨hg.fr.os,hg.fr.tape,hg.fr.output,hg.fr.size,fun k hk=>hg.fr.block k hk (fun h=>h)⟩;have hk:Keeps w' w' (MM (Ctx.of P fc.N m w M) σ.own loc) M:=Keeps.less fun b o h=> .inl h;obtain⟨us,hus,hrus⟩:=ZbB hg l₀ fc.rs hl₀ hres hq;exact⟨us,hus,_,rfl,hle _ _ _ _ (RepA.keep hk _ _ (port_rep hg (ZgO hrus) hport)),hbelow⟩
def Zok{P:Program}{m:List Nat}{f:FuncId}{fc:FC}(hc:compM P m f=some fc){args:List AV}{r:AV}(hn:args.length<=fc.np)(hnp:fc.np<=fc.N)(h:∀C:Ctx,C.P=P->C.N=fc.N->C.Ok->AV.lensL args->WV C fc.body (ZfE fc.rs r) (St.init args)):FSpec P f args r:=Zq2 hc hn hnp fun C h1 h2 h3 _ h4=>h C h1 h2 h3 h4
end Go.V
namespace Go.V
def e0:Nat->AV:=fun _=> .non
def o0:Nat->Ob:=fun _=> .none
def ZgW(t:Nat):e0 t= .non:=rfl
def Zg2(t:Nat):o0 t= .none:=rfl
def ZbX{α:Type}(f:Nat->α)(t s:Nat)(v:α):upd f t v s=if s=t then v else f s:=rfl
def ZvZ(d:Nat)(f:Nat->AV)(t:Nat):ZdI d f t=(f t).prg d:=rfl
def Zv1(d:Nat)(f:Nat->Ob)(t:Nat):ZbE d f t=(f t).prg d:=rfl
def Zbj(f:Nat->AV):Nat->List AV->Nat->AV
 |_,[]=>f
 |k,a::as=>Zbj (upd f k a) (k+1) as
def ZpH:∀(as:List AV)(f:Nat->AV)(k t:Nat),Zbj f k as t=if k<=t/\t<k+as.length then as.getD (t -k) .non else f t
 |[],f,k,t=>by simp only[Zbj];rw[Yx Kd]
 |a::as,f,k,t=>by simp only[Zbj];rw[ZpH as];by_cases h1:k+1<=t/\t<k+1+as.length;{rw[Yt h1,Yt (by simp;omega)];obtain⟨n,rfl⟩:∃n,t=k+1+n:=⟨t -(k+1),Kc⟩;rw[show k+1+n -(k+1)=n from by omega,show k+1+n -k=n+1 from by omega];simp};{rw[Yx h1,ZbX];by_cases h2:t=k;{subst h2;rw[Yt rfl,Yt Kd];simp};{rw[Yx h2,Yx (by simp;omega)]}}
def Zsu(args:List AV):St.init args=⟨Zbj e0 0 args,o0⟩:=by refine St.ext ?_ rfl;funext t;simp only[St.init,ZpH,YC,YcO,YaH,Nat.sub_zero];split;{rfl};{rename_i h;rw[Yb,YW Kc];rfl}
def AWk(own:Nat->Ob)(x y:AV):Prop:=
 y= .non\/x=y\/(∃n e sz es,x= .gr n/\own n= .grow e sz es/\y= .c (.sl sz es))\/(∃sz,x= .c (.raw (.slice none 0 0))/\y= .c (.sl sz []))
def AWk.refl(own:Nat->Ob)(x:AV):AWk own x x:=.inr (.inl rfl)
def AWk.of{own:Nat->Ob}{x y:AV}(h:x=y):AWk own x y:=.inr (.inl h)
def AWk.grow{own:Nat->Ob}{n e sz:Nat}{es:List (List CD)}(h:own n= .grow e sz es):AWk own (.gr n) (.c (.sl sz es)):=.inr (.inr (.inl ⟨n,e,sz,es,rfl,h,rfl⟩))
def AWk.nil{own:Nat->Ob}(sz:Nat):AWk own (.c (.raw (.slice none 0 0))) (.c (.sl sz [])):=.inr (.inr (.inr ⟨sz,rfl,rfl⟩))
def ZfA(own:Nat->Ob)(f g:Nat->AV):Prop:=∀t,AWk own (f t) (g t)
def Zc8(own:Nat->Ob)(f:Nat->AV):ZfA own f e0:=fun _=> .inl rfl
def Zco{own:Nat->Ob}{f g:Nat->AV}{t:Nat}{v:AV}(h:AWk own (f t) v)(hg:ZfA own f g):ZfA own f (upd g t v):=by intro s;rw[ZbX];split;{rename_i e;subst e;exact h};{exact hg s}
def ObjLe(f g:Nat->Ob):Prop:=∀n,g n=f n\/g n= .none
def Zon(f:Nat->Ob):ObjLe f o0:=fun _=> .inr rfl
def ZlG{f g:Nat->Ob}{n:Nat}{o:Ob}(h:f n=o)(hg:ObjLe f g):ObjLe f (upd g n o):=by intro s;rw[ZbX];split;{rename_i e;subst e;exact .inl h.symm};{exact hg s}
def Sub(σ σ':St):Prop:=∀(C:Ctx) a w,Gam C σ a w->Gam C σ' a w
def Sub.trans{σ σ1 σ2:St}(h:Sub σ σ1)(k:Sub σ1 σ2):Sub σ σ2:=fun C a w hg=>k C a w (h C a w hg)
def Zaf{σ σ':St}(he:ZfA σ.own σ.env σ'.env)(ho:ObjLe σ.own σ'.own):Sub σ σ':=by rintro C a w ⟨loc,hg⟩;(have hhas:∀n b,(σ'.own n).has (loc n) b->(σ.own n).has (loc n) b:=by intro n b h;rcases ho n with h1|h1;{rwa [h1]at h};{rw[h1]at h;exact(Ob.has_none _ _ h).elim});(have hk:Keeps w w (MM C σ.own loc) (MM C σ'.own loc):=by refine Keeps.less fun b o h=>?_;rcases h with h|⟨n,h⟩;{exact .inl h};{rcases ho n with h1|h1;{rw[h1]at h;exact .inr ⟨n,h⟩};{rw[h1]at h;exact(Ob.has_none _ _ (Ob.has_of_mut h)).elim}});refine⟨loc,hg.fr,hg.m0,hg.kp.trans hk,fun x hx=>?_,hg.mnd,hg.pin,hg.size,fun t=>?_,fun n=>?_,fun n m b hnm hn hm=>hg.disj n m b hnm (hhas n b hn) (hhas m b hm)⟩;{obtain⟨D,e1,e2,e3,e4⟩:=hg.marks x hx;exact⟨D,e1,e2,e3,fun⟨n,h⟩=>e4 ⟨n,hhas n D h⟩⟩};{have hs:=hg.slots t;rcases he t with h|h|⟨n,e,sz,es,h1,h2,h3⟩|⟨sz,h1,h2⟩;{rw[h];simp only[RepA]};{rw[<-h];exact RepA.keep hk _ _ hs};{rw[h1]at hs;rw[h3];simp only[RepA]at hs|-;rw[hs.1];exact RepC.keeps hk _ _ (hg.grow_data h2)};{rw[h1]at hs;rw[h2];simp only[RepA,RepC]at hs|-;exact⟨none,0,hs.1,Yi _,by simp[maxLen],.inl trivial⟩}};{rcases ho n with h1|h1;{rw[h1];exact ObOk.keep' hk (Yi _) (fun _ _=>rfl) (hg.objs n)};{rw[h1];trivial}}
def ZxI(d:Nat)(x y:AV):Prop:=y=x.prg d\/(x= .c (.raw (.slice none 0 0))/\y= .gr d)
def ZfC(d:Nat):List AV->List AV->Prop
 |[],l=>l=[]
 |x::xs,l=>∃y ys,l=y::ys/\ZxI d x y/\ZfC d xs ys
def NilOb(d:Nat):Ob->Ob->Prop
 |.box cs,o=>∃cs',o= .box cs'/\ZfC d cs cs'
 |.win cs,o=>∃cs',o= .win cs'/\ZfC d cs cs'
 |o,o'=>o'=o
def ZgG{w:World}{M:Cells}{loc loc':Nat->Value}{d:Nat}(hl:∀m,m≠d->loc' m=loc m)(hd:loc' d= .slice none 0 0):∀{xs ys:List AV}{l:List Value},ZfC d xs ys->RepAs w M loc xs l->RepAs w M loc' ys l
 |[],ys,l,h,hr=>by simp only[ZfC]at h;subst h;simpa only[RepAs]using hr
 |x::xs,ys,l,h,hr=>by simp only[ZfC]at h;obtain⟨y,ys',rfl,h1,h2⟩:=h;simp only[RepAs]at hr|-;obtain⟨v,vs,rfl,k1,k2⟩:=hr;refine⟨v,vs,rfl,?_,ZgG hl hd h2 k2⟩;rcases h1 with rfl|⟨rfl,rfl⟩;{exact RepA.prg hl k1};{simp only[RepA,RepC]at k1|-;rw[hd];exact⟨k1.1,by rw[k1.1];rfl⟩}
def NilOb.mut{d:Nat}{o o':Ob}(h:NilOb d o o')(v:Value):o'.mut v=o.mut v:=by
 cases o<;>simp only[NilOb]at h
 case box cs=>
  obtain⟨cs',rfl,_⟩:=h;cases v<;>first|rfl|(rename_i p;cases p<;>rfl)
 case win cs=>
  obtain⟨cs',rfl,_⟩:=h;cases v<;>first|rfl|(rename_i p;cases p<;>rfl)
 all_goals(subst h;rfl)
def NilOb.has{d:Nat}{o o':Ob}(h:NilOb d o o')(v:Value)(b:Nat):o'.has v b↔o.has v b:=by
 cases o<;>simp only[NilOb]at h
 case box cs=>
  obtain⟨cs',rfl,_⟩:=h;cases v<;>first|exact YaK|(rename_i p;cases p<;>exact YaK)
 case win cs=>
  obtain⟨cs',rfl,_⟩:=h;cases v<;>first|exact YaK|(rename_i p;cases p<;>exact YaK)
 all_goals(subst h;exact YaK)
def Zrf{σ σ':St}(d e sz:Nat)(hd1000:d<1000)(hsz:0<sz)(hd:σ.own d= .none)(he:∀t,ZxI d (σ.env t) (σ'.env t))(hod:σ'.own d= .grow e sz [])(ho:∀n,n≠d->NilOb d (σ.own n) (σ'.own n)):Sub σ σ':=by
 rintro C a w ⟨loc,hg⟩;(have hl:∀m,m≠d->upd loc d (.slice none 0 0) m=loc m:=fun m hm=>by simp[upd,hm]);(have hld:upd loc d (.slice none 0 0) d= .slice none 0 0:=by simp[upd]);(have hhas:∀n b,(σ'.own n).has (upd loc d (.slice none 0 0) n) b->n≠d/\(σ.own n).has (loc n) b:=by intro n b h;by_cases hn:n=d;{subst hn;rw[hod,hld]at h;exact h.elim};{rw[hl n hn,(ho n hn).has]at h;exact⟨hn,h⟩});(have hk:Keeps w w (MM C σ.own loc) (MM C σ'.own (upd loc d (.slice none 0 0))):=by refine Keeps.less fun b o h=>?_;rcases h with h|⟨n,h⟩;{exact .inl h};{by_cases hn:n=d;{subst hn;rw[hod,hld]at h;exact h.elim};{rw[hl n hn,(ho n hn).mut]at h;exact .inr ⟨n,h⟩}});refine⟨upd loc d (.slice none 0 0),hg.fr,hg.m0,hg.kp.trans hk,fun x hx=>?_,hg.mnd,fun n hn=>?_,hg.size,fun t=>?_,fun n=>?_,fun n m b hnm hn hm=>hg.disj n m b hnm (hhas n b hn).2 (hhas m b hm).2⟩;{obtain⟨D,e1,e2,e3,e4⟩:=hg.marks x hx;exact⟨D,e1,e2,e3,fun⟨n,h⟩=>e4 ⟨n,(hhas n D h).2⟩⟩};{obtain⟨p1,p2,p3⟩:=hg.pin n hn;exact⟨p1,(hl n Kc).trans p2,p3⟩};{have hs:=hg.slots t;rcases he t with h|⟨h1,h2⟩;{rw[h];exact RepA.keep hk _ _ (RepA.prg hl hs)};{rw[h1]at hs;rw[h2];simp only[RepA,RepC]at hs|-;rw[hld];exact⟨hs.1,by rw[hs.1];rfl⟩}}
 ·by_cases hn:n=d;{subst hn;rw[hod,hld];exact⟨[],World.ownsRow_nil w 0 e sz,fun b hb=>by simp[Value.ownBlock]at hb,⟨Kd,by simp[RepAs]⟩,hsz⟩}
  ·rw[hl n hn];have hob:=hg.objs n;have hno:=ho n hn;cases hx:σ.own n<;>rw[hx]at hob hno<;>simp only[NilOb]at hno
   case box cs=>
    obtain⟨cs',h1,h2⟩:=hno;rw[h1];obtain⟨b,l,e',k1,k2,k3,k4⟩:=hob;exact⟨b,l,e',k1,k2,k3,RepAs.keep hk _ _ (ZgG hl hld h2 k4)⟩
   case none=>rw[hno];trivial
   case win cs=>
    obtain⟨cs',h1,h2⟩:=hno;rw[h1];obtain⟨b,l,rest,e',k1,k3,k4⟩:=hob;exact⟨b,l,rest,e',k1,k3,RepAs.keep hk _ _ (ZgG hl hld h2 k4)⟩
   (case grow e' sz' es=>rw[hno];exact ObOk.keep (d:=d) hl hk (Yi _) (fun _ _=>rfl) hob);(case guest g rem=>rw[hno];exact ObOk.keep (d:=d) hl hk (Yi _) (fun _ _=>rfl) hob);case mp kk ek l=>rw[hno];exact ObOk.keep (d:=d) hl hk (Yi _) (fun _ _=>rfl) hob
section
variable{C:Ctx}{σ:St}{Q:Exit->St->Prop}
def Zav{v:VC}{σ':St}(h:Sub σ σ')(hv:WV C v Q σ'):WV C v Q σ:=Zgr (h C) hv
def Zat{x y:VC}(h:WV C x (Zaz (WV C y Q) Q) σ):WV C (.seq x y) Q σ:=by refine ZAG fun K hK=>h.mono fun e σ' hq=>?_;(cases e with|normal=>exact hK σ' hq|_=>exact hq)
def ZaE{ι:Type}{x:VC}(S:ι->St)(Inv:ι->Prop)(μ:ι->Nat)(i₀:ι)(h₀:Inv i₀)(hs:Sub σ (S i₀))(hr:∀i,Inv i->WV C x (Zaz (fun σ'=>∃i',Inv i'/\μ i'<μ i/\Sub σ' (S i')) Q) (S i)):WV C (.loop x) Q σ:=by(refine ZxL (fun n σ=>∃i,Inv i/\μ i=n/\Sub σ (S i)) (μ i₀) ⟨i₀,h₀,rfl,hs⟩ ?_;rintro n σ ⟨i,hi,rfl,hsub⟩;refine Zav hsub ((hr i hi).mono fun e σ' hq=>?_);cases e with|normal=>obtain⟨i',h1,h2,h3⟩:=hq;exact⟨μ i',h2,i',h1,rfl,h3⟩|_=>exact hq)
def ZaM{P:Program}{d:Option Nat}{f:X}{xs:List X}{K:St->Prop}{fid:FuncId}{caps args:List AV}{r:AV}(hs:FSpec P fid args r)(h1:(σ.val f).dg=true)(h2:(xs.all fun x=>(σ.val x).dg)=true)(h3:(σ.val f).dv= .fn fid caps)(h4:AV.portL σ.own (xs.map (fun x=>(σ.val x).dv)++caps)=some args)(h5:r.pureB=true)(hK:K (σ.put d r)):Zum P d f xs K σ:=⟨fid,caps,args,r,h1,h2,h3,h4,h5,hs,hK⟩
def ZhF{P:Program}{G:Bool}{d:Option Nat}{f:X}{xs:List X}{K:St->Prop}{fid:FuncId}{caps args:List AV}{r:AV}(hs:G=true->FSpec P fid args r)(h1:(σ.val f).dg=true)(h2:G=true->(xs.all fun x=>(σ.val x).dg)=true)(h3:(σ.val f).dv= .fn fid caps)(h4:AV.portL σ.own (xs.map (fun x=>(σ.val x).dv)++caps)=some args)(h5:r.pureB=true)(hK:K (σ.put d (.opt G r))):ZgQ P G d f xs K σ:=⟨r,h5,fun h=>⟨fid,caps,args,h1,h2 h,h3,h4,hs h⟩,hK⟩
end
def AWk.int{own:Nat->Ob}{k:IntKind}{a b:Int}(h:a=b):AWk own (.c (.int k a)) (.c (.int k b)):=AWk.of (by rw[h])
def w64{n:Int}(h1:-9223372036854775808<=n)(h2:n<=9223372036854775807):IntKind.i64.wrap n=n:=by simp only[IntKind.wrap,IntKind.bits,IntKind.signed,IntKind.max];simp;omega
end Go.V
namespace Go.V
mutual
def AV.fport(own:Nat->Ob):AV->Option AV
 |.c d=>if d.scal then some (.c d)else none
 |.gr n=>match own n with|.grow _ sz es=>if es.all (fun e=>e.all CD.scal)then some (.c (.sl sz es))else none|_=>none
 |.vw sz n off len cap=>match AV.elemsV own (.vw sz n off len cap)with|some (sz',es)=>if es.all (fun e=>e.all CD.scal)then some (.c (.sl sz' es))else none|none=>none
 |.agg cs=>(AV.fportL own cs).map .agg
 |.tup cs=>(AV.fportL own cs).map .tup
 |_=>none
def AV.fportL(own:Nat->Ob):List AV->Option (List AV)
 |[]=>some []
 |a::as=>
  match AV.fport own a,AV.fportL own as with
  |some x,some xs=>some (x::xs)
  |_,_=>none
end
def scals_c{w w':World}{M M':Cells}{loc loc':Nat->Value}:∀{cs:List CD}{l:List Value},cs.all CD.scal=true->RepAs w M loc (cs.map .c) l->RepAs w' M' loc' (cs.map .c) l
 |[],l,_,h=>by simpa only[Yg,RepAs]using h
 |c::cs,l,hs,h=>by simp only[YaE,Yf]at hs;simp only[Ye,RepAs,RepA]at h|-;obtain⟨v,vs,rfl,h1,h2⟩:=h;exact⟨v,vs,rfl,scal_c hs.1 h1,scals_c hs.2 h2⟩
def all_flat{es:List (List CD)}(h:es.all (fun e=>e.all CD.scal)=true):es.flatten.all CD.scal=true:=by rw[Yn]at h|-;intro c hc;obtain⟨e,he,hce⟩:=List.mem_flatten.1 hc;exact Yn.1 (h e he) c hce
variable{C:Ctx}{σ:St}{loc:Nat->Value}{a:Act}{w:World}
mutual
def fport_rep(hg:G C σ loc a w)(hX:∀b,¬C.X b)(hW:∀n cs,σ.own n≠ .win cs):∀{x y:AV}{v:Value},RepA w (MM C σ.own loc) loc x v->x.fport σ.own=some y->RepA w (fun b _=>b<C.B) (fun _=>undef) y v
 |.c d,y,v,h,hp=>by simp only[AV.fport]at hp;split at hp;{rename_i hs;simp only[Ya]at hp;subst hp;simp only[RepA]at h|-;exact scal_c hs h};{cases hp}
 |.gr n,y,v,h,hp=>by simp only[AV.fport]at hp;split at hp;{rename_i e sz es hn;split at hp;{rename_i hs;simp only[Ya]at hp;subst hp;simp only[RepA]at h|-;rw[h.1];have hob:=hg.objs n;rw[hn]at hob;obtain⟨xs,hown,hA,⟨hsz,hrs⟩,hpos⟩:=hob;simp only[RepC];rcases hown.2 with⟨hv,hn0⟩|⟨g,cap,cur,hv,hb,hh,hnc,hcm,hcs,htake⟩;{have:es=[]:=YE hn0;subst this;exact⟨none,0,hv,Yi _,by simp[maxLen],.inl rfl⟩};{refine⟨some ⟨g,0,none⟩,cap,hv,hnc,hcm,.inr ⟨_,rfl,?_⟩⟩;refine repE_of es xs 0 hsz (scals_c (all_flat hs) hrs) (fun j u hj=>?_) (fun j hj hm=>?_);{have:=hown.cells (g:=g) (by rw[hv];rfl) j u hj;(have e1:(⟨g,0,none⟩:Addr).add j=⟨g,j,none⟩:=by unfold Addr.add;split<;>simp_all);rw[e1]at this;simpa using this};{rcases hA g (by rw[hv];rfl)with h1|h1;{exact absurd hm Kc};{exact hX g h1}}}};{cases hp}};{cases hp}
 |.vw sz n off len cap,y,v,h,hp=>by simp only[AV.fport]at hp;split at hp;{rename_i sz' es he;split at hp;{rename_i hs;simp only[Ya]at hp;subst hp;simp only[AV.elemsV]at he;split at he;{rename_i cs hcs;split at he;{rename_i hfit;simp only[Yh,Yj]at he;obtain⟨ds,hds,rfl,rfl⟩:=he;have hob:=hg.objs n;(have hbox:σ.own n= .box cs:=by cases hx:σ.own n<;>rw[hx]at hcs<;>simp only[Ob.cellsR,Ya,reduceCtorEq]at hcs;{rw[hcs]};{exact(hW n _ hx).elim});rw[hbox]at hob;obtain⟨b,l,e,hl,hA,hh,hrs⟩:=hob;simp only[RepA]at h|-;obtain⟨b',o',hl',rfl,hoff,hlc,hcm⟩:=h;rw[hl]at hl';simp only[Value.pointer.injEq,Ya,Addr.mk.injEq,Ya2]at hl';subst hl';have hll:=hrs.length;have hrd:=toCDs_rep hg ((hrs.drop off).take (len*sz)) hds;have hdl:=hrd.length;simp only[Yc,Y4,Yac]at hdl;(have hdl':ds.length=len*sz:=by omega);simp only[RepC,grp_len];refine⟨_,cap,rfl,hlc,hcm,?_⟩;by_cases h0:len=0;{subst h0;exact .inl rfl};{right;have ho:o'=off:=hoff Kc;subst ho;refine⟨_,rfl,?_⟩;have hfl:=all_flat hs;rw[grp_flat sz len ds hdl']at hfl;refine repE_of (grp sz len ds) ((l.drop o').take (len*sz)) o' (grp_sz sz len ds hdl') ?_ (fun j u hj=>?_) (fun j hj hm=>?_);{rw[grp_flat sz len ds hdl'];exact scals_c hfl hrd};{rw[Y6]at hj;split at hj;{rw[Yaf]at hj;rw[cell_bp hh,hj]};{cases hj}};{rcases hA with h1|h1;{exact absurd hm Kc};{exact hX _ h1}}}};{cases he}};{cases he}};{cases hp}};{cases hp}
 |.agg cs,y,v,h,hp=>by simp only[AV.fport,Yh]at hp;obtain⟨ys,hp,rfl⟩:=hp;simp only[RepA]at h|-;obtain⟨l,rfl,hr⟩:=h;exact⟨l,rfl,fports_rep hg hX hW hr hp⟩
 |.tup cs,y,v,h,hp=>by simp only[AV.fport,Yh]at hp;obtain⟨ys,hp,rfl⟩:=hp;simp only[RepA]at h|-;obtain⟨l,rfl,hr⟩:=h;exact⟨l,rfl,fports_rep hg hX hW hr hp⟩
 |.bp _ _,y,v,h,hp=>by simp[AV.fport]at hp
 |.fn _ _,y,v,h,hp=>by simp[AV.fport]at hp
 |.opt _ _,y,v,h,hp=>by simp[AV.fport]at hp
 |.non,y,v,h,hp=>by simp[AV.fport]at hp
def fports_rep(hg:G C σ loc a w)(hX:∀b,¬C.X b)(hW:∀n cs,σ.own n≠ .win cs):∀{xs ys:List AV}{l:List Value},RepAs w (MM C σ.own loc) loc xs l->AV.fportL σ.own xs=some ys->RepAs w (fun b _=>b<C.B) (fun _=>undef) ys l
 |[],ys,l,h,hp=>by simp only[AV.fportL,Ya]at hp;subst hp;simpa only[RepAs]using h
 |x::xs,ys,l,h,hp=>by simp only[AV.fportL]at hp;split at hp;{rename_i y ys' h1 h2;simp only[Ya]at hp;subst hp;simp only[RepAs]at h|-;obtain⟨v,vs,rfl,k1,k2⟩:=h;exact⟨v,vs,rfl,fport_rep hg hX hW k1 h1,fports_rep hg hX hW k2 h2⟩};{cases hp}
end
def Zus(own:Nat->Ob):Prop:=∀n cs,own n≠ .win cs
def Ze4(rs:List RV)(r:AV)(σ:St):Prop:=
 match Zaq σ rs with
 |some (q,vs)=>q/\Zus σ.own/\∃r',(Zbu vs).fport σ.own=some r'/\AVle r' r
 |none=>False
def ZlI(rs:List RV)(r:AV):Exit->St->Prop
 |.normal,σ=>Ze4 rs r σ
 |.ret,σ=>Ze4 rs r σ
 |_,_=>False
def ZlC{P:Program}{m:List Nat}{f:FuncId}{fc:FC}(hc:compM P m f=some fc){args:List AV}{r:AV}(hn:args.length<=fc.np)(hnp:fc.np<=fc.N)(h:∀C:Ctx,C.P=P->C.N=fc.N->C.Ok->AV.lensL args->WV C fc.body (ZlI fc.rs r) (St.init args)):ZhI P f args r:=by obtain⟨hcl,hb⟩:=Zcq hc;refine⟨hcl,fun w vs hr=>?_⟩;have hlen:=hr.length;refine hb (Ctx.of P fc.N m w fun _ _=>False) (ZlI fc.rs r) (St.init args) (fun _=>undef) vs _ rfl rfl rfl rfl Kc (h _ rfl rfl (fun _ h=>by cases h) hr.lens) (fun tm hs ht=>Zol (fun _ _ h=>h.elim) hr Kc hs ht) (fun l₀ hl₀ σ loc a w' hg hq=>?_) (fun e σ hq=>by cases e<;>first|exact .inl rfl|exact .inr rfl|exact hq.elim);have hret:Ze4 fc.rs r σ:=hq.elim id id;unfold Ze4 at hret;split at hret;(case h_2=>exact hret.elim);rename_i q avs hres;obtain⟨hq,hW,r',hport,hle⟩:=hret;have hbelow:RowKit.Below w.heap.size w w':=⟨hg.fr.os,hg.fr.tape,hg.fr.output,hg.fr.size,fun k hk=>hg.fr.block k hk (fun h=>h)⟩;obtain⟨us,hus,hrus⟩:=ZbB hg l₀ fc.rs hl₀ hres hq;exact⟨us,hus,_,rfl,hle _ _ _ _ (fport_rep hg (fun _ h=>h) hW (ZgO hrus) hport),hbelow⟩
end Go.V
namespace Go.V
mutual
def AV.keepP(own:Nat->Ob):AV->Option AV
 |.c d=>some (.c d)
 |.gr n=>if 1000<=n then some (.gr n)else match own n with|.grow _ sz es=>some (.c (.sl sz es))|_=>none
 |.bp n off=>if 1000<=n then some (.bp n off)else none
 |.vw sz n off len cap=>if 1000<=n then some (.vw sz n off len cap)else none
 |.agg cs=>(AV.keepPL own cs).map .agg
 |.tup cs=>(AV.keepPL own cs).map .tup
 |.fn f cs=>(AV.keepPL own cs).map (.fn f)
 |.non=>some .non
 |.opt _ _=>none
def AV.keepPL(own:Nat->Ob):List AV->Option (List AV)
 |[]=>some []
 |a::as=>
  match AV.keepP own a,AV.keepPL own as with
  |some x,some xs=>some (x::xs)
  |_,_=>none
end
def Ob.keepP(own:Nat->Ob):Ob->Option Ob
 |.box cs=>(AV.keepPL own cs).map .box
 |.win cs=>(AV.keepPL own cs).map .win
 |.grow e sz es=>some (.grow e sz es)
 |.guest g rem=>some (.guest g rem)
 |.mp kk ek l=>some (.mp kk ek l)
 |.none=>some .none
variable{C:Ctx}{σ:St}{loc:Nat->Value}{a:Act}{w:World}
mutual
def keepP_rep(hg:G C σ loc a w):∀{x y:AV}{v:Value},RepA w (MM C σ.own loc) loc x v->x.keepP σ.own=some y->RepA w (MM C σ.own loc) loc y v
 |.c d,y,v,h,hp=>by simp only[AV.keepP,Ya]at hp;subst hp;exact h
 |.non,y,v,h,hp=>by simp only[AV.keepP,Ya]at hp;subst hp;exact h
 |.opt _ _,y,v,h,hp=>by simp[AV.keepP]at hp
 |.gr n,y,v,h,hp=>by simp only[AV.keepP]at hp;split at hp;{simp only[Ya]at hp;subst hp;exact h};{split at hp;{rename_i e sz es hn;simp only[Ya]at hp;subst hp;simp only[RepA]at h|-;rw[h.1];exact hg.grow_data hn};{cases hp}}
 |.bp n off,y,v,h,hp=>by simp only[AV.keepP]at hp;split at hp;{simp only[Ya]at hp;subst hp;exact h};{cases hp}
 |.vw sz n off len cap,y,v,h,hp=>by simp only[AV.keepP]at hp;split at hp;{simp only[Ya]at hp;subst hp;exact h};{cases hp}
 |.agg cs,y,v,h,hp=>by simp only[AV.keepP,Yh]at hp;obtain⟨ys,hp,rfl⟩:=hp;simp only[RepA]at h|-;obtain⟨l,rfl,hr⟩:=h;exact⟨l,rfl,keepPs_rep hg hr hp⟩
 |.tup cs,y,v,h,hp=>by simp only[AV.keepP,Yh]at hp;obtain⟨ys,hp,rfl⟩:=hp;simp only[RepA]at h|-;obtain⟨l,rfl,hr⟩:=h;exact⟨l,rfl,keepPs_rep hg hr hp⟩
 |.fn f cs,y,v,h,hp=>by simp only[AV.keepP,Yh]at hp;obtain⟨ys,hp,rfl⟩:=hp;simp only[RepA]at h|-;obtain⟨l,rfl,hr⟩:=h;exact⟨l,rfl,keepPs_rep hg hr hp⟩
def keepPs_rep(hg:G C σ loc a w):∀{xs ys:List AV}{l:List Value},RepAs w (MM C σ.own loc) loc xs l->AV.keepPL σ.own xs=some ys->RepAs w (MM C σ.own loc) loc ys l
 |[],ys,l,h,hp=>by simp only[AV.keepPL,Ya]at hp;subst hp;exact h
 |x::xs,ys,l,h,hp=>by simp only[AV.keepPL]at hp;split at hp;{rename_i y ys' h1 h2;simp only[Ya]at hp;subst hp;simp only[RepAs]at h|-;obtain⟨v,vs,rfl,k1,k2⟩:=h;exact⟨v,vs,rfl,keepP_rep hg k1 h1,keepPs_rep hg k2 h2⟩};{cases hp}
end
def ObOk.allow{P:Program}{A A':Nat->Prop}{M:Cells}{v:Value}{o:Ob}(hA:(∀cs,o≠ .win cs)->∀b,o.has v b->A' b)(h:ObOk P A w M loc v o):ObOk P A' w M loc v o:=by(cases o with|none=>trivial|box cs=>obtain⟨b,l,e,rfl,h2,h3,h4⟩:=h;exact⟨b,l,e,rfl,hA (fun cs h=>by cases h) b rfl,h3,h4⟩|win cs=>exact h|grow e sz es=>obtain⟨xs,h1,h2,h3⟩:=h;exact⟨xs,h1,fun b hb=>hA (fun cs h=>by cases h) b (Ob.has_own.2 hb),h3⟩|guest g rem=>obtain⟨h1,Lg,rfl,h2,h3⟩:=h;exact⟨h1,Lg,rfl,h2,fun b hb=>⟨(h3 b hb).1,hA (fun cs h=>by cases h) b ((Zan Lg b).2 hb)⟩⟩|mp kk ek l=>obtain⟨b,es,clock,rfl,h2,h3,h4⟩:=h;exact⟨b,es,clock,rfl,hA (fun cs h=>by cases h) b rfl,h3,h4⟩)
def Ob.keepP_has{own:Nat->Ob}{o o':Ob}(h:o.keepP own=some o')(v:Value)(b:Nat):o'.has v b↔o.has v b:=by cases o<;>simp only[Ob.keepP,Yh,Ya]at h;{subst h;exact YaK};{obtain⟨cs,_,rfl⟩:=h;cases v<;>first|exact YaK|(rename_i p;cases p<;>exact YaK)};{subst h;exact YaK};{obtain⟨cs,_,rfl⟩:=h;cases v<;>first|exact YaK|(rename_i p;cases p<;>exact YaK)};{subst h;exact YaK};{subst h;exact YaK}
def Ob.keepP_mut{own:Nat->Ob}{o o':Ob}(h:o.keepP own=some o')(v:Value):o'.mut v=o.mut v:=by cases o<;>simp only[Ob.keepP,Yh,Ya]at h;{subst h;rfl};{obtain⟨cs,_,rfl⟩:=h;cases v<;>first|rfl|(rename_i p;cases p<;>rfl)};{subst h;rfl};{obtain⟨cs,_,rfl⟩:=h;cases v<;>first|rfl|(rename_i p;cases p<;>rfl)};{subst h;rfl};{subst h;rfl}
def ObOk.keepP{A:Nat->Prop}{v:Value}(hg:G C σ loc a w){o o':Ob}(hk:o.keepP σ.own=some o')(h:ObOk C.P A w (MM C σ.own loc) loc v o):ObOk C.P A w (MM C σ.own loc) loc v o':=by cases o<;>simp only[Ob.keepP,Yh,Ya]at hk;{subst hk;trivial};{obtain⟨cs,hcs,rfl⟩:=hk;obtain⟨b,l,e,h1,h2,h3,h4⟩:=h;exact⟨b,l,e,h1,h2,h3,keepPs_rep hg h4 hcs⟩};{subst hk;exact h};{obtain⟨cs,hcs,rfl⟩:=hk;obtain⟨b,l,rest,e,h1,h3,h4⟩:=h;exact⟨b,l,rest,e,h1,h3,keepPs_rep hg h4 hcs⟩};{subst hk;exact h};{subst hk;exact h}
end Go.V
namespace Go.V
def Ob.isWin:Ob->Bool
 |.win _=>true
 |_=>false
structure KeepL(l:List Ob)(wl:List (List AV))(σ:St)(l':List Ob):Prop where
 len:l'.length=l.length
 nowin:(l'.all fun o=> !o.isWin)=true
 keep:∀i,i<l.length->(σ.own (1000+i)).keepP σ.own=some (l'.getD i .none)
 wins:∀j,j<wl.length->σ.own (2000+j)= .win (wl.getD j [])
 place:∀i,i<l.length->(l.getD i .none).isPlace=true->(l'.getD i .none).isPlace=true
def ZgS(rs:List RV)(l:List Ob)(wl:List (List AV))(Post:AV->List Ob->Prop)(σ:St):Prop:=
 match Zaq σ rs with
 |some (q,vs)=>q/\∃r l',(Zbu vs).keepP σ.own=some r/\KeepL l wl σ l'/\Post r l'
 |none=>False
def Zjj(rs:List RV)(l:List Ob)(wl:List (List AV))(Post:AV->List Ob->Prop):Exit->St->Prop
 |.normal,σ=>ZgS rs l wl Post σ
 |.ret,σ=>ZgS rs l wl Post σ
 |_,_=>False
def Ctx.lentC(P:Program)(N:Nat)(m:List Nat)(w:World)(M:Cells)(l:List Ob)(wl:List (List AV))(loc:Nat->Value)(rd:Option Nat):Ctx:=
 {P:=P,N:=N,m:=m,w0:=w,M0:=M,X:=Foot (ZbV 1000 l) loc,Mi:=AddM M (ZaX l wl) loc,rd:=rd,l0:=loc,pin:=fun n=>(ZaX l wl n).isPlace=true}
def Zev{l:List Ob}{wl:List (List AV)}(hl:l.length<=1000)(n:Nat):(∃i,i<l.length/\n=1000+i/\ZaX l wl n=l.getD i .none/\ZbV 1000 l n=l.getD i .none)\/(∃j,j<wl.length/\n=2000+j/\ZaX l wl n= .win (wl.getD j [])/\ZbV 1000 l n= .none)\/(ZaX l wl n= .none/\ZbV 1000 l n= .none):=by rcases Zcl l wl n with⟨i,o,rfl,h2,h3,h4⟩|⟨j,cs,rfl,h3,h4⟩|h;{have hi:i<l.length:=(Ym.1 h3).1;exact .inl ⟨i,hi,rfl,by rw[h4,Yb,h3];rfl,by rw[ZbW h3,Yb,h3];rfl⟩};{have hj:j<wl.length:=(Ym.1 h3).1;refine .inr (.inl ⟨j,hj,rfl,by rw[h4,Yb,h3];rfl,Zdh (.inr Kc)⟩)};{refine .inr (.inr ⟨h,?_⟩);rcases ZaG l n with⟨i,o,rfl,h3,h4⟩|h4;{have hi:i<l.length:=(Ym.1 h3).1;rw[ZbI Kc]at h;exact h};{exact h4}}
def ZnH{o:Ob}(h:o.isPlace=true){P:Program}{A:Nat->Prop}{w:World}{M:Cells}{loc:Nat->Value}{v:Value}(hob:ObOk P A w M loc v o):placeV v=true:=by cases o<;>simp only[Ob.isPlace,Yp]at h;{obtain⟨b,l,e,rfl,_⟩:=hob;rfl};{obtain⟨b,l,r,e,rfl,_⟩:=hob;rfl};{obtain⟨b,es,clock,rfl,_⟩:=hob;rfl}
def ZxH{l:List Ob}{wl:List (List AV)}(hl:l.length<=1000){loc:Nat->Value}{b:Nat}(h:Foot (ZbV 1000 l) loc b):Foot (ZaX l wl) loc b:=by obtain⟨n,hn⟩:=h;rcases Zev (wl:=wl) hl n with⟨i,h1,h2,h3,h4⟩|⟨j,h1,h2,h3,h4⟩|⟨h3,h4⟩;{exact⟨n,by rw[h3,<-h4];exact hn⟩};{rw[h4]at hn;exact(Ob.has_none _ _ hn).elim};{rw[h4]at hn;exact(Ob.has_none _ _ hn).elim}
def Zq3{P:Program}{N:Nat}{m:List Nat}{w:World}{M:Cells}{l:List Ob}{wl:List (List AV)}{loc:Nat->Value}{rd:Option Nat}{env:Nat->AV}(hl:l.length<=1000)(hN:N<=1000)(hM:∀b o,M b o->b<w.heap.size/\¬Foot (ZaX l wl) loc b)(hok:LentOk P w M loc (ZaX l wl)){tm:Array Value}(hs:tm.size=N)(hr:∀t,RepA w (AddM M (ZaX l wl) loc) loc (env t) (tm.getD t undef)):G (Ctx.lentC P N m w M l wl loc rd) ⟨env,ZaX l wl⟩ loc {tmps:=tm,defers:=[]} w:=by refine⟨⟨rfl,rfl,rfl,Yi _,fun _ _ _=>rfl⟩,fun b o h=>⟨(hM b o h).1,fun hx=>(hM b o h).2 (ZxH hl hx)⟩,Keeps.refl _ _,fun d h=>(by cases h),List.Pairwise.nil,fun n h=>⟨?_,rfl,ZnH h (hok.objs n)⟩,hs,hr,fun n=>?_,fun n m b hnm h h'=>hok.disj n m b hnm h h'⟩;{have h':(ZaX l wl n).isPlace=true:=h;(show N<=n/\1000<=n;rcases Zev (wl:=wl) hl n with⟨i,h1,h2,h3,h4⟩|⟨j,h1,h2,h3,h4⟩|⟨h3,h4⟩);{omega};{omega};{rw[h3]at h';cases h'}};{refine ObOk.allow (fun hw b hb=> .inr ?_) (hok.objs n);refine⟨n,?_⟩;(show(ZbV 1000 l n).has (loc n) b;have hb':(ZaX l wl n).has (loc n) b:=hb;rcases Zev (wl:=wl) hl n with⟨i,h1,h2,h3,h4⟩|⟨j,h1,h2,h3,h4⟩|⟨h3,h4⟩);{rw[h4,<-h3];exact hb'};{exact(hw _ h3).elim};{rw[h3]at hb';exact(Ob.has_none _ _ hb').elim}}
def Zs1{l:List Ob}{i:Nat}(h:i<l.length):ZbV 1000 l (1000+i)=l.getD i .none:=
 ZbW (by rw[Yb,Yd h];rfl)
def Zmr{C:Ctx}{σ:St}{loc loc':Nat->Value}{a:Act}{w':World}{M:Cells}{l l':List Ob}{wl:List (List AV)}(hl:l.length<=1000)(hM0:C.M0=M)(hX:C.X=Foot (ZbV 1000 l) loc)(hMi:C.Mi=AddM M (ZaX l wl) loc)(hl0:C.l0=loc)(hpin:C.pin=fun n=>(ZaX l wl n).isPlace=true)(hg:G C σ loc' a w')(hk:KeepL l wl σ l'):
  Fx C.w0 w' (Foot (ZbV 1000 l) loc)/\Keeps C.w0 w' (AddM M (ZaX l wl) loc) (AddM M (ZaX l' wl) loc')/\LentOk C.P w' M loc' (ZaX l' wl)/\
   (∀n b,(ZbV 1000 l' n).has (loc' n) b->Foot (ZbV 1000 l) loc b\/C.w0.heap.size<=b)/\(∀n,(ZaX l wl n).isPlace=true->(ZaX l' wl n).isPlace=true/\loc' n=loc n)/\
   (∀r r' v,r.keepP σ.own=some r'->RepA w' (MM C σ.own loc') loc' r v->RepA w' (AddM M (ZaX l' wl) loc') loc' r' v):=by
 obtain⟨hll,hnw,hkl,hkw,hpl⟩:=hk;(have own_eq:∀n,(σ.own n).keepP σ.own=some (ZaX l' wl n)\/σ.own n=ZaX l' wl n\/ZaX l' wl n= .none:=by intro n;rcases Zev (l:=l') (wl:=wl) Kc n with⟨i,h1,rfl,h3,h4⟩|⟨j,h1,rfl,h3,h4⟩|⟨h3,h4⟩;{left;rw[h3];exact hkl i Kc};{right;left;rw[h3,hkw j h1]};{exact .inr (.inr h3)});(have hhas:∀n b,(ZaX l' wl n).has (loc' n) b->(σ.own n).has (loc' n) b:=by intro n b hb;rcases own_eq n with h|h|h;{exact(Ob.keepP_has h _ _).1 hb};{rw[h];exact hb};{rw[h]at hb;exact(Ob.has_none _ _ hb).elim});(have hmut:∀n b o,(ZaX l' wl n).mut (loc' n) b o->(σ.own n).mut (loc' n) b o:=by intro n b o hb;rcases own_eq n with h|h|h;{rwa [Ob.keepP_mut h]at hb};{rw[h];exact hb};{rw[h]at hb;exact(Ob.has_none _ _ (Ob.has_of_mut hb)).elim});(have hk:Keeps w' w' (MM C σ.own loc') (AddM M (ZaX l' wl) loc'):=Keeps.less fun b o hb=>by rcases hb with hb|⟨n,hn⟩;{exact .inl (hM0▸hb)};{exact .inr ⟨n,hmut n b o hn⟩});refine⟨⟨hg.fr.os,hg.fr.tape,hg.fr.output,hg.fr.size,fun k hk1 hk2=>hg.fr.block k hk1 (hX▸hk2)⟩,hMi▸hg.kp.trans hk,⟨fun n=>?_,fun n m b hnm hb hb'=>hg.disj n m b hnm (hhas n b hb) (hhas m b hb')⟩,fun n b hb=>?_,fun n hp=>?_,fun r r' v hr hv=>RepA.keep hk _ _ (keepP_rep hg hv hr)⟩;{refine ObOk.keep' hk (Yi _) (fun _ _=>rfl) ?_;rcases own_eq n with h|h|h;{exact ObOk.allow (fun _ _ _=>trivial) (ObOk.keepP hg h (hg.objs n))};{rw[<-h];exact ObOk.allow (fun _ _ _=>trivial) (hg.objs n)};{rw[h];trivial}}
 ·rcases Zev (l:=l') (wl:=wl) Kc n with⟨i,h1,rfl,h3,h4⟩|⟨j,h1,rfl,h3,h4⟩|⟨h3,h4⟩
  ·rw[h4,<-h3]at hb;have hb':=hhas _ _ hb;have hA:C.A b:=by
    have hob:=hg.objs (1000+i);rw[h3]at hb;cases hx:σ.own (1000+i)<;>rw[hx]at hob hb';(case none=>exact(Ob.has_none _ _ hb').elim);case box cs=>obtain⟨b1,l1,e1,k1,k2,_⟩:=hob;rw[k1]at hb';cases hb';exact k2
    case win cs=>
     exfalso;have h6:=hkl i Kc;rw[hx]at h6;simp only[Ob.keepP,Yh]at h6;obtain⟨cs',_,h6⟩:=h6;have h7:l'.getD i .none∈l':=by
      rw[Yb,Yd h1];exact Yv h1
     have h8:=Yn.1 hnw _ h7;rw[<-h6]at h8;cases h8
    (case grow e sz es=>obtain⟨xs,k1,k2,_⟩:=hob;exact k2 b (Ob.has_own.1 hb'));(case guest g rem=>obtain⟨k0,Lg,k1,k2,k3⟩:=hob;rw[k1]at hb';exact(k3 b ((Zan Lg b).1 hb')).2);case mp kk ek l=>obtain⟨b1,es,clock,k1,k2,_⟩:=hob;rw[k1]at hb';cases hb';exact k2
   exact(hX▸hA:C.B<=b\/Foot (ZbV 1000 l) loc b).symm
  {rw[h4]at hb;exact(Ob.has_none _ _ hb).elim};{rw[h4]at hb;exact(Ob.has_none _ _ hb).elim}
 ·have hpn:=hg.pin n (by rw[hpin];exact hp);refine⟨?_,hl0▸hpn.2.1⟩;rcases Zev (l:=l) (wl:=wl) hl n with⟨i,h1,rfl,h3,h4⟩|⟨j,h1,rfl,h3,h4⟩|⟨h3,h4⟩;{rw[h3]at hp;have h5:=hpl i h1 hp;rcases Zev (l:=l') (wl:=wl) Kc (1000+i)with⟨i',h1',h2',h3',h4'⟩|⟨j,h1',h2',h3',h4'⟩|⟨h3',h4'⟩;{(have:i'=i:=by omega);subst this;rw[h3'];exact h5};{omega};{have:=ZbW (l:=l') (i:=i) (o:=l'.getD i .none) (by rw[Yb,Yd Kc];rfl);rw[this]at h4';rw[h4']at h5;cases h5}};{rw[Zhy (cs:=wl.getD j []) (by rw[Yb,Yd h1];rfl)];rfl};{rw[h3]at hp;cases hp}
def Zq1{P:Program}{m:List Nat}{f:FuncId}{fc:FC}(hc:compM P m f=some fc){args:List AV}{l:List Ob}{wl:List (List AV)}{Post:AV->List Ob->Prop}(hl:l.length<=1000)(hn:args.length<=fc.np)(hnp:fc.np<=fc.N)(hN:fc.N<=1000)(h:∀C:Ctx,C.P=P->C.N=fc.N->C.Ok->AV.lensL args->WV C fc.body (Zjj fc.rs l wl Post) ⟨fun t=>args.getD t .non,ZaX l wl⟩):Zc9 P f args l wl Post:=by obtain⟨hcl,hb⟩:=Zcq hc;refine⟨hcl,hl,fun w M loc vs hM hok hr=>?_⟩;have hlen:=hr.length;refine hb (Ctx.lentC P fc.N m w M l wl loc none) (Zjj fc.rs l wl Post) _ loc vs _ rfl rfl rfl rfl Kc (h _ rfl rfl (fun _ h=>by cases h) hr.lens) (fun tm hs ht=>Zq3 hl hN hM hok hs (fun t=>by rw[ht t];exact ZgB fc.N args vs hr t)) (fun l₀ hl₀ σ loc' a w' hg hq=>?_) (fun e σ hq=>by cases e<;>first|exact .inl rfl|exact .inr rfl|exact hq.elim);have hret:ZgS fc.rs l wl Post σ:=hq.elim id id;unfold ZgS at hret;split at hret;(case h_2=>exact hret.elim);rename_i q avs hres;obtain⟨hq,r,l',hkr,hkl,hpost⟩:=hret;obtain⟨us,hus,hrus⟩:=ZbB hg l₀ fc.rs hl₀ hres hq;obtain⟨k1,k2,k3,k4,k5,k6⟩:=Zmr hl rfl rfl rfl rfl rfl hg hkl;exact⟨us,hus,_,r,l',loc',rfl,hpost,hkl.len,k1,k2,k3,k4,k5,k6 _ _ _ hkr (ZgO hrus)⟩
end Go.V
namespace Go.V
section
variable{C:Ctx}{σ:St}{loc:Nat->Value}{a:Act}{w:World}
end
def ZqS:(Nat->AV)->List (Nat×AV)->Nat->AV
 |env,[]=>env
 |env,(p,v)::r=>ZqS (upd env p v) r
end Go.V
namespace Go.V
section
variable{C:Ctx}{σ:St}{loc:Nat->Value}{a:Act}{w:World}
end
end Go.V
namespace Go.V
mutual
def AV.frz(n:Nat)(ds:List CD):AV->AV
 |.bp m o=>if m=n then .c (.pt (ds.drop o))else .bp m o
 |.vw sz m off len cap=>if m=n then(if off+len*sz<=ds.length then .c (.sl sz (grp sz len ((ds.drop off).take (len*sz))))else .non)else .vw sz m off len cap
 |.agg cs=> .agg (AV.frzL n ds cs)
 |.tup cs=> .tup (AV.frzL n ds cs)
 |.fn f cs=> .fn f (AV.frzL n ds cs)
 |.opt g x=> .opt g (AV.frz n ds x)
 |.gr m=> .gr m
 |.non=> .non
 |.c x=> .c x
def AV.frzL(n:Nat)(ds:List CD):List AV->List AV
 |[]=>[]
 |a::as=>AV.frz n ds a::AV.frzL n ds as
end
def Ob.frz(n:Nat)(ds:List CD):Ob->Ob
 |.box cs=> .box (AV.frzL n ds cs)
 |.win cs=> .win (AV.frzL n ds cs)
 |o=>o
def ZoQ(n:Nat)(ds:List CD)(f:Nat->AV):Nat->AV:=fun t=>(f t).frz n ds
def Zfz(n:Nat)(ds:List CD)(f:Nat->Ob):Nat->Ob:=fun m=>if m=n then .none else(f m).frz n ds
def Zu2(n:Nat)(ds:List CD)(f:Nat->AV)(t:Nat):ZoQ n ds f t=(f t).frz n ds:=rfl
def Zu5(n:Nat)(ds:List CD)(f:Nat->Ob)(m:Nat):Zfz n ds f m=if m=n then .none else(f m).frz n ds:=rfl
section
variable{w:World}{M:Cells}{loc:Nat->Value}{n b:Nat}{ds:List CD}
def RepL.take':∀(k:Nat)(cs:List CD)(ad:Addr),RepL w M cs ad->RepL w M (cs.take k) ad
 |0,cs,ad,_=>by simp[RepL]
 |k+1,[],ad,_=>by simp[RepL]
 |k+1,c::cs,ad,h=>by simp only[RepL]at h;simp only[Y8,RepL];exact⟨h.1,RepL.take' k cs _ h.2⟩
def repE_grp(sz:Nat):∀(len:Nat)(cs:List CD)(ad:Addr),len*sz<=cs.length->RepL w M cs ad->RepE w M sz (grp sz len cs) ad
 |0,cs,ad,_,_=>by simp[grp,RepE]
 |len+1,cs,ad,hl,h=>by(have hm:(len+1)*sz=len*sz+sz:=by rw[YX];omega);simp only[grp,RepE];exact⟨⟨by rw[Y4];omega,RepL.take' sz cs ad h⟩,repE_grp sz len _ _ (by rw[Yac];omega) (RepL.drop sz cs ad h)⟩
mutual
def frz_rep(hl:loc n= .pointer (some ⟨b,0,none⟩))(hd:RepL w M ds ⟨b,0,none⟩):∀{x:AV}{v:Value},RepA w M loc x v->RepA w M loc (x.frz n ds) v
 |.non,v,h=>h
 |.c d,v,h=>h
 |.gr m,v,h=>h
 |.bp m o,v,h=>by simp only[AV.frz];split;{rename_i hm;subst hm;simp only[RepA,RepC]at h|-;obtain⟨b',e1,e2⟩:=h;rw[hl]at e1;simp only[Value.pointer.injEq,Ya,Addr.mk.injEq,Ya2]at e1;subst e1;refine⟨_,e2,?_⟩;have:=RepL.drop o ds _ hd;(have e:(⟨b,0,none⟩:Addr).add o=⟨b,o,none⟩:=by unfold Addr.add;split<;>simp_all);rwa [e]at this};{exact h}
 |.vw sz m off len cap,v,h=>by simp only[AV.frz];split;{rename_i hm;subst hm;split;{rename_i hfit;simp only[RepA,RepC]at h|-;obtain⟨b',o',e1,rfl,ho,hlc,hcm⟩:=h;rw[hl]at e1;simp only[Value.pointer.injEq,Ya,Addr.mk.injEq,Ya2]at e1;subst e1;refine⟨_,cap,by rw[grp_len],by rw[grp_len];exact hlc,hcm,?_⟩;by_cases h0:len=0;{subst h0;exact .inl rfl};{have:=ho Kc;subst this;refine .inr ⟨_,rfl,repE_grp sz len _ _ (by rw[Y4,Yac];omega) (RepL.take' _ _ _ ?_)⟩;have:=RepL.drop o' ds _ hd;(have e:(⟨b,0,none⟩:Addr).add o'=⟨b,o',none⟩:=by unfold Addr.add;split<;>simp_all);rwa [e]at this}};{simp only[RepA]}};{exact h}
 |.agg cs,v,h=>by simp only[AV.frz,RepA]at h|-;obtain⟨l,hv,hr⟩:=h;exact⟨l,hv,frzs_rep hl hd hr⟩
 |.tup cs,v,h=>by simp only[AV.frz,RepA]at h|-;obtain⟨l,hv,hr⟩:=h;exact⟨l,hv,frzs_rep hl hd hr⟩
 |.fn f cs,v,h=>by simp only[AV.frz,RepA]at h|-;obtain⟨l,hv,hr⟩:=h;exact⟨l,hv,frzs_rep hl hd hr⟩
 |.opt g x,v,h=>by simp only[AV.frz,RepA]at h|-;exact⟨fun hg=>frz_rep hl hd (h.1 hg),h.2⟩
def frzs_rep(hl:loc n= .pointer (some ⟨b,0,none⟩))(hd:RepL w M ds ⟨b,0,none⟩):∀{xs:List AV}{l:List Value},RepAs w M loc xs l->RepAs w M loc (AV.frzL n ds xs) l
 |[],l,h=>h
 |x::xs,l,h=>by simp only[AV.frzL,RepAs]at h|-;obtain⟨v,vs,e,h1,h2⟩:=h;exact⟨v,vs,e,frz_rep hl hd h1,frzs_rep hl hd h2⟩
end
def Ob.frz_has(o:Ob)(v:Value)(b:Nat):(o.frz n ds).has v b↔o.has v b:=by cases o<;>first|exact YaK|(cases v<;>first|exact YaK|(rename_i p;cases p<;>exact YaK))
def Ob.frz_mut(o:Ob)(v:Value):(o.frz n ds).mut v=o.mut v:=by cases o<;>first|rfl|(cases v<;>first|rfl|(rename_i p;cases p<;>rfl))
def ObOk.frz{P:Program}{A:Nat->Prop}{v:Value}{o:Ob}(hl:loc n= .pointer (some ⟨b,0,none⟩))(hd:RepL w M ds ⟨b,0,none⟩)(h:ObOk P A w M loc v o):ObOk P A w M loc v (o.frz n ds):=by(cases o with|none=>trivial|box cs=>obtain⟨b1,l,e,h1,h2,h3,h4⟩:=h;exact⟨b1,l,e,h1,h2,h3,frzs_rep hl hd h4⟩|win cs=>obtain⟨b1,l,r,e,h1,h3,h4⟩:=h;exact⟨b1,l,r,e,h1,h3,frzs_rep hl hd h4⟩|grow e sz es=>exact h|guest g rem=>exact h|mp kk ek l=>exact h)
end
def Zn1{w:World}{M:Cells}{loc:Nat->Value}{b:Nat}:∀(ds:List CD)(l:List Value)(o:Nat),RepAs w M loc (ds.map .c) l->(∀j u,l[j]? =some u->w.cell? ⟨b,o+j,none⟩=some u)->(∀j,j<l.length->¬M b (o+j))->RepL w M ds ⟨b,o,none⟩
 |[],l,o,_,_,_=>by simp[RepL]
 |c::cs,l,o,h,hc,hm=>by simp only[Ye,RepAs]at h;obtain⟨v,vs,rfl,h1,h2⟩:=h;simp only[RepL];refine⟨⟨v,by simpa using hc 0 v rfl,by simpa using hm 0 Kd,by simpa only[RepA]using h1⟩,?_⟩;(have:(⟨b,o,none⟩:Addr).add 1=⟨b,o+1,none⟩:=by simp[Addr.add]);rw[this];refine Zn1 cs vs (o+1) h2 (fun j u hj=>?_) (fun j hj=>?_);{have:=hc (j+1) u (by simpa using hj);rwa [show o+(j+1)=o+1+j from by omega]at this};{have:=hm (j+1) (by simpa using hj);rwa [show o+(j+1)=o+1+j from by omega]at this}
def ZpX{σ:St}(n:Nat)(cs:List AV)(ds:List CD)(hb:σ.own n= .box cs)(hd:cs.mapM (AV.toCD σ.own)=some ds):Sub σ ⟨ZoQ n ds σ.env,Zfz n ds σ.own⟩:=by rintro C a w ⟨loc,hg⟩;have hob:=hg.objs n;rw[hb]at hob;obtain⟨b,l,e,hl,hA,hh,hrs⟩:=hob;have hrd:=toCDs_rep hg hrs hd;(have hhas:∀m c,(Zfz n ds σ.own m).has (loc m) c->m≠n/\(σ.own m).has (loc m) c:=by intro m c h;unfold Zfz at h;split at h;{exact(Ob.has_none _ _ h).elim};{rename_i hm;exact⟨hm,(Ob.frz_has _ _ _).1 h⟩});(have hMb:∀o,¬MM C (Zfz n ds σ.own) loc b o:=by rintro o (h|⟨m,h⟩);{have h1:=hg.m0 _ _ h;rcases hA with h2|h2;{omega};{exact h1.2 h2}};{obtain⟨hm,h'⟩:=hhas m b (Ob.has_of_mut h);exact hg.disj m n b hm h' (by rw[hb,hl];rfl)});(have hk:Keeps w w (MM C σ.own loc) (MM C (Zfz n ds σ.own) loc):=Keeps.less fun c o h=>by rcases h with h|⟨m,h⟩;{exact .inl h};{unfold Zfz at h;split at h;{exact(Ob.has_none _ _ (Ob.has_of_mut h)).elim};{rw[Ob.frz_mut]at h;exact .inr ⟨m,h⟩}});(have hrd':RepL w (MM C (Zfz n ds σ.own) loc) ds ⟨b,0,none⟩:=by refine Zn1 ds l 0 (RepAs.keep hk _ _ hrd) (fun j u hj=>?_) (fun j _=>by simpa using hMb _);rw[cell_bp hh,YaH,hj]);refine⟨loc,hg.fr,hg.m0,hg.kp.trans hk,fun x hx=>?_,hg.mnd,hg.pin,hg.size,fun t=>?_,fun m=>?_,fun m k c hmk hm hk'=>hg.disj m k c hmk (hhas m c hm).2 (hhas k c hk').2⟩;{obtain⟨D,e1,e2,e3,e4⟩:=hg.marks x hx;exact⟨D,e1,e2,e3,fun⟨m,h⟩=>e4 ⟨m,(hhas m D h).2⟩⟩};{exact frz_rep hl hrd' (RepA.keep hk _ _ (hg.slots t))};{(show ObOk C.P C.A w _ loc (loc m) (Zfz n ds σ.own m);unfold Zfz;split);{trivial};{exact ObOk.frz hl hrd' (ObOk.keep' hk (Yi _) (fun _ _=>rfl) (hg.objs m))}}
def Zeg{C:Ctx}{Q:Exit->St->Prop}{v:VC}{env:Nat->AV}{own:Nat->Ob}(n:Nat){cs:List AV}{ds:List CD}(hb:own n= .box cs)(hd:cs.mapM (AV.toCD own)=some ds)(h:WV C v Q ⟨ZoQ n ds env,Zfz n ds own⟩):WV C v Q ⟨env,own⟩:=
 Zav (ZpX n cs ds hb hd) h
end Go.V
namespace Go.V
def AOps_cons{P:Program}{i:Ins}{is:List Ins}{K:St->Prop}{σ:St}:ZkA P (i::is) K σ=AStep P i (ZkA P is K) σ:=rfl
def Zun{P:Program}{K:St->Prop}{σ:St}:ZkA P [] K σ=K σ:=rfl
def ZpL{P:Program}{i:Ins}{t:OT}{K:St->Prop}{σ:St}:ATree P (.cons i t) K σ=AStep P i (ATree P t K) σ:=by simp only[ATree]
def ZqZ{P:Program}{K:St->Prop}{σ:St}:ATree P .nil K σ=K σ:=by simp only[ATree]
def Zuo{P:Program}{ts:List OT}{K:St->Prop}{σ:St}:ATree P (.br ts) K σ=ATrees P ts K σ:=by simp only[ATree]
def Znd{P:Program}{t:OT}{ts:List OT}{K:St->Prop}{σ:St}:ATrees P (t::ts) K σ=(ATree P t K σ/\ATrees P ts K σ):=by simp only[ATrees]
def ZpM{P:Program}{K:St->Prop}{σ:St}:ATrees P [] K σ=True:=by simp only[ATrees]
def ZpN{P:Program}{t:OT}{K:St->Prop}{σ:St}:ATrees P [t] K σ=ATree P t K σ:=by simp only[ATrees,Ya2]
def ZxD{P:Program}{d:Option Nat}{i:I}{g:Option (Nat×Bool)}{K:St->Prop}{σ:St}:AStep P ⟨d,i,g,true⟩ K σ=Zb0 P ⟨d,i,g,true⟩ K σ:=rfl
def ZxC{P:Program}{d:Option Nat}{i:I}{g:Option (Nat×Bool)}{K:St->Prop}{σ:St}:AStep P ⟨d,i,g,false⟩ K σ=ZaQ P ⟨d,i,g,false⟩ K σ:=by simp[AStep]
def Zm3{K:St->Prop}{Q:Exit->St->Prop}{σ:St}:Zaz K Q .normal σ=K σ:=rfl
def ZxW(q x:Bool):(bif q then x else false)=(q&&x):=by cases q<;>rfl
def ZAP(q x:Bool):(bif q then true else x)=(q||x):=by cases q<;>rfl
def Ins.wr(i:Ins):List Nat:=match i.d with|some d=>[d]|none=>[]
mutual
def OT.wr:OT->List Nat
 |.nil=>[]
 |.cons i t=>i.wr++t.wr
 |.br ts=>OT.wrL ts
def OT.wrL:List OT->List Nat
 |[]=>[]
 |t::ts=>t.wr++OT.wrL ts
end
def VC.wr:VC->List Nat
 |.ops is=>is.flatMap Ins.wr
 |.drw t=>t.wr
 |.seq a b=>a.wr++b.wr
 |.cond _ a b=>a.wr++b.wr
 |.block _ a=>a.wr
 |.loop a=>a.wr
 |.rng _ ps _ _=>ps
 |_=>[]
def hav(ws:List Nat)(f:Nat->AV):Nat->AV:=fun t=>if t∈ws then .non else f t
def Znb(ws:List Nat)(f:Nat->Ob):Nat->Ob:=fun t=>if t∈ws then .none else f t
def ZqR:(Nat->Ob)->List (Nat×Ob)->Nat->Ob
 |own,[]=>own
 |own,(p,v)::r=>ZqR (upd own p v) r
def Ztb(d:Nat)(f:Nat->AV)(t:Nat)(v:AV):ZdI d (upd f t v)=upd (ZdI d f) t (v.prg d):=Zhz d f t v
def Zy7(d:Nat):ZdI d e0=e0:=rfl
def Zv0(d:Nat)(ws:List Nat)(f:Nat->AV):ZdI d (hav ws f)=hav ws (ZdI d f):=by funext t;simp only[ZdI,hav];split<;>rfl
def Zv2(d:Nat)(f:Nat->Ob)(n:Nat)(o:Ob):ZbE d (upd f n o)=upd (ZbE d f) n (o.prg d):=by funext t;simp only[ZbE,upd];split<;>rfl
def Zy8(d:Nat):ZbE d o0=o0:=rfl
def Ztc(d:Nat)(ws:List Nat)(f:Nat->Ob):ZbE d (Znb ws f)=Znb ws (ZbE d f):=by funext t;simp only[ZbE,Znb];split<;>rfl
def Zu4(n:Nat)(ds:List CD)(f:Nat->AV)(t:Nat)(v:AV):ZoQ n ds (upd f t v)=upd (ZoQ n ds f) t (v.frz n ds):=by funext s;simp only[ZoQ,upd];split<;>rfl
def Zyh(n:Nat)(ds:List CD):ZoQ n ds e0=e0:=rfl
def Zu3(n:Nat)(ds:List CD)(ws:List Nat)(f:Nat->AV):ZoQ n ds (hav ws f)=hav ws (ZoQ n ds f):=by funext t;simp only[ZoQ,hav];split<;>rfl
def Zu6(n:Nat)(ds:List CD)(f:Nat->Ob)(m:Nat)(o:Ob):Zfz n ds (upd f m o)=if m=n then Zfz n ds f else upd (Zfz n ds f) m (o.frz n ds):=by funext t;by_cases hm:m=n;{subst hm;simp only[Zfz,upd,YJ];split<;>rfl};{rw[Yx hm];simp only[Zfz,upd];split<;>split<;>simp_all}
def Zyi(n:Nat)(ds:List CD):Zfz n ds o0=o0:=by funext m;simp only[Zfz,o0];split<;>rfl
def Zyn(ws:List Nat)(f:Nat->AV)(t:Nat)(v:AV):hav ws (upd f t v)=if t∈ws then hav ws f else upd (hav ws f) t v:=by funext s;by_cases ht:t∈ws;{rw[Yt ht];simp only[hav,upd];split;{rfl};{rename_i hs;(have:s≠t:=by rintro rfl;exact hs ht);rw[Yx this]}};{rw[Yx ht];simp only[hav,upd];split<;>split<;>simp_all}
def ZBh(ws:List Nat):hav ws e0=e0:=by funext t;simp only[hav,e0];split<;>rfl
def Zva(ws:List Nat)(f:Nat->Ob)(t:Nat)(v:Ob):Znb ws (upd f t v)=if t∈ws then Znb ws f else upd (Znb ws f) t v:=by funext s;by_cases ht:t∈ws;{rw[Yt ht];simp only[Znb,upd];split;{rfl};{rename_i hs;(have:s≠t:=by rintro rfl;exact hs ht);rw[Yx this]}};{rw[Yx ht];simp only[Znb,upd];split<;>split<;>simp_all}
def Zym(ws:List Nat):Znb ws o0=o0:=by funext t;simp only[Znb,o0];split<;>rfl
def Zu9(f:Nat->Ob):Znb [] f=f:=by funext t;simp[Znb]
def ObjLe.rfl'(f:Nat->Ob):ObjLe f f:=fun _=> .inl rfl
def ZlF{f g:Nat->Ob}{d:Nat}{o:Ob}(hd:g d= .none)(h:ObjLe f g):ObjLe (upd f d o) g:=by intro s;by_cases hs:s=d;{subst hs;exact .inr hd};{have:=h s;simpa [upd,hs]using this}
def ZjI{f g:Nat->Ob}{d:Nat}{o:Ob}(h:ObjLe f g):ObjLe (upd f d o) (upd g d o):=by intro s;by_cases hs:s=d;{subst hs;left;simp[upd]};{have:=h s;simpa [upd,hs]using this}
section
variable{C:Ctx}{Q:Exit->St->Prop}
def Zj2(d:Nat):∀(cs:List AV)(i:Nat),cs[i]? =some (.c (.raw (.slice none 0 0)))->ZfC d cs ((AV.prgL d cs).set i (.gr d))
 |[],i,h=>by simp at h
 |a::cs,0,h=>by simp only[YbC,Ya]at h;subst h;refine⟨.gr d,_,rfl,.inr ⟨rfl,rfl⟩,?_⟩;(have:∀l:List AV,ZfC d l (AV.prgL d l):=by(intro l;induction l with|nil=>rfl|cons a l ih=>exact⟨_,_,rfl,.inl rfl,ih⟩));exact this cs
 |a::cs,i+1,h=>⟨_,_,rfl,.inl rfl,Zj2 d cs i (by simpa using h)⟩
def ZgF(d:Nat):∀l:List AV,ZfC d l (AV.prgL d l)
 |[]=>rfl
 |a::l=>⟨_,_,rfl,.inl rfl,ZgF d l⟩
def Zmy(d:Nat)(o:Ob):NilOb d o (o.prg d):=by(cases o with|box cs=>exact⟨_,rfl,ZgF d cs⟩|win cs=>exact⟨_,rfl,ZgF d cs⟩|_=>rfl)
def Zcp{v:VC}{env:Nat->AV}{own:Nat->Ob}(n i d e sz:Nat){cs:List AV}(hd1:d<1000)(hsz:0<sz)(hnd:n≠d)(hd:own d= .none)(hn:own n= .box cs)(hi:cs[i]? =some (.c (.raw (.slice none 0 0))))(h:WV C v Q ⟨ZdI d env,upd (upd (ZbE d own) d (.grow e sz [])) n (.box ((AV.prgL d cs).set i (.gr d)))⟩):WV C v Q ⟨env,own⟩:=by refine Zav (Zrf d e sz hd1 hsz hd (fun t=> .inl rfl) ?_ fun m hm=>?_) h;{show upd (upd (ZbE d own) d (.grow e sz [])) n _ d=_;simp[upd,Ycz hnd]};{(show NilOb d (own m) (upd (upd (ZbE d own) d (.grow e sz [])) n _ m);by_cases hmn:m=n);{subst hmn;simp only[upd,YJ];rw[hn];exact⟨_,rfl,Zj2 d cs i hi⟩};{simp only[upd,hmn,hm,YA,ZbE];exact Zmy d _}}
def Zbn{v:VC}{env:Nat->AV}{own:Nat->Ob}(t d e sz:Nat)(hd1:d<1000)(hsz:0<sz)(hd:own d= .none)(ht:env t= .c (.raw (.slice none 0 0)))(h:WV C v Q ⟨upd (ZdI d env) t (.gr d),upd (ZbE d own) d (.grow e sz [])⟩):WV C v Q ⟨env,own⟩:=by refine Zav (Zrf d e sz hd1 hsz hd (fun s=>?_) ?_ fun m hm=>?_) h;{(show ZxI d (env s) (upd (ZdI d env) t (.gr d) s);by_cases hst:s=t);{subst hst;right;exact⟨ht,by simp[upd]⟩};{left;simp[upd,hst,ZdI]}};{simp[upd]};{show NilOb d (own m) (upd (ZbE d own) d (.grow e sz []) m);simp only[upd,hm,YA,ZbE];exact Zmy d _}
def Zmo:List Nat->(Nat->AV)->Nat->AV
 |[],_=>e0
 |t::ts,f=>upd (Zmo ts f) t (f t)
def ZjF{own:Nat->Ob}(f:Nat->AV):∀ks:List Nat,ZfA own f (Zmo ks f)
 |[]=>Zc8 own f
 |t::ts=>Zco (AWk.refl own _) (ZjF f ts)
def Zeh(ks:List Nat){v:VC}{env:Nat->AV}{own:Nat->Ob}(h:WV C v Q ⟨Zmo ks env,own⟩):WV C v Q ⟨env,own⟩:=
 Zav (Zaf (ZjF env ks) (ObjLe.rfl' own)) h
def Zam{ι:Type}{x:VC}{env:Nat->AV}{own:Nat->Ob}(ks os:List Nat)(Inv:ι->Prop)(μ:ι->Nat)(E:ι->List (Nat×AV))(O:ι->List (Nat×Ob))(i₀:ι)(h₀:Inv i₀)(hs:Sub ⟨env,own⟩ ⟨ZqS (Zmo ks env) (E i₀),ZqR (Znb os own) (O i₀)⟩)(hr:∀i,Inv i->WV C x (Zaz (fun σ'=>∃i',Inv i'/\μ i'<μ i/\Sub σ' ⟨ZqS (Zmo ks env) (E i'),ZqR (Znb os own) (O i')⟩) Q) ⟨ZqS (Zmo ks env) (E i),ZqR (Znb os own) (O i)⟩):
  WV C (.loop x) Q ⟨env,own⟩:=
 ZaE (fun i=>⟨ZqS (Zmo ks env) (E i),ZqR (Znb os own) (O i)⟩) Inv μ i₀ h₀ hs hr
end
section
variable{P:Program}{σ:St}{d:Option Nat}{f:X}{xs:List X}{K:St->Prop}
def ZkB{fid:FuncId}{caps args:List AV}{r:AV}(hs:FSpec P fid args r)(h1:(σ.val f).dg=true)(h2:(xs.all fun x=>(σ.val x).dg)=true)(h3:(σ.val f).dv= .fn fid caps)(h4:AV.portL σ.own (xs.map (fun x=>(σ.val x).dv)++caps)=some args)(h5:r.pureB=true)(hK:K (σ.put d r)):Zc7 P d f xs K σ:=.inl ⟨fid,caps,args,r,h1,h2,h3,h4,h5,hs,hK⟩
def ZAe{fid:FuncId}{caps args:List AV}{r:AV}(hs:FSpec P fid args r)(h6:r.scal=true)(h1:(σ.val f).dg=true)(h2:(xs.all fun x=>(σ.val x).dg)=true)(h3:(σ.val f).dv= .fn fid caps)(h4:AV.vportL σ.own (xs.map (fun x=>(σ.val x).dv)++caps)=some args)(h5:r.pureB=true)(hK:K (σ.put d r)):Zc7 P d f xs K σ:=.inr (.inl ⟨fid,caps,args,r,h1,h2,h3,h4,h5,.inr ⟨hs,h6⟩,hK⟩)
def Zoh{fid:FuncId}{caps args:List AV}{r:AV}(hs:ZhI P fid args r)(h1:(σ.val f).dg=true)(h2:(xs.all fun x=>(σ.val x).dg)=true)(h3:(σ.val f).dv= .fn fid caps)(h4:AV.vportL σ.own (xs.map (fun x=>(σ.val x).dv)++caps)=some args)(h5:r.pureB=true)(hK:K (σ.put d r)):Zc7 P d f xs K σ:=.inr (.inl ⟨fid,caps,args,r,h1,h2,h3,h4,h5,.inl hs,hK⟩)
def Znc{G:Bool}{A B:Prop}{fid:FuncId}{caps args:List AV}{r:AV}(hs:G=true->FSpec P fid args r)(h1:(σ.val f).dg=true)(h2:G=true->(xs.all fun x=>(σ.val x).dg)=true)(h3:(σ.val f).dv= .fn fid caps)(h4:AV.portL σ.own (xs.map (fun x=>(σ.val x).dv)++caps)=some args)(h5:r.pureB=true)(hK:K (σ.put d (.opt G r))):ZgQ P G d f xs K σ\/A\/B:=.inl ⟨r,h5,fun h=>⟨fid,caps,args,h1,h2 h,h3,h4,hs h⟩,hK⟩
def Zah(L:List Nat){fid:FuncId}{caps args:List AV}{l:List Ob}{Post:AV->List Ob->Prop}(hs:Zc9 P fid args l [] Post)(h1:(σ.val f).dg=true)(h2:(xs.all fun x=>(σ.val x).dg)=true)(h3:(σ.val f).dv= .fn fid caps)(hL:L.Nodup)(h4:AV.lendL 1000 L σ.own (xs.map (fun x=>(σ.val x).dv)++caps)=some args)(h5:Zar L σ.own L=some l)(hK:∀r l',Post r l'->∃r' os,r.back L=some r'/\Zap L l'=some os/\K (St.put ⟨Zhg (ZbU σ.own L) σ.env,Zae (Zbr (ZbU σ.own L) σ.own) L os⟩ d r')):Zc7 P d f xs K σ:=.inr (.inr (.inl ⟨fid,caps,L,l,args,Post,h1,h2,h3,hL,h4,h5,hs,hK⟩))
def Zoi(n:Nat)(L:List Nat){g:Gst}{e:Ent}{rem:List Ent}(h0:σ.own n= .guest g (e::rem))(h1:(σ.val f).dg=true)(h2:(xs.all fun x=>(σ.val x).dg)=true)(h3:(σ.val f).dv= .c (.raw g.fv))(hL:L.Nodup)(h4:AV.lendL 2000 L σ.own (xs.map fun x=>(σ.val x).dv)=some e.args)(h5:ZpK σ.own L e.wins)(hK:K (St.put ⟨σ.env,upd σ.own n (.guest g rem)⟩ d e.res)):Zc7 P d f xs K σ:=.inr (.inr (.inr (.inl ⟨n,g,e,rem,L,h0,h1,h2,h3,hL,h4,h5,hK⟩)))
end
def ZeG:Zus o0:=fun n cs h=>by cases h
def Zdr{f:Nat->Ob}{n:Nat}{o:Ob}(h:∀cs,o≠ .win cs)(hf:Zus f):Zus (upd f n o):=fun m cs=>by rw[ZbX];split;{exact h cs};{exact hf m cs}
def AVle.refl(x:AV):AVle x x:=fun _ _ _ _ h=>h
def AVle.nil(sz:Nat):AVle (.c (.raw (.slice none 0 0))) (.c (.sl sz [])):=fun w M loc v h=>by simp only[RepA,RepC]at h|-;exact⟨none,0,h.1,Yi _,by simp[maxLen],.inl trivial⟩
def AVles:List AV->List AV->Prop
 |[],l=>l=[]
 |x::xs,l=>∃y ys,l=y::ys/\AVle x y/\AVles xs ys
def AVles.rep:∀{xs ys:List AV},AVles xs ys->∀(w:World)(M:Cells)(loc:Nat->Value)(l:List Value),RepAs w M loc xs l->RepAs w M loc ys l
 |[],ys,h,w,M,loc,l,hr=>by simp only[AVles]at h;subst h;exact hr
 |x::xs,ys,h,w,M,loc,l,hr=>by simp only[AVles]at h;obtain⟨y,ys',rfl,h1,h2⟩:=h;simp only[RepAs]at hr|-;obtain⟨v,vs,rfl,k1,k2⟩:=hr;exact⟨v,vs,rfl,h1 _ _ _ _ k1,h2.rep _ _ _ _ k2⟩
def AVles.refl:∀xs:List AV,AVles xs xs
 |[]=>rfl
 |x::xs=>⟨x,xs,rfl,AVle.refl x,AVles.refl xs⟩
def AVles.cons{x y:AV}{xs ys:List AV}(h:AVle x y)(k:AVles xs ys):AVles (x::xs) (y::ys):=⟨y,ys,rfl,h,k⟩
def AVle.agg{xs ys:List AV}(h:AVles xs ys):AVle (.agg xs) (.agg ys):=fun w M loc v hr=>by simp only[RepA]at hr|-;obtain⟨l,hv,hr⟩:=hr;exact⟨l,hv,h.rep _ _ _ _ hr⟩
def AVle.tup{xs ys:List AV}(h:AVles xs ys):AVle (.tup xs) (.tup ys):=fun w M loc v hr=>by simp only[RepA]at hr|-;obtain⟨l,hv,hr⟩:=hr;exact⟨l,hv,h.rep _ _ _ _ hr⟩
def FSpec.le{P:Program}{f:FuncId}{as bs:List AV}{r r':AV}(h:FSpec P f bs r)(ha:AVles as bs)(hr:AVle r r'):FSpec P f as r':=
 ⟨h.1,fun w M vs hM hv => (h.2 w M vs hM (ha.rep _ _ _ _ hv)).mono fun e w' hh =>by
  obtain⟨v,rfl,k1,k2⟩:=hh;exact⟨v,rfl,hr _ _ _ _ k1,k2⟩⟩
def Zag(own:Nat->Ob):Nat->List Ob->Prop
 |_,[]=>True
 |k,o::os=>(own k).keepP own=some o/\Zag own (k+1) os
def ZbL(own:Nat->Ob):Nat->List (List AV)->Prop
 |_,[]=>True
 |k,w::ws=>own k= .win w/\ZbL own (k+1) ws
def Zdi:List Ob->List Ob->Bool
 |[],_=>true
 |o::os,[]=> !o.isPlace&&Zdi os []
 |o::os,p::ps=>(!o.isPlace||p.isPlace)&&Zdi os ps
def Ziz{own:Nat->Ob}:∀{l:List Ob}{k:Nat},Zag own k l->∀i,i<l.length->(own (k+i)).keepP own=some (l.getD i .none)
 |o::os,k,h,0,_=>by simpa using h.1
 |o::os,k,h,i+1,hi=>by have:=Ziz h.2 i (by simpa using hi);rw[show k+(i+1)=k+1+i from by omega];simpa using this
def Zkv{own:Nat->Ob}:∀{l:List (List AV)}{k:Nat},ZbL own k l->∀i,i<l.length->own (k+i)= .win (l.getD i [])
 |o::os,k,h,0,_=>by simpa using h.1
 |o::os,k,h,i+1,hi=>by have:=Zkv h.2 i (by simpa using hi);rw[show k+(i+1)=k+1+i from by omega];simpa using this
def Zex:∀{l l':List Ob},Zdi l l'=true->∀i,i<l.length->(l.getD i .none).isPlace=true->(l'.getD i .none).isPlace=true
  |o::os,[],h,0,_,hp=>by simp[Zdi]at h hp;rw[h.1]at hp;cases hp
  |o::os,[],h,i+1,hi,hp=>by simp only[Zdi,Yf]at h;exact Zex h.2 i (by simpa using hi) (by simpa using hp)
  | o :: os, p :: ps, h, 0, _, hp => by simp [Zdi] at h hp |-; rcases h.1 with h | h; · rw [h] at hp; cases hp
                                        · exact h
  |o::os,p::ps,h,i+1,hi,hp=>by simp only[Zdi,Yf]at h;have:=Zex h.2 i (by simpa using hi) (by simpa using hp);simpa using this
def Zab{l:List Ob}{wl:List (List AV)}{σ:St}{l':List Ob}(h1:l'.length=l.length)(h2:(l'.all fun o=> !o.isWin)=true)(h3:Zag σ.own 1000 l')(h4:ZbL σ.own 2000 wl)(h5:Zdi l l'=true):KeepL l wl σ l':=
 ⟨h1,h2,fun i hi=>Ziz h3 i Kc,fun j hj=>Zkv h4 j hj,Zex h5⟩
def ZaB:(Nat->Ob)->Nat->List Ob->Nat->Ob
 |f,_,[]=>f
 |f,k,a::as=>ZaB (upd f k a) (k+1) as
def Zgi:∀(as:List Ob)(f:Nat->Ob)(k t:Nat),ZaB f k as t=if k<=t/\t<k+as.length then as.getD (t -k) .none else f t
 |[],f,k,t=>by simp only[ZaB];rw[Yx Kd]
 |a::as,f,k,t=>by simp only[ZaB];rw[Zgi as];by_cases h1:k+1<=t/\t<k+1+as.length;{rw[Yt h1,Yt (by simp;omega)];obtain⟨n,rfl⟩:∃n,t=k+1+n:=⟨t -(k+1),Kc⟩;rw[show k+1+n -(k+1)=n from by omega,show k+1+n -k=n+1 from by omega];simp};{rw[Yx h1,ZbX];by_cases h2:t=k;{subst h2;rw[Yt rfl,Yt Kd];simp};{rw[Yx h2,Yx (by simp;omega)]}}
def ZdU{l:List Ob}{wl:List (List AV)}(hl:l.length<=1000):ZaX l wl=ZaB (ZaB o0 1000 l) 2000 (wl.map .win):=by funext n;rw[Zgi,Zgi];rcases Zev (wl:=wl) hl n with⟨i,h1,rfl,h3,_⟩|⟨j,h1,rfl,h3,_⟩|⟨h3,h4⟩;{rw[h3,Yx Kc,Yt Kc,show 1000+i -1000=i from by omega]};{rw[h3,Yt (by simp;omega),show 2000+j -2000=j from by omega];simp[Yb,h1]};{rw[h3];(have e1:¬(2000<=n/\n<2000+(wl.map Ob.win).length):=by rintro⟨a,b⟩;simp only[Yc]at b;obtain⟨j,rfl⟩:∃j,n=2000+j:=⟨n -2000,Kc⟩;rw[Zhy (Yd (show j<wl.length by omega))]at h3;cases h3);rw[Yx e1];split;{rename_i h;obtain⟨i,rfl⟩:∃i,n=1000+i:=⟨n -1000,Kc⟩;rw[Zs1 Kc]at h4;rw[show 1000+i -1000=i from by omega,h4]};{rfl}}
def Zo3(args:List AV):(St.init args).env=Zbj e0 0 args:=by rw[Zsu]
def Zbm(args:List AV):(fun t=>args.getD t AV.non)=Zbj e0 0 args:=by rw[<-Zo3];rfl
end Go.V
namespace Go.V
def Zrc{P:Program}{fc:FuncId}{caps:List AV}{τ:Type}(ent:τ->Ent)(F:List τ->List Ob)(ts:List τ)(hsol:∀p,(F p).all (Ob.solid (F p).length)=true)(he:∀t∈ts,(ent t).res.scal=true)(h:∀pre t post,ts=pre++t::post->Zc9 P fc ((ent t).args++caps) (F pre) (ent t).wins fun r l'=>r=(ent t).res/\l'=F (pre++[t])):∀(post pre:List τ),ts=pre++post->
  Run P fc caps (fun lf=>lf=F ts) (post.map ent) (F pre)
 |[],pre,hp=>⟨hsol pre,by rw[hp];simp⟩
 |t::post,pre,hp=>by(have ht:t∈ts:=by rw[hp];simp);refine⟨hsol pre,he t ht,?_⟩;have ih:=Zrc ent F ts hsol he h post (pre++[t]) (by rw[hp];simp);have hs:=h pre t post hp;refine⟨hs.1,hs.2.1,fun w M loc vs hM ho hv=>(hs.2.2 w M loc vs hM ho hv).mono fun e w' hh=>?_⟩;obtain⟨v,r,l',loc',e1,⟨rfl,rfl⟩,h3⟩:=hh;exact⟨v,_,_,loc',e1,⟨rfl,ih⟩,h3⟩
section
variable{P:Program}{d:Option Nat}{f:X}{xs:List X}{K:St->Prop}{σ:St}
def ZxB(L:List Nat)(pre post:List AV){fid:FuncId}{caps:List AV}{l lf:List Ob}{fc:FuncId}{fcaps fcaps' pre' post':List AV}{rem:List Ent}{r:AV}(hs:∀g:Gst,Zc9 P fid (pre'++ .c (.raw g.fv)::post') [.guest g rem] [] fun r' l'=>r'=r/\l'=[.guest g []])(h1:(σ.val f).dg=true)(h2:(xs.all fun x=>(σ.val x).dg)=true)(h3:(σ.val f).dv= .fn fid caps)(hL:L.Nodup)(hLl:L.length<=1000)(h4:xs.map (fun x=>(σ.val x).dv)++caps=pre++ .fn fc fcaps::post)(h5:AV.lendL 1000 L σ.own fcaps=some fcaps')(h6:AV.portL σ.own pre=some pre')(h7:AV.portL σ.own post=some post')(h8:Zar L σ.own L=some l)(hcl:ZbF P fc)(hrun:Run P fc fcaps' (fun l'=>l'=lf) rem l)(hp:r.pureB=true)(hK:∃os,Zap L lf=some os/\lf.length=L.length/\K (St.put ⟨σ.env,Zae σ.own L os⟩ d r)):Zc7 P d f xs K σ:=
 .inr (.inr (.inr (.inr (.inl ⟨fid,caps,L,l,pre,fc,fcaps,post,fcaps',pre',post',rem,fun l'=>l'=lf,r,h1,h2,h3,hL,hLl,h4,h5,h6,h7,h8,hcl,hrun,hp,hs,by rintro _ rfl;exact hK⟩))))
end
end Go.V
namespace Go.V
def ZaN(rs:List RV)(Post:AV->List Ob->Prop)(σ:St):Prop:=
 match Zaq σ rs with
 |some (q,vs)=>q/\∃L r0 r os,L.Nodup/\L.length<=1000/\(Zbu vs).lend 1000 L σ.own=some r0/\AVle r0 r/\Zar L σ.own L=some os/\Post r os
 |none=>False
def Zbk(rs:List RV)(Post:AV->List Ob->Prop):Exit->St->Prop
 |.normal,σ=>ZaN rs Post σ
 |.ret,σ=>ZaN rs Post σ
 |_,_=>False
def ZpQ{P:Program}{m:List Nat}{f:FuncId}{fc:FC}(hc:compM P m f=some fc){args:List AV}{Post:AV->List Ob->Prop}(hn:args.length<=fc.np)(hnp:fc.np<=fc.N)(h:∀C:Ctx,C.P=P->C.N=fc.N->C.Ok->(∀n,¬C.pin n)->AV.lensL args->WV C fc.body (Zbk fc.rs Post) (St.init args)):ZfB P f args Post:=by obtain⟨hcl,hb⟩:=Zcq hc;refine⟨hcl,fun w M vs hM hr=>?_⟩;have hlen:=hr.length;refine hb (Ctx.of P fc.N m w M) (Zbk fc.rs Post) (St.init args) (fun _=>undef) vs _ rfl rfl rfl rfl Kc (h _ rfl rfl (fun _ h=>by cases h) (fun n h=>h) hr.lens) (fun tm hs ht=>Zol hM hr Kc hs ht) (fun l₀ hl₀ σ loc a w' hg hq=>?_) (fun e σ hq=>by cases e<;>first|exact .inl rfl|exact .inr rfl|exact hq.elim);have hret:ZaN fc.rs Post σ:=hq.elim id id;unfold ZaN at hret;split at hret;(case h_2=>exact hret.elim);rename_i q avs hres;obtain⟨hq,L,r0,r,os,hL,hLl,hlend,hle,hol,hpost⟩:=hret;have hbelow:RowKit.Below w.heap.size w w':=⟨hg.fr.os,hg.fr.tape,hg.fr.output,hg.fr.size,fun k hk=>hg.fr.block k hk (fun h=>h)⟩;obtain⟨us,hus,hrus⟩:=ZbB hg l₀ fc.rs hl₀ hres hq;obtain⟨e1,e2,e3⟩:=Zck hol;(have hsub:∀b k,AddM M (ZbV 1000 os) (locL 1000 loc L) b k->MM (Ctx.of P fc.N m w M) σ.own loc b k:=by rintro b k (h|⟨n,h⟩);{exact .inl h};{rcases ZaG os n with⟨i,o,rfl,h2,h3⟩|h3;{obtain⟨p,hp,hlp⟩:=e3 i o h2;rw[h3,locL_at hp,Ob.lend_mut hlp]at h;exact .inr ⟨p,h⟩};{rw[h3]at h;exact(Ob.has_none _ _ (Ob.has_of_mut h)).elim}});(have hone:∀n b,(ZbV 1000 os n).has (locL 1000 loc L n) b->∃i p o,n=1000+i/\L[i]? =some p/\Ob.lend L σ.own (σ.own p)=some o/\(σ.own p).has (loc p) b:=by intro n b h;rcases ZaG os n with⟨i,o,rfl,h2,h3⟩|h3;{obtain⟨p,hp,hlp⟩:=e3 i o h2;rw[h3,locL_at hp,Ob.lend_has hlp]at h;exact⟨i,p,o,rfl,hp,hlp,h⟩};{rw[h3]at h;exact(Ob.has_none _ _ h).elim});refine⟨us,hus,_,r,os,locL 1000 loc L,rfl,hpost,Kc,hbelow,⟨fun n=>?_,fun n k b hnk h1 h2=>?_⟩,fun n b h=>?_,?_⟩;{rcases ZaG os n with⟨i,o,rfl,h2,h3⟩|h3;{obtain⟨p,hp,hlp⟩:=e3 i o h2;rw[h3,locL_at hp];exact(ObOk.lend hg hlp).1.keep' (Keeps.less hsub) (Yi _) (fun _ _=>rfl)};{rw[h3];trivial}};{obtain⟨i,p,_,rfl,hp,_,hpb⟩:=hone n b h1;obtain⟨j,q,_,rfl,hq,_,hqb⟩:=hone k b h2;refine hg.disj p q b ?_ hpb hqb;rintro rfl;exact hnk (by rw[Zf0 hL hp hq])};{obtain⟨i,p,o,rfl,hp,hlp,hpb⟩:=hone n b h;rcases(ObOk.lend hg hlp).2 b hpb with h'|h';{exact h'};{exact h'.elim}};{exact hle _ _ _ _ (RepA.keep (Keeps.less hsub) _ _ (lend_rep hg (ZgO hrus) hlend))}
def ZaL{P:Program}{m:List Nat}{f:FuncId}{fc:FC}(hc:compM P m f=some fc){args:List AV}{Post:AV->List Ob->Prop}(hn:args.length<=fc.np)(hnp:fc.np<=fc.N)(h:∀C:Ctx,C.P=P->C.N=fc.N->C.Ok->AV.lensL args->WV C fc.body (Zbk fc.rs Post) (St.init args)):ZfB P f args Post:=ZpQ hc hn hnp fun C h1 h2 h3 _ h4=>h C h1 h2 h3 h4
section
variable{P:Program}{d:Option Nat}{f:X}{xs:List X}{K:St->Prop}{σ:St}
def ZaK{fid:FuncId}{caps args:List AV}{Post:AV->List Ob->Prop}(hs:ZfB P fid args Post)(h1:(σ.val f).dg=true)(h2:(xs.all fun x=>(σ.val x).dg)=true)(h3:(σ.val f).dv= .fn fid caps)(h4:AV.portL σ.own (xs.map (fun x=>(σ.val x).dv)++caps)=some args)(hK:∀r os,Post r os->∃L r' os',L.Nodup/\L.length=os.length/\(L.all fun n=>decide (n<1000)&&(σ.own n).isNone)=true/\r.back L=some r'/\Zap L os=some os'/\K (St.put ⟨Zhg L σ.env,Zae (Zbr L σ.own) L os'⟩ d r')):Zc7 P d f xs K σ:=
 .inr (.inr (.inr (.inr (.inr (.inl ⟨fid,caps,args,Post,h1,h2,h3,h4,hs,hK⟩)))))
end
def ZhN{σ:St}(n:Nat)(ds:List CD)(junk:List AV)(hb:σ.own n= .box (ds.map .c++junk)):Sub σ ⟨ZoQ n ds σ.env,Zfz n ds σ.own⟩:=by rintro C a w ⟨loc,hg⟩;have hob:=hg.objs n;rw[hb]at hob;obtain⟨b,l0,e,hl,hA,hh,hrs⟩:=hob;obtain⟨l,l2,rfl,hrs,_⟩:=hrs.split;have hrd:RepAs w (MM C σ.own loc) loc (ds.map .c) l:=hrs;(have hhas:∀m c,(Zfz n ds σ.own m).has (loc m) c->m≠n/\(σ.own m).has (loc m) c:=by intro m c h;unfold Zfz at h;split at h;{exact(Ob.has_none _ _ h).elim};{rename_i hm;exact⟨hm,(Ob.frz_has _ _ _).1 h⟩});(have hMb:∀o,¬MM C (Zfz n ds σ.own) loc b o:=by rintro o (h|⟨m,h⟩);{have h1:=hg.m0 _ _ h;rcases hA with h2|h2;{omega};{exact h1.2 h2}};{obtain⟨hm,h'⟩:=hhas m b (Ob.has_of_mut h);exact hg.disj m n b hm h' (by rw[hb,hl];rfl)});(have hk:Keeps w w (MM C σ.own loc) (MM C (Zfz n ds σ.own) loc):=Keeps.less fun c o h=>by rcases h with h|⟨m,h⟩;{exact .inl h};{unfold Zfz at h;split at h;{exact(Ob.has_none _ _ (Ob.has_of_mut h)).elim};{rw[Ob.frz_mut]at h;exact .inr ⟨m,h⟩}});(have hrd':RepL w (MM C (Zfz n ds σ.own) loc) ds ⟨b,0,none⟩:=by refine Zn1 ds l 0 (RepAs.keep hk _ _ hrd) (fun j u hj=>?_) (fun j _=>by simpa using hMb _);rw[cell_bp hh,YaH,Y3 (Ym.1 hj).1,hj]);refine⟨loc,hg.fr,hg.m0,hg.kp.trans hk,fun x hx=>?_,hg.mnd,hg.pin,hg.size,fun t=>?_,fun m=>?_,fun m k c hmk hm hk'=>hg.disj m k c hmk (hhas m c hm).2 (hhas k c hk').2⟩;{obtain⟨D,e1,e2,e3,e4⟩:=hg.marks x hx;exact⟨D,e1,e2,e3,fun⟨m,h⟩=>e4 ⟨m,(hhas m D h).2⟩⟩};{exact frz_rep hl hrd' (RepA.keep hk _ _ (hg.slots t))};{(show ObOk C.P C.A w _ loc (loc m) (Zfz n ds σ.own m);unfold Zfz;split);{trivial};{exact ObOk.frz hl hrd' (ObOk.keep' hk (Yi _) (fun _ _=>rfl) (hg.objs m))}}
def ZcM{C:Ctx}{Q:Exit->St->Prop}{v:VC}{env:Nat->AV}{own:Nat->Ob}(n:Nat){ds:List CD}{junk:List AV}(hb:own n= .box (ds.map .c++junk))(h:WV C v Q ⟨ZoQ n ds env,Zfz n ds own⟩):WV C v Q ⟨env,own⟩:=
 Zav (ZhN n ds junk hb) h
end Go.V
namespace Go.V
end Go.V
namespace Go.V
section
variable{α:Type}
def Za4(cds:α->List CD)(l:List α):List CD:=(l.map cds).flatten
def Zac(cds:α->List CD)(l:List α)(j:Nat):List AV:=(Za4 cds l).map .c++List.replicate j .non
def ZcN(cds:α->List CD)(a:α)(l:List α):Za4 cds (a::l)=cds a++Za4 cds l:=rfl
def ZgX(cds:α->List CD)(l m:List α):Za4 cds (l++m)=Za4 cds l++Za4 cds m:=by simp[Za4]
variable{cds:α->List CD}{m:Nat}
def Zcs(hm:∀a,(cds a).length=m)(l:List α):(Za4 cds l).length=l.length*m:=by(induction l with|nil=>simp[Za4]|cons a l ih=>rw[ZcN,Yw,ih,hm,Yo,YX,Yda,YbA])
def ZaF(hm:∀a,(cds a).length=m)(l:List α)(j:Nat):(Zac cds l j).length=l.length*m+j:=by simp[Zac,Zcs hm]
def Zcj{l:List α}{k:Nat}(h:k<l.length):Za4 cds l=Za4 cds (l.take k)++(cds l[k]++Za4 cds (l.drop (k+1))):=by rw[<-ZcN,<-ZgX,YbI,Yah]
def Zbf(hm:∀a,(cds a).length=m){l:List α}{k:Nat}(h:k<l.length):(Za4 cds (l.take k)).length=k*m:=by rw[Zcs hm,Y4,Ycg Kc]
def Zsh(hm:∀a,(cds a).length=m){l:List α}{k:Nat}(h:k<l.length)(i:Nat)(hi:i<m):(Za4 cds l)[k*m+i]? =(cds l[k])[i]?:=by rw[Zcj h,Yau (by rw[Zbf hm h];omega),Zbf hm h,YbE,Y3 (by rw[hm];exact hi)]
def ZbY(hm:∀a,(cds a).length=m){l:List α}{k:Nat}(h:k<l.length)(j i:Nat){d:CD}(hd:(cds l[k])[i]? =some d)(x:AV):(Zac cds l j).getD (k*m+i) x= .c d:=by(have hi:i<m:=by rw[<-hm l[k]];exact(Ym.1 hd).1);have h1:=Zsh hm h i hi;rw[hd]at h1;rw[Yb];unfold Zac;rw[Y3 (by simpa using(Ym.1 h1).1),Y0,h1];rfl
def Zfd(hm:∀a,(cds a).length=m){l:List α}{k:Nat}(h:k<l.length)(j:Nat):((Zac cds l j).drop (k*m)).take m=(cds l[k]).map .c:=by unfold Zac;rw[Zcj h,Yy,Yy,YO,Yca (by rw[Yc,Zbf hm h]),YO,Ybg (by rw[Yc,hm])]
def Zsi(hm:∀a,(cds a).length=m){l:List α}{k:Nat}(h:k<l.length)(i:Nat)(hi:i<m)(d:CD)(a:α)(ha:cds a=(cds l[k]).set i d):(Za4 cds l).set (k*m+i) d=Za4 cds (l.set k a):=by(have h2:k<(l.set k a).length:=by simpa using h);rw[Zcj h,Zcj h2,YbO _ _ (by rw[Zbf hm h];omega),Zbf hm h,YbE,List.set_append_left _ _ (by rw[hm];exact hi),<-ha];rw[List.take_set_of_le (Yi _),List.drop_set_of_lt Kc,List.getElem_set_self]
def Za8(hm:∀a,(cds a).length=m){l:List α}{k:Nat}(h:k<l.length)(j i:Nat)(hi:i<m)(d:CD)(a:α)(ha:cds a=(cds l[k]).set i d):(Zac cds l j).set (k*m+i) (.c d)=Zac cds (l.set k a) j:=by(have hlt:k*m+i<(Za4 cds l).length:=by rw[Zcs hm];have:=Y2 m (show k+1<=l.length from h);rw[YX,Yda]at this;omega);unfold Zac;rw[List.set_append_left _ _ (by simpa using hlt),<-Yc7,Zsi hm h i hi d a ha]
def ZkI(hm:∀a,(cds a).length=m){l:List α}{k:Nat}(h:k<l.length)(j:Nat)(a:α):splice (Zac cds l j) (k*m) ((cds a).map .c)=Zac cds (l.set k a) j:=by(have h2:k<(l.set k a).length:=by simpa using h);unfold splice Zac;rw[Yc,hm,Zcj h,Zcj h2,List.getElem_set_self,List.take_set_of_le (Yi _),List.drop_set_of_lt Kc];simp only[Yy,YO];rw[Ybg (by rw[Yc,Zbf hm h])];congr 1;congr 1;rw[<-YO,Yca (by rw[Yw,Yc,Yc,Zbf hm h,hm])]
def Zp8(hm:∀a,(cds a).length=2){l:List α}{k:Nat}(h:k<l.length)(j:Nat)(a:α){x y:CD}(ha:cds a=[x,y]):splice (Zac cds l j) (k*2) [.c x,.c y]=Zac cds (l.set k a) j:=by have:=ZkI hm h j a;rw[ha]at this;exact this
def Zmm(hm:∀a,(cds a).length=m):∀l:List α,grp m l.length (Za4 cds l)=l.map cds
 |[]=>rfl
 |a::l=>by simp only[Yo,grp,ZcN,Ye];rw[Ybg (hm a),Yca (hm a),Zmm hm l]
def ZeM(hm:∀a,(cds a).length=m)(l:List α):grp m l.length ((Za4 cds l).take (l.length*m))=l.map cds:=by rw[YG (by rw[Zcs hm];exact Yi _),Zmm hm]
def Znt(l:List α)(a:α)(j:Nat):Zac cds l 0++(cds a).map .c++List.replicate j .non=Zac cds (l++[a]) j:=by simp[Zac,ZgX,Za4]
def Zfe(hm:∀a,(cds a).length=m)(l:List α)(j:Nat):(Zac cds l j).take (l.length*m)=Zac cds l 0:=by unfold Zac;rw[Ybg (by rw[Yc,Zcs hm])];simp
def Zxm(d:Nat):∀l:List CD,AV.prgL d (l.map .c)=l.map .c
 |[]=>rfl
 |a::l=>by simp only[Ye,AV.prgL,AV.prg,Zxm d l]
def Ztf(d:Nat):∀j:Nat,AV.prgL d (List.replicate j .non)=List.replicate j .non
 |0=>rfl
 |j+1=>by simp only[YP,AV.prgL,AV.prg,Ztf d j]
def prg_cellsG(cds:α->List CD)(d:Nat)(l:List α)(j:Nat):AV.prgL d (Zac cds l j)=Zac cds l j:=by unfold Zac;rw[ZdV,Zxm,Ztf]
def ZsE(b:Nat)(L:List Nat)(own:Nat->Ob):∀l:List CD,AV.lendL b L own (l.map .c)=some (l.map .c)
 |[]=>rfl
 |a::l=>by simp only[Ye,AV.lendL,AV.lend,ZsE b L own l]
def Zpb(b:Nat)(L:List Nat)(own:Nat->Ob):∀j:Nat,AV.lendL b L own (List.replicate j .non)=some (List.replicate j .non)
 |0=>rfl
 |j+1=>by simp only[YP,AV.lendL,AV.lend,Zpb b L own j]
def Zg0(b:Nat)(L:List Nat)(own:Nat->Ob):∀x y:List AV,AV.lendL b L own (x++y)=(AV.lendL b L own x).bind fun x'=>(AV.lendL b L own y).map fun y'=>x'++y'
 |[],y=>by simp[AV.lendL]
 |a::x,y=>by simp only[YH,AV.lendL,Zg0 b L own x y];cases AV.lend b L own a<;>cases AV.lendL b L own x<;>cases AV.lendL b L own y<;>rfl
def lend_cellsG(cds:α->List CD)(b:Nat)(L:List Nat)(own:Nat->Ob)(l:List α)(j:Nat):AV.lendL b L own (Zac cds l j)=some (Zac cds l j):=by unfold Zac;rw[Zg0,ZsE,Zpb];rfl
def Zxb(n:Nat)(ds:List CD):∀l:List CD,AV.frzL n ds (l.map .c)=l.map .c
 |[]=>rfl
 |a::l=>by simp only[Ye,AV.frzL,AV.frz,Zxb n ds l]
def Zsk(n:Nat)(ds:List CD):∀j:Nat,AV.frzL n ds (List.replicate j .non)=List.replicate j .non
 |0=>rfl
 |j+1=>by simp only[YP,AV.frzL,AV.frz,Zsk n ds j]
def Zir(n:Nat)(ds:List CD):∀a b:List AV,AV.frzL n ds (a++b)=AV.frzL n ds a++AV.frzL n ds b
 |[],b=>rfl
 |x::a,b=>by simp only[YH,AV.frzL,Zir n ds a b]
def frz_cellsG(cds:α->List CD)(n:Nat)(ds:List CD)(l:List α)(j:Nat):AV.frzL n ds (Zac cds l j)=Zac cds l j:=by unfold Zac;rw[Zir,Zxb,Zsk]
def ZnX:∀l:List CD,AV.pureL (l.map .c)=true
 |[]=>rfl
 |a::l=>by simp only[Ye,AV.pureL,AV.pureB,YV,ZnX l]
def Zlk:∀j:Nat,AV.pureL (List.replicate j .non)=true
 |0=>rfl
 |j+1=>by simp only[YP,AV.pureL,AV.pureB,YV,Zlk j]
def ZiU:∀{a b:List AV},AV.pureL a=true->AV.pureL b=true->AV.pureL (a++b)=true
 |[],b,_,hb=>hb
 |x::a,b,ha,hb=>by simp only[AV.pureL,Yf]at ha;simp only[YH,AV.pureL,Yf];exact⟨ha.1,ZiU ha.2 hb⟩
def back_cellsG(cds:α->List CD)(L:List Nat)(l:List α)(j:Nat):AV.backL L (Zac cds l j)=some (Zac cds l j):=by refine backs_pure ?_;unfold Zac;exact ZiU (ZnX _) (Zlk _)
end
end Go.V
namespace Go.V
attribute [go_sem] AOps_cons
 ZbU
 Ob.isGrow
 Zhg
 Zbr
 Zun
 ZxD
 ZxC
 Zb0
 ZaQ
 ZpL
 ZqZ
 Zuo
 Znd
 ZpM
 ZpN
 pvw
 mvw
 nvw
 Zz7
 AV.vbase
 AV.vcells
 rmv
 ZhW
 I.putsB
 pev
 pevO
 vwp
 mev
 St.guard
 St.val
 St.put
 Zsu
 Zo3
 Zbj
 ZqS
 ZqR
 Zmo
 ZbX
 ZgW
 Zg2
 Zyn
 ZBh
 Zu9
 Zva
 Zym
 Ztb
 Zy7
 Zv0
 Zv2
 Zy8
 Ztc
 ZvZ
 Zv1
 Zu4
 Zyh
 Zu3
 Zu6
 Zyi
 Zu2
 Zu5
 AV.frz
 AV.frzL
 Ob.frz
 AV.dg
 AV.dv
 AV.asC
 AV.isBo
 AV.bo
 CD.isBo
 CD.bo
 AV.elems
 AV.elemsZ
 AV.rawLen
 AV.cellsA
 AV.toCD
 AV.cds
 AV.oneB
 ZDh ZDD
 ZDp
 bound
 bldGo
 splice
 ZmT
 St.new
 Ob.prg
 AV.prg
 AV.prgL
 Ob.isNone
 Ob.isBox
 Zaz
 inQ
 VC.wr
 OT.wr
 OT.wrL
 Ins.wr
 List.flatMap_cons
 List.flatMap_nil
 YF
 Yag
 Ybt
 Yc4
 or_true
 true_or
 Ydd
 YcO
 Ya2
 Ycu
 Yc3
 Yb7
 YJ
 YA
 and_self
 YbC
 List.getElem?_cons_succ
 YR
 Ya
 implies_true
 imp_self
 YaE
 Ybr
 Yam
 YcX
 Ybp
 Bool.or_false
 Bool.or_true
 YV
 Y9
 Yai
 YcE
 Yo
 YI
 YaH
 YbL
 Yce
 Y8
 YaI
 Yaz
 Yat
 YM
 YH
 Yp
 beq_true
 beq_false
 Yf
 Yao
 List.mapM_nil
 Yaw
 YS
 Ya8
 Yas
 YbD
 YbB
 Yi
 Nat.zero_lt_succ
 YaN
 Yak
 YC
 cond_true
 cond_false
 Yad
 Ybq
 YbG
 forall_const
 false_implies
 true_implies
 ZxW
 ZAP
 ge_iff_le
 gt_iff_lt
 Ye
 Yg
 Yc
 Yy
 Yw
 List.idxOf_cons
 List.idxOf_nil
attribute [go_sem] prg_cellsG frz_cellsG lend_cellsG
end Go.V
namespace Go.V
def CD.flat:CD->Bool
 |.sl _ _=>false
 |.pt _=>false
 |_=>true
def RepC.flat{w w':World}{M M':Cells}:∀{d:CD}{v:Value},d.flat=true->RepC w M d v->RepC w' M' d v
 |.int _ _,_,_,h=>by simpa only[RepC]using h
 |.bool _,_,_,h=>by simpa only[RepC]using h
 |.str _,_,_,h=>by simpa only[RepC]using h
 |.raw _,_,_,h=>by simpa only[RepC]using h
 |.sl _ _,_,h,_=>by cases h
 |.pt _,_,h,_=>by cases h
mutual
def AV.gd(n sz len cap:Nat):AV->AV
 |.gr m=>if m=n then .vw sz n 0 len cap else .gr m
 |.c d=>if d.flat then .c d else .non
 |.agg cs=> .agg (AV.gdL n sz len cap cs)
 |.tup cs=> .tup (AV.gdL n sz len cap cs)
 |.fn f cs=> .fn f (AV.gdL n sz len cap cs)
 |.opt g x=> .opt g (AV.gd n sz len cap x)
 |.bp m o=>if m=n then .non else .bp m o
 |.vw a m o l k=>if m=n then .non else .vw a m o l k
 |.non=> .non
def AV.gdL(n sz len cap:Nat):List AV->List AV
 |[]=>[]
 |a::as=>AV.gd n sz len cap a::AV.gdL n sz len cap as
end
def Ob.gd(n sz len cap:Nat):Ob->Ob
 |.box cs=> .box (AV.gdL n sz len cap cs)
 |.grow e z es=>if es.all (fun e=>e.all CD.flat)then .grow e z es else .none
 |.mp a b l=> .mp a b l
 |_=> .none
def gdE(n sz len cap:Nat)(f:Nat->AV):Nat->AV:=fun t=>(f t).gd n sz len cap
def gdO(n sz len cap:Nat)(f:Nat->Ob):Nat->Ob:=fun t=>(f t).gd n sz len cap
def gdE_upd(n sz len cap:Nat)(f:Nat->AV)(t:Nat)(v:AV):gdE n sz len cap (upd f t v)=upd (gdE n sz len cap f) t (v.gd n sz len cap):=by funext s;simp only[gdE,upd];split<;>rfl
def gdE_e0(n sz len cap:Nat):gdE n sz len cap e0=e0:=rfl
def gdO_upd(n sz len cap:Nat)(f:Nat->Ob)(t:Nat)(v:Ob):gdO n sz len cap (upd f t v)=upd (gdO n sz len cap f) t (v.gd n sz len cap):=by funext s;simp only[gdO,upd];split<;>rfl
def gdO_o0(n sz len cap:Nat):gdO n sz len cap o0=o0:=rfl
section
variable{w:World}{M M':Cells}{loc loc':Nat->Value}{n b sz len cap:Nat}
mutual
def gd_rep(hl:∀m,m≠n->loc' m=loc m)(hn:loc n= .slice (some ⟨b,0,none⟩) len cap)(hn':loc' n= .pointer (some ⟨b,0,none⟩))(h1:len<=cap)(h2:cap<=maxLen):∀{x:AV}{v:Value},RepA w M loc x v->RepA w M' loc' (x.gd n sz len cap) v
 |.non,v,h=>by simp only[AV.gd,RepA]
 |.c d,v,h=>by simp only[AV.gd];split;{rename_i hd;simp only[RepA]at h|-;exact RepC.flat hd h};{simp only[RepA]}
 |.gr m,v,h=>by simp only[AV.gd];split;{rename_i hm;subst hm;simp only[RepA]at h|-;rw[hn]at h;exact⟨b,0,hn',h.1,fun _=>rfl,h1,h2⟩};{rename_i hm;simp only[RepA]at h|-;rw[hl m hm];exact h}
 |.bp m o,v,h=>by simp only[AV.gd];split;{simp only[RepA]};{rename_i hm;simp only[RepA]at h|-;rw[hl m hm];exact h}
 |.vw a m o l k,v,h=>by simp only[AV.gd];split;{simp only[RepA]};{rename_i hm;simp only[RepA]at h|-;rw[hl m hm];exact h}
 |.agg cs,v,h=>by simp only[AV.gd,RepA]at h|-;obtain⟨l,hv,hr⟩:=h;exact⟨l,hv,gds_rep hl hn hn' h1 h2 hr⟩
 |.tup cs,v,h=>by simp only[AV.gd,RepA]at h|-;obtain⟨l,hv,hr⟩:=h;exact⟨l,hv,gds_rep hl hn hn' h1 h2 hr⟩
 |.fn f cs,v,h=>by simp only[AV.gd,RepA]at h|-;obtain⟨l,hv,hr⟩:=h;exact⟨l,hv,gds_rep hl hn hn' h1 h2 hr⟩
 |.opt g x,v,h=>by simp only[AV.gd,RepA]at h|-;exact⟨fun hg=>gd_rep hl hn hn' h1 h2 (h.1 hg),h.2⟩
def gds_rep(hl:∀m,m≠n->loc' m=loc m)(hn:loc n= .slice (some ⟨b,0,none⟩) len cap)(hn':loc' n= .pointer (some ⟨b,0,none⟩))(h1:len<=cap)(h2:cap<=maxLen):∀{xs:List AV}{l:List Value},RepAs w M loc xs l->RepAs w M' loc' (AV.gdL n sz len cap xs) l
 |[],l,h=>h
 |x::xs,l,h=>by simp only[AV.gdL,RepAs]at h|-;obtain⟨v,vs,e,k1,k2⟩:=h;exact⟨v,vs,e,gd_rep hl hn hn' h1 h2 k1,gds_rep hl hn hn' h1 h2 k2⟩
end
def Ziq:∀{cs:List CD}{l:List Value},cs.all CD.flat=true->RepAs w M loc (cs.map .c) l->RepAs w M' loc' (cs.map .c) l
 |[],_,_,h=>by simpa only[Yg,RepAs]using h
 |c::cs,l,hc,h=>by simp only[YaE,Yf]at hc;simp only[Ye,RepAs,RepA]at h|-;obtain⟨v,vs,rfl,h1,h2⟩:=h;exact⟨v,vs,rfl,RepC.flat hc.1 h1,Ziq hc.2 h2⟩
def Ob.gd_has{o:Ob}{v:Value}{k:Nat}(h:(o.gd n sz len cap).has v k):o.has v k:=by
 cases o with
 |none=>exact h
 |box cs=>cases v<;>first|exact h|(rename_i p;cases p<;>exact h)
 |win cs=>exact(Ob.has_none _ _ h).elim
 |grow e z es=>simp only[Ob.gd]at h;split at h;{exact h};{exact(Ob.has_none _ _ h).elim}
 |guest g rem=>exact(Ob.has_none _ _ h).elim
 |mp a b l=>exact h
def Ob.gd_mut{o:Ob}{v:Value}{k i:Nat}(h:(o.gd n sz len cap).mut v k i):o.mut v k i:=by
 cases o with
 |none=>exact h
 |box cs=>cases v<;>first|exact h|(rename_i p;cases p<;>exact h)
 |win cs=>exact(Ob.has_none _ _ (Ob.has_of_mut h)).elim
 |grow e z es=>simp only[Ob.gd]at h;split at h;{exact h};{exact(Ob.has_none _ _ (Ob.has_of_mut h)).elim}
 |guest g rem=>exact(Ob.has_none _ _ (Ob.has_of_mut h)).elim
 |mp a b l=>exact h
def ObOk.gd{P:Program}{A:Nat->Prop}(hl:∀m,m≠n->loc' m=loc m)(hn:loc n= .slice (some ⟨b,0,none⟩) len cap)(hn':loc' n= .pointer (some ⟨b,0,none⟩))(h1:len<=cap)(h2:cap<=maxLen){o:Ob}{v:Value}(h:ObOk P A w M loc v o):ObOk P A w M' loc' v (o.gd n sz len cap):=by(cases o with|none=>trivial|box cs=>obtain⟨b1,l,e,k1,k2,k3,k4⟩:=h;exact⟨b1,l,e,k1,k2,k3,gds_rep hl hn hn' h1 h2 k4⟩|win cs=>trivial|grow e z es=>simp only[Ob.gd];split;{rename_i hes;obtain⟨xs,k1,k2,⟨k3,k4⟩,k5⟩:=h;refine⟨xs,k1,k2,⟨k3,Ziq ?_ k4⟩,k5⟩;rw[Yn]at hes|-;intro d hd;obtain⟨e,he,hde⟩:=List.mem_flatten.1 hd;exact Yn.1 (hes e he) d hde};{trivial}|guest g rem=>trivial|mp a b l=>exact h)
end
def Zng{C:Ctx}{σ:St}{a:Act}{w:World}(hX:∀b,¬C.X b){n e sz:Nat}{es:List (List CD)}(hn:n<1000)(ho:σ.own n= .grow e sz es)(hes:es.all (fun e=>e.all CD.flat)=true)(hne:es≠[])(h:Gam C σ a w):
  ∃cap j,es.length<=cap/\cap<=maxLen/\cap*sz=es.length*sz+j/\Gam C ⟨gdE n sz es.length cap σ.env,upd (gdO n sz es.length cap σ.own) n (.box (es.flatten.map .c++List.replicate j .non))⟩ a w:=by obtain⟨loc,hg⟩:=h;have hob:=hg.objs n;rw[ho]at hob;obtain⟨xs,hown,hA,⟨hsz,hrs⟩,hpos⟩:=hob;have hlx:=hown.1;rcases hown.2 with⟨_,h0⟩|⟨g,cap,cur,hv,_,hh,hnc,hcm,hcs,htake⟩;{exact absurd (YE h0) hne};(have hgB:C.B<=g:=by rcases hA g (by rw[hv];rfl)with h|h;{exact h};{exact absurd h (hX g)});have hle:es.length*sz<=cap*sz:=Y2 _ hnc;refine⟨cap,cap*sz -es.length*sz,hnc,hcm,Kc,?_⟩;let loc':Nat->Value:=fun m=>if m=n then .pointer (some ⟨g,0,none⟩)else loc m;(have hl:∀m,m≠n->loc' m=loc m:=fun m hm=>by simp only[loc',hm,YA]);(have hn':loc' n= .pointer (some ⟨g,0,none⟩):=by simp only[loc',YJ]);(have hown':∀m,m≠n->(upd (gdO n sz es.length cap σ.own) n (.box (es.flatten.map .c++List.replicate (cap*sz -es.length*sz) .non))) m=(σ.own m).gd n sz es.length cap:=fun m hm=>by simp only[upd,hm,YA,gdO]);(have hownn:(upd (gdO n sz es.length cap σ.own) n (.box (es.flatten.map .c++List.replicate (cap*sz -es.length*sz) .non))) n= .box (es.flatten.map .c++List.replicate (cap*sz -es.length*sz) .non):=by simp only[upd,YJ]);generalize hO:upd (gdO n sz es.length cap σ.own) n (.box (es.flatten.map .c++List.replicate (cap*sz -es.length*sz) .non))=O at*;(have hhas:∀m k,(O m).has (loc' m) k->(σ.own m).has (loc m) k:=by intro m k h;by_cases hm:m=n;{subst hm;rw[hownn,hn']at h;rw[ho,hv];exact h};{rw[hown' m hm,hl m hm]at h;exact Ob.gd_has h});(have hmut:∀k i,MM C O loc' k i->MM C σ.own loc k i\/k=g:=by rintro k i (h|⟨m,h⟩);{exact .inl (.inl h)};{by_cases hm:m=n;{subst hm;rw[hownn,hn']at h;exact .inr h.symm};{rw[hown' m hm,hl m hm]at h;exact .inl (.inr ⟨m,Ob.gd_mut h⟩)}});refine⟨loc',hg.fr,hg.m0,⟨hg.kp.cell,fun p hp hm hm'=>?_⟩,fun x hx=>?_,hg.mnd,fun m hm=>?_,hg.size,fun t=>?_,fun m=>?_,fun m k c hmk h1 h2=>hg.disj m k c hmk (hhas m c h1) (hhas k c h2)⟩;{rcases hmut _ _ hm' with h|h;{exact hg.kp.free p hp hm h};{obtain⟨u,hu⟩:=YaA.1 hp;have:=World.block_lt_of_cell? C.w0 p hu;unfold Ctx.B at hgB;omega}};{obtain⟨D,e1,e2,e3,e4⟩:=hg.marks x hx;exact⟨D,e1,e2,e3,fun⟨m,h⟩=>e4 ⟨m,hhas m D h⟩⟩};{obtain⟨p1,p2,p3⟩:=hg.pin m hm;exact⟨p1,by rw[hl m Kc];exact p2,p3⟩};{exact gd_rep hl hv hn' hnc hcm (hg.slots t)};{(show ObOk C.P C.A w _ loc' (loc' m) (O m);by_cases hm:m=n);{subst hm;rw[hownn,hn'];refine⟨g,cur.toList,(e,(0,0)),rfl,.inl hgB,AtC.of' hh,?_⟩;(have hcl:cur.toList=xs++cur.toList.drop (es.length*sz):=by rw[<-htake,Yah]);rw[hcl];(have hcl2:(cur.toList.drop (es.length*sz)).length=cap*sz -es.length*sz:=by simp[hcs]);(have hfl:es.flatten.all CD.flat=true:=by rw[Yn]at hes|-;intro d hd;obtain⟨e,he,hde⟩:=List.mem_flatten.1 hd;exact Yn.1 (hes e he) d hde);(have happ:∀(as:List AV)(l:List Value)(ys:List Value),RepAs w (MM C O loc') loc' as l->RepAs w (MM C O loc') loc' (as++List.replicate ys.length .non) (l++ys):=by(intro as;induction as with|nil=>(intro l ys h;simp only[RepAs]at h;subst h;simp only[YM];induction ys with|nil=>simp only[YI,List.replicate_zero,RepAs]|cons y ys ih=>simp only[Yo,YP,RepAs,RepA];exact⟨y,ys,rfl,trivial,ih⟩)|cons a as ih=>intro l ys h;simp only[RepAs]at h;obtain⟨v,vs,rfl,h1,h2⟩:=h;simp only[YH,RepAs];exact⟨v,vs++ys,rfl,h1,ih vs ys h2⟩));have:=happ (es.flatten.map .c) xs (cur.toList.drop (es.length*sz)) (Ziq hfl hrs);rwa [hcl2]at this};{rw[hown' m hm,hl m hm];exact ObOk.gd hl hv hn' hnc hcm (hg.objs m)}}
def ZpY{C:Ctx}{Q:Exit->St->Prop}{v:VC}{env:Nat->AV}{own:Nat->Ob}(hX:∀b,¬C.X b)(n:Nat){e sz:Nat}{es:List (List CD)}(hn:n<1000)(ho:own n= .grow e sz es)(hes:es.all (fun e=>e.all CD.flat)=true)(hne:es≠[])(h:∀cap j,es.length<=cap->cap<=maxLen->cap*sz=es.length*sz+j->WV C v Q ⟨gdE n sz es.length cap env,upd (gdO n sz es.length cap own) n (.box (es.flatten.map .c++List.replicate j .non))⟩):WV C v Q ⟨env,own⟩:=by intro c hc a w hg;obtain⟨cap,j,h1,h2,h3,h4⟩:=Zng hX hn ho hes hne hg;exact h cap j h1 h2 h3 c hc a w h4
def ZpR{P:Program}{m:List Nat}{f:FuncId}{fc:FC}(hc:compM P m f=some fc){args:List AV}{Post:AV->List Ob->Prop}(hn:args.length<=fc.np)(hnp:fc.np<=fc.N)(h:∀C:Ctx,C.P=P->C.N=fc.N->C.Ok->(∀b,¬C.X b)->AV.lensL args->WV C fc.body (Zbk fc.rs Post) (St.init args)):ZfB P f args Post:=by obtain⟨hcl,hb⟩:=Zcq hc;refine⟨hcl,fun w M vs hM hr=>?_⟩;have hlen:=hr.length;refine hb (Ctx.of P fc.N m w M) (Zbk fc.rs Post) (St.init args) (fun _=>undef) vs _ rfl rfl rfl rfl Kc (h _ rfl rfl (fun _ h=>by cases h) (fun _ h=>h) hr.lens) (fun tm hs ht=>Zol hM hr Kc hs ht) (fun l₀ hl₀ σ loc a w' hg hq=>?_) (fun e σ hq=>by cases e<;>first|exact .inl rfl|exact .inr rfl|exact hq.elim);have hret:ZaN fc.rs Post σ:=hq.elim id id;unfold ZaN at hret;split at hret;(case h_2=>exact hret.elim);rename_i q avs hres;obtain⟨hq,L,r0,r,os,hL,hLl,hlend,hle,hol,hpost⟩:=hret;have hbelow:RowKit.Below w.heap.size w w':=⟨hg.fr.os,hg.fr.tape,hg.fr.output,hg.fr.size,fun k hk=>hg.fr.block k hk (fun h=>h)⟩;obtain⟨us,hus,hrus⟩:=ZbB hg l₀ fc.rs hl₀ hres hq;obtain⟨e1,e2,e3⟩:=Zck hol;(have hsub:∀b k,AddM M (ZbV 1000 os) (locL 1000 loc L) b k->MM (Ctx.of P fc.N m w M) σ.own loc b k:=by rintro b k (h|⟨n,h⟩);{exact .inl h};{rcases ZaG os n with⟨i,o,rfl,h2,h3⟩|h3;{obtain⟨p,hp,hlp⟩:=e3 i o h2;rw[h3,locL_at hp,Ob.lend_mut hlp]at h;exact .inr ⟨p,h⟩};{rw[h3]at h;exact(Ob.has_none _ _ (Ob.has_of_mut h)).elim}});(have hone:∀n b,(ZbV 1000 os n).has (locL 1000 loc L n) b->∃i p o,n=1000+i/\L[i]? =some p/\Ob.lend L σ.own (σ.own p)=some o/\(σ.own p).has (loc p) b:=by intro n b h;rcases ZaG os n with⟨i,o,rfl,h2,h3⟩|h3;{obtain⟨p,hp,hlp⟩:=e3 i o h2;rw[h3,locL_at hp,Ob.lend_has hlp]at h;exact⟨i,p,o,rfl,hp,hlp,h⟩};{rw[h3]at h;exact(Ob.has_none _ _ h).elim});refine⟨us,hus,_,r,os,locL 1000 loc L,rfl,hpost,Kc,hbelow,⟨fun n=>?_,fun n k b hnk h1 h2=>?_⟩,fun n b h=>?_,?_⟩;{rcases ZaG os n with⟨i,o,rfl,h2,h3⟩|h3;{obtain⟨p,hp,hlp⟩:=e3 i o h2;rw[h3,locL_at hp];exact(ObOk.lend hg hlp).1.keep' (Keeps.less hsub) (Yi _) (fun _ _=>rfl)};{rw[h3];trivial}};{obtain⟨i,p,_,rfl,hp,_,hpb⟩:=hone n b h1;obtain⟨j,q,_,rfl,hq,_,hqb⟩:=hone k b h2;refine hg.disj p q b ?_ hpb hqb;rintro rfl;exact hnk (by rw[Zf0 hL hp hq])};{obtain⟨i,p,o,rfl,hp,hlp,hpb⟩:=hone n b h;rcases(ObOk.lend hg hlp).2 b hpb with h'|h';{exact h'};{exact h'.elim}};{exact hle _ _ _ _ (RepA.keep (Keeps.less hsub) _ _ (lend_rep hg (ZgO hrus) hlend))}
end Go.V
namespace Go.V
mutual
def AV.rn(d n:Nat):AV->AV
 |.bp m o=>if m=d then .bp n o else if m=n then .non else .bp m o
 |.gr m=>if m=d then .gr n else if m=n then .non else .gr m
 |.vw sz m off len cap=>if m=d then .vw sz n off len cap else if m=n then .non else .vw sz m off len cap
 |.agg cs=> .agg (AV.rnL d n cs)
 |.tup cs=> .tup (AV.rnL d n cs)
 |.fn f cs=> .fn f (AV.rnL d n cs)
 |.opt g x=> .opt g (AV.rn d n x)
 |.non=> .non
 |.c x=> .c x
def AV.rnL(d n:Nat):List AV->List AV
 |[]=>[]
 |a::as=>AV.rn d n a::AV.rnL d n as
end
def Ob.rn(d n:Nat):Ob->Ob
 |.box cs=> .box (AV.rnL d n cs)
 |.win cs=> .win (AV.rnL d n cs)
 |o=>o
def rnE(d n:Nat)(f:Nat->AV):Nat->AV:=fun t=>(f t).rn d n
def rnP(d n:Nat)(f:Nat->Ob):Nat->Ob:=fun t=>(f t).rn d n
def rnO(d n:Nat)(f:Nat->Ob):Nat->Ob:=upd (upd (rnP d n f) n ((f d).rn d n)) d .none
def rnE_upd(d n:Nat)(f:Nat->AV)(t:Nat)(v:AV):rnE d n (upd f t v)=upd (rnE d n f) t (v.rn d n):=by funext s;simp only[rnE,upd];split<;>rfl
def rnE_e0(d n:Nat):rnE d n e0=e0:=rfl
def rnP_upd(d n:Nat)(f:Nat->Ob)(t:Nat)(v:Ob):rnP d n (upd f t v)=upd (rnP d n f) t (v.rn d n):=by funext s;simp only[rnP,upd];split<;>rfl
def rnP_o0(d n:Nat):rnP d n o0=o0:=rfl
def rnE_app(d n:Nat)(f:Nat->AV)(t:Nat):rnE d n f t=(f t).rn d n:=rfl
def rnP_app(d n:Nat)(f:Nat->Ob)(t:Nat):rnP d n f t=(f t).rn d n:=rfl
section
variable{w:World}{M:Cells}{loc loc':Nat->Value}{d n:Nat}
mutual
def rn_rep(hl:∀m,m≠n->loc' m=loc m)(hn:loc' n=loc d):∀{x:AV}{v:Value},RepA w M loc x v->RepA w M loc' (x.rn d n) v
 |.non,v,h=>by simp only[AV.rn,RepA]
 |.c x,v,h=>by simp only[AV.rn,RepA]at h|-;exact h
 |.gr m,v,h=>by simp only[AV.rn];split;{rename_i e;subst e;simp only[RepA]at h|-;rw[hn];exact h};{split;{simp only[RepA]};{rename_i e;simp only[RepA]at h|-;rw[hl m e];exact h}}
 |.bp m o,v,h=>by simp only[AV.rn];split;{rename_i e;subst e;simp only[RepA]at h|-;rw[hn];exact h};{split;{simp only[RepA]};{rename_i e;simp only[RepA]at h|-;rw[hl m e];exact h}}
 |.vw sz m off len cap,v,h=>by simp only[AV.rn];split;{rename_i e;subst e;simp only[RepA]at h|-;rw[hn];exact h};{split;{simp only[RepA]};{rename_i e;simp only[RepA]at h|-;rw[hl m e];exact h}}
 |.agg cs,v,h=>by simp only[AV.rn,RepA]at h|-;obtain⟨l,hv,hr⟩:=h;exact⟨l,hv,rns_rep hl hn hr⟩
 |.tup cs,v,h=>by simp only[AV.rn,RepA]at h|-;obtain⟨l,hv,hr⟩:=h;exact⟨l,hv,rns_rep hl hn hr⟩
 |.fn f cs,v,h=>by simp only[AV.rn,RepA]at h|-;obtain⟨l,hv,hr⟩:=h;exact⟨l,hv,rns_rep hl hn hr⟩
 |.opt g x,v,h=>by simp only[AV.rn,RepA]at h|-;exact⟨fun hg=>rn_rep hl hn (h.1 hg),h.2⟩
def rns_rep(hl:∀m,m≠n->loc' m=loc m)(hn:loc' n=loc d):∀{xs:List AV}{l:List Value},RepAs w M loc xs l->RepAs w M loc' (AV.rnL d n xs) l
 |[],l,h=>h
 |x::xs,l,h=>by simp only[AV.rnL,RepAs]at h|-;obtain⟨v,vs,e,k1,k2⟩:=h;exact⟨v,vs,e,rn_rep hl hn k1,rns_rep hl hn k2⟩
end
def Ob.rn_has(o:Ob)(v:Value)(b:Nat):(o.rn d n).has v b↔o.has v b:=by cases o<;>first|exact YaK|(cases v<;>first|exact YaK|(rename_i p;cases p<;>exact YaK))
def Ob.rn_mut(o:Ob)(v:Value):(o.rn d n).mut v=o.mut v:=by cases o<;>first|rfl|(cases v<;>first|rfl|(rename_i p;cases p<;>rfl))
def ObOk.rn{P:Program}{A:Nat->Prop}{v:Value}{o:Ob}(hl:∀m,m≠n->loc' m=loc m)(hn:loc' n=loc d)(h:ObOk P A w M loc v o):ObOk P A w M loc' v (o.rn d n):=by(cases o with|none=>trivial|box cs=>obtain⟨b1,l,e,h1,h2,h3,h4⟩:=h;exact⟨b1,l,e,h1,h2,h3,rns_rep hl hn h4⟩|win cs=>obtain⟨b1,l,r,e,h1,h3,h4⟩:=h;exact⟨b1,l,r,e,h1,h3,rns_rep hl hn h4⟩|grow e sz es=>exact h|guest g rem=>exact h|mp kk ek l=>exact h)
end
def ZeF{C:Ctx}{σ:St}{a:Act}{w:World}{d n:Nat}(hdn:d≠n)(hp:¬C.pin n)(hn:σ.own n= .none)(h:Gam C σ a w):Gam C ⟨rnE d n σ.env,rnO d n σ.own⟩ a w:=by obtain⟨loc,hg⟩:=h;let loc':Nat->Value:=fun m=>if m=n then loc d else loc m;(have hl:∀m,m≠n->loc' m=loc m:=fun m hm=>by simp only[loc',hm,YA]);(have hn':loc' n=loc d:=by simp only[loc',YJ]);have hnd:n≠d:=fun e=>hdn e.symm;(have o1:rnO d n σ.own d= .none:=by simp only[rnO,upd,YJ]);(have o2:rnO d n σ.own n=(σ.own d).rn d n:=by simp only[rnO,upd,hnd,YA,YJ]);(have o3:∀m,m≠d->m≠n->rnO d n σ.own m=(σ.own m).rn d n:=fun m h1 h2=>by simp only[rnO,upd,h1,h2,YA,rnP]);(have hhas:∀m k,(rnO d n σ.own m).has (loc' m) k->(m=n/\(σ.own d).has (loc d) k)\/(m≠n/\m≠d/\(σ.own m).has (loc m) k):=by intro m k h;by_cases hm:m=n;{subst hm;rw[o2,hn',Ob.rn_has]at h;exact .inl ⟨rfl,h⟩};{by_cases hmd:m=d;{subst hmd;rw[o1]at h;exact(Ob.has_none _ _ h).elim};{rw[o3 m hmd hm,hl m hm,Ob.rn_has]at h;exact .inr ⟨hm,hmd,h⟩}});(have hmut:∀b k,MM C (rnO d n σ.own) loc' b k->MM C σ.own loc b k:=by rintro b k (h|⟨m,h⟩);{exact .inl h};{by_cases hm:m=n;{subst hm;rw[o2,hn',Ob.rn_mut]at h;exact .inr ⟨d,h⟩};{by_cases hmd:m=d;{subst hmd;rw[o1]at h;exact(Ob.has_none _ _ (Ob.has_of_mut h)).elim};{rw[o3 m hmd hm,hl m hm,Ob.rn_mut]at h;exact .inr ⟨m,h⟩}}});have hk:Keeps w w (MM C σ.own loc) (MM C (rnO d n σ.own) loc'):=Keeps.less hmut;(have hfoot:∀b,Foot (rnO d n σ.own) loc' b->Foot σ.own loc b:=by rintro b ⟨m,h⟩;rcases hhas m b h with⟨_,h⟩|⟨_,_,h⟩;{exact⟨d,h⟩};{exact⟨m,h⟩});refine⟨loc',hg.fr,hg.m0,hg.kp.trans hk,fun x hx=>?_,hg.mnd,fun m hm=>?_,hg.size,fun t=>?_,fun m=>?_,fun m k c hmk h1 h2=>?_⟩;{obtain⟨D,e1,e2,e3,e4⟩:=hg.marks x hx;exact⟨D,e1,e2,e3,fun h=>e4 (hfoot _ h)⟩};{obtain⟨p1,p2,p3⟩:=hg.pin m hm;exact⟨p1,by rw[hl m (fun e=>hp (e▸hm))];exact p2,p3⟩};{exact rn_rep hl hn' (RepA.keep hk _ _ (hg.slots t))};{(show ObOk C.P C.A w _ loc' (loc' m) (rnO d n σ.own m);by_cases hm:m=n);{subst hm;rw[o2,hn'];exact ObOk.rn hl hn' (ObOk.keep' hk (Yi _) (fun _ _=>rfl) (hg.objs d))};{by_cases hmd:m=d;{subst hmd;rw[o1];trivial};{rw[o3 m hmd hm,hl m hm];exact ObOk.rn hl hn' (ObOk.keep' hk (Yi _) (fun _ _=>rfl) (hg.objs m))}}};{rcases hhas m c h1 with⟨e1,k1⟩|⟨e1,e2,k1⟩<;>rcases hhas k c h2 with⟨f1,k2⟩|⟨f1,f2,k2⟩;{exact hmk (e1.trans f1.symm)};{exact hg.disj d k c (fun e=>f2 e.symm) k1 k2};{exact hg.disj m d c e2 k1 k2};{exact hg.disj m k c hmk k1 k2}}
def ZkD{C:Ctx}{Q:Exit->St->Prop}{v:VC}{σ:St}(h:WV C v (fun e σ'=>∃σ'',(∀a w,Gam C σ' a w->Gam C σ'' a w)/\Q e σ'') σ):WV C v Q σ:=fun c hc a w hg=>
 wpIn_mono (h c hc a w hg) fun _ _ _ ⟨_,hg',σ'',hw,hq⟩=>⟨σ'',hw _ _ hg',hq⟩
def Zdq{P:Program}{m:List Nat}{f:FuncId}{fc:FC}(hc:compM P m f=some fc){args:List AV}{l:List Ob}{wl:List (List AV)}{Post:AV->List Ob->Prop}(hl:l.length<=1000)(hn:args.length<=fc.np)(hnp:fc.np<=fc.N)(hN:fc.N<=1000)(h:∀C:Ctx,C.P=P->C.N=fc.N->C.Ok->(∀n,C.pin n->(ZaX l wl n).isPlace=true)->AV.lensL args->WV C fc.body (Zjj fc.rs l wl Post) ⟨fun t=>args.getD t .non,ZaX l wl⟩):Zc9 P f args l wl Post:=by obtain⟨hcl,hb⟩:=Zcq hc;refine⟨hcl,hl,fun w M loc vs hM hok hr=>?_⟩;have hlen:=hr.length;refine hb (Ctx.lentC P fc.N m w M l wl loc none) (Zjj fc.rs l wl Post) _ loc vs _ rfl rfl rfl rfl Kc (h _ rfl rfl (fun _ h=>by cases h) (fun _ h=>h) hr.lens) (fun tm hs ht=>Zq3 hl hN hM hok hs (fun t=>by rw[ht t];exact ZgB fc.N args vs hr t)) (fun l₀ hl₀ σ loc' a w' hg hq=>?_) (fun e σ hq=>by cases e<;>first|exact .inl rfl|exact .inr rfl|exact hq.elim);have hret:ZgS fc.rs l wl Post σ:=hq.elim id id;unfold ZgS at hret;split at hret;(case h_2=>exact hret.elim);rename_i q avs hres;obtain⟨hq,r,l',hkr,hkl,hpost⟩:=hret;obtain⟨us,hus,hrus⟩:=ZbB hg l₀ fc.rs hl₀ hres hq;obtain⟨k1,k2,k3,k4,k5,k6⟩:=Zmr hl rfl rfl rfl rfl rfl hg hkl;exact⟨us,hus,_,r,l',loc',rfl,hpost,hkl.len,k1,k2,k3,k4,k5,k6 _ _ _ hkr (ZgO hrus)⟩
section
variable{P:Program}{dd:Nat}{f:X}{xs:List X}{K:St->Prop}{σ:St}
def ZwR{fid:FuncId}{caps args:List AV}{Post:AV->List Ob->Prop}(hs:ZfB P fid args Post)(h0:dd<1000)(h00:(σ.own dd).isNone=true)(h1:(σ.val f).dg=true)(h2:(xs.all fun x=>(σ.val x).dg)=true)(h3:(σ.val f).dv= .fn fid caps)(h4:AV.portL σ.own (xs.map (fun x=>(σ.val x).dv)++caps)=some args)(hK:∀r os,Post r os->∃o r' o',os=[o]/\r.back [dd]=some r'/\o.back [dd]=some o'/\K ⟨upd (ZdI dd σ.env) dd r',upd (ZbE dd σ.own) dd o'⟩):Zog P (some dd) f xs K σ:=
 ⟨dd,fid,caps,args,Post,rfl,h0,h00,h1,h2,h3,h4,hs,hK⟩
end
section
variable{α:Type}
def ZCM(d n:Nat):∀l:List CD,AV.rnL d n (l.map .c)=l.map .c
 |[]=>rfl
 |a::l=>by simp only[Ye,AV.rnL,AV.rn,ZCM d n l]
def Zxo(d n:Nat):∀j:Nat,AV.rnL d n (List.replicate j .non)=List.replicate j .non
 |0=>rfl
 |j+1=>by simp only[YP,AV.rnL,AV.rn,Zxo d n j]
def Zkh(d n:Nat):∀a b:List AV,AV.rnL d n (a++b)=AV.rnL d n a++AV.rnL d n b
 |[],b=>rfl
 |x::a,b=>by simp only[YH,AV.rnL,Zkh d n a b]
def rn_cellsG(cds:α->List CD)(d n:Nat)(l:List α)(j:Nat):AV.rnL d n (Zac cds l j)=Zac cds l j:=by unfold Zac;rw[Zkh,ZCM,Zxo]
def Zsz(own:Nat->Ob):∀l:List CD,AV.keepPL own (l.map .c)=some (l.map .c)
 |[]=>rfl
 |a::l=>by simp only[Ye,AV.keepPL,AV.keepP,Zsz own l]
def Zo9(own:Nat->Ob):∀j:Nat,AV.keepPL own (List.replicate j .non)=some (List.replicate j .non)
 |0=>rfl
 |j+1=>by simp only[YP,AV.keepPL,AV.keepP,Zo9 own j]
def ZgZ(own:Nat->Ob):∀x y:List AV,AV.keepPL own (x++y)=(AV.keepPL own x).bind fun x'=>(AV.keepPL own y).map fun y'=>x'++y'
 |[],y=>by simp[AV.keepPL]
 |a::x,y=>by simp only[YH,AV.keepPL,ZgZ own x y];cases AV.keepP own a<;>cases AV.keepPL own x<;>cases AV.keepPL own y<;>rfl
def keep_cellsG(cds:α->List CD)(own:Nat->Ob)(l:List α)(j:Nat):AV.keepPL own (Zac cds l j)=some (Zac cds l j):=by unfold Zac;rw[ZgZ,Zsz,Zo9];rfl
def ZfS{cds:α->List CD}{m:Nat}(hm:∀a,(cds a).length=m)(own:Nat->Ob)(n:Nat)(l:List α)(j cap:Nat)(h:own n= .box (Zac cds l j)):AV.elemsV own (.vw m n 0 l.length cap)=some (m,l.map cds):=by(have h2:(Zac cds l j).take (l.length*m)=(Za4 cds l).map .c:=by rw[Zfe hm];simp[Zac]);(have h3:((Za4 cds l).map AV.c).mapM (AV.toCD own)=some (Za4 cds l):=by(induction Za4 cds l with|nil=>rfl|cons a t ih=>simp only[Ye,Yao,AV.toCD,Yaw,YS,Ya8,ih]));simp only[AV.elemsV,h,Ob.cellsR,YaH,Yat,h2,h3,YR];rw[Yt (by rw[ZaF hm];omega)];have:=ZeM hm l;rw[YG (by rw[Zcs hm];exact Yi _)]at this;rw[this]
end
attribute [go_sem] rn_cellsG keep_cellsG back_cellsG
attribute [go_sem] gdE_upd gdE_e0 gdO_upd gdO_o0 AV.gd AV.gdL Ob.gd CD.flat rnE_upd rnE_e0 rnP_upd rnP_o0 rnO AV.rn AV.rnL Ob.rn rnE_app rnP_app
end Go.V
namespace Go.V
section
variable{C:Ctx}{Q:Exit->St->Prop}{x:VC}{env:Nat->AV}{own:Nat->Ob}
def Zri(n:Nat)(h:WV C x Q ⟨env,upd own n .none⟩):WV C x Q ⟨env,own⟩:=
 Zav (σ':=⟨env,upd own n .none⟩) (Zaf (fun s =>AWk.refl _ _) (fun m =>by
  show upd own n .none m=own m\/upd own n .none m= .none;rw[ZbX];split
  ·exact .inr rfl
  ·exact .inl rfl)) h
def Zot(d n:Nat)(hdn:d≠n)(h1:n<1000)(hn:own n= .none)(h:WV C x Q ⟨rnE d n env,rnO d n own⟩):WV C x Q ⟨env,own⟩:=
 Zgr (fun _ _ hg=>ZeF hdn (fun hp=>by obtain⟨_,hg'⟩:=hg;have:=(hg'.pin n hp).1;omega) hn hg) h
def Zay{P:Program}{A B:Prop}{d:Option Nat}{f:X}{xs:List X}{K:St->Prop}{σ:St}(h:K (σ.put d (.opt false (.c (.bool false))))):ZgQ P false d f xs K σ\/A\/B:=
 .inl ⟨.c (.bool false),rfl,(fun e=>by cases e),h⟩
def ZhG{P:Program}{d:Option Nat}{f:X}{xs:List X}{K:St->Prop}{σ:St}(r:AV)(hr:r.pureB=true)(h:K (σ.put d (.opt false r))):ZgQ P false d f xs K σ:=⟨r,hr,(fun e=>by cases e),h⟩
end
end Go.V
namespace Go.V
def ZjG(f g:Nat->Ob)(ds:List Nat):Prop:=∀m,ds.contains m=false->g m=f m\/g m= .none
def Zq9{f g:Nat->Ob}(h:ZjG f g []):ObjLe f g:=fun m=>h m rfl
def ZlE(f:Nat->Ob)(ds:List Nat):ZjG f o0 ds:=fun _ _=> .inr rfl
def ZhK{f g:Nat->Ob}{d:Nat}{o:Ob}{ds:List Nat}(hd:ds.contains d=true)(h:ZjG f g ds):ZjG f (upd g d o) ds:=fun m hm=>by(have hne:m≠d:=by rintro rfl;rw[hd]at hm;cases hm);have:=h m hm;simpa [upd,hne]using this
def ZjH{f g:Nat->Ob}{d:Nat}{o:Ob}{ds:List Nat}(hd:f d=o)(h:ZjG f g (d::ds)):ZjG f (upd g d o) ds:=fun m hm=>by by_cases hmd:m=d;{subst hmd;left;simp[upd,hd]};{(have hne:(m==d)=false:=by simpa using hmd);have:=h m (by simp only[List.contains_cons,hne,hm,Ybp]);simpa [upd,hmd]using this}
def Zak{e e':Nat->AV}{o o':Nat->Ob}(h1:ZfA o e e':=by(try simp only[go_sem,Zbm,Nat.reduceEqDiff,Nat.reduceAdd,Nat.reduceMul,reduceIte,Nat.reduceLeDiff,Nat.reduceLT,Nat.reduceBEq,reduceCtorEq]);((repeat'(first|exact Zc8 _ _|refine Zco ?_ ?_))<;>((try simp only[ZbX,ZgW,Zg2,Nat.reduceEqDiff,reduceIte]);first|exact AWk.refl _ _|exact AWk.int (by omega)|exact AWk.int (by rw[w64 (by omega) (by omega)];omega)|exact AWk.grow rfl|exact AWk.nil _|exact AWk.of (by simp))))(h2:ObjLe o o':=by(try simp only[go_sem,Zbm,Nat.reduceEqDiff,Nat.reduceAdd,Nat.reduceMul,reduceIte,Nat.reduceLeDiff,Nat.reduceLT,Nat.reduceBEq,reduceCtorEq]);(first|((repeat'(first|exact Zon _|exact ObjLe.rfl' _|refine ZjI ?_|refine ZlG ?_ ?_|refine ZlF rfl ?_))<;>rfl)|(refine Zq9 ?_;(repeat'(first|exact ZlE _ _|refine ZhK rfl ?_|refine ZjH ?_ ?_))<;>rfl))):Sub ⟨e,o⟩ ⟨e',o'⟩:=Zaf h1 h2
section
variable{C:Ctx}{Q:Exit->St->Prop}{σ:St}
def w1{a b:VC}(h:WV C a (Zaz (WV C b Q) Q) σ):WV C (.seq a b) Q σ:=Zat h
end
end Go.V
namespace Go.V
structure Row(α:Type) where
 l:List α
 j:Nat
 cap:Nat
section
variable{α:Type}{cds:α->List CD}{b sz m:Nat}{R:List (Row α)}{own:Nat->Ob}
def refs(b sz:Nat):Nat->List (Row α)->List AV
 |_,[]=>[]
 |k,r::R=> .vw sz (k+b) 0 r.l.length r.cap::refs b sz (k+1) R
def rng(b m:Nat):List Nat:=(List.range m).map (·+b)
variable{C:Ctx}{Q:Exit->St->Prop}{v:VC}{env:Nat->AV}
end
end Go.V
namespace Go.V
def primV_1(p:Prim)(d:CD)(g:Bool):ZmJ p [.c d] g=(match p.ev [d]with|some (q,e)=>some (g=true/\q,.c e)|none=>ZmI p):=rfl
def primV_2(p:Prim)(d d':CD)(g:Bool):ZmJ p [.c d,.c d'] g=(match p.ev [d,d']with|some (q,e)=>some (g=true/\q,.c e)|none=>ZmI p):=rfl
def primV_3(p:Prim)(d d' d'':CD)(g:Bool):ZmJ p [.c d,.c d',.c d''] g=(match p.ev [d,d',d'']with|some (q,e)=>some (g=true/\q,.c e)|none=>ZmI p):=rfl
def ev_slen(s:List UInt8):Prim.ev .slen [.str s]=some (True,.int .i64 s.length):=rfl
def ev_sidx(s:List UInt8)(k:IntKind)(j:Int):Prim.ev .sidx [.str s,.int k j]=some (0<=j/\j<s.length,.int .u8 (s.getD j.toNat 0).toNat):=rfl
def ev_sslc0(s:List UInt8):Prim.ev (.sslc false false) [.str s]=some (True,.str s):=rfl
def ev_sslc1(s:List UInt8)(k:IntKind)(j:Int):Prim.ev (.sslc true false) [.str s,.int k j]=some (0<=j/\j<=s.length,.str (s.drop j.toNat)):=rfl
def ev_sslc2(s:List UInt8)(k:IntKind)(j:Int):Prim.ev (.sslc false true) [.str s,.int k j]=some (0<=j/\j<=s.length,.str (s.take j.toNat)):=rfl
def ev_sslc3(s:List UInt8)(k k':IntKind)(i j:Int):Prim.ev (.sslc true true) [.str s,.int k i,.int k' j]=some (0<=i/\i<=j/\j<=s.length,.str ((s.drop i.toNat).take (j.toNat -i.toNat))):=rfl
def ev_add(a b:List UInt8):Prim.ev (.sbin .add) [.str a,.str b]=some (a.length+b.length<=maxLen,.str (a++b)):=rfl
def ev_eql(a b:List UInt8):Prim.ev (.sbin .eql) [.str a,.str b]=some (True,.bool (a==b)):=rfl
def ev_neq(a b:List UInt8):Prim.ev (.sbin .neq) [.str a,.str b]=some (True,.bool (!(a==b))):=rfl
def ev_conv(k k':IntKind)(n:Int):Prim.ev (.conv k) [.int k' n]=some (True,.int k (k.wrap n)):=rfl
attribute [go_sem] primV_1 primV_2 primV_3 ev_slen ev_sidx ev_sslc0 ev_sslc1 ev_sslc2 ev_sslc3 ev_add ev_eql ev_neq ev_conv
end Go.V
namespace Go.V
open Go
section
variable{C:Ctx}{Q:Exit->St->Prop}{σ:St}
def Va{a b:VC}(h:WV C a (Zaz (WV C b Q) Q) σ):WV C (.seq a b) Q σ:=Zat h
def Vb{id:Nat}{x:VC}(h:WV C x (inQ id Q) σ):WV C (.block id x) Q σ:=Zbe h
def Vc{is:List Ins}(h:ZkA C.P is (Q .normal) σ):WV C (.ops is) Q σ:=ZgT h
def Vd{is:List Ins}(h:ZkA C.P is (Q .normal) σ):WV C (.dops is) Q σ:=Zcz h
def Ve(h:Q .normal σ):WV C .skip Q σ:=Zbq h
def Vf{id:Nat}(h:Q (.exit id) σ):WV C (.exit id) Q σ:=ZaO h
def ZcF{v:VC}{p:Prop}(q:p)(h:p->WV C v Q σ:=by first|exact ZgT|exact Zcz):WV C v Q σ:=h q
def ZgU{a v:VC}{p:Prop}(q:p)(h:p->WV C a (Zaz (WV C v Q) Q) σ:=by first|exact ZgT|exact Zcz):WV C (.seq a v) Q σ:=Zat (h q)
end
def Zbh(args:List AV):St.init args=⟨Zbj e0 0 args,o0⟩:=by unfold St.init;rw[Zbm];rfl
def qJ{a b:Prop}(hb:b)(ha:a:=by(fail_if_success with_reducible exact(rfl:0=0));first|omega|(intros;simp_all;done)|(intros;simp_all;omega)):a/\b:=⟨ha,hb⟩
def Zaj{o:Nat->Ob}{e e':Nat->AV}(h:ZfA o e e':=by((repeat'(first|exact Zc8 _ _|refine Zco ?_ ?_))<;>((try simp only[ZbX,ZgW,Zg2,Nat.reduceEqDiff,reduceIte]);first|exact AWk.refl _ _|exact AWk.int (by omega)|exact AWk.int (by rw[w64 (by omega) (by omega)];omega)|exact AWk.grow rfl|exact AWk.nil _|exact AWk.of (by simp)))):ZfA o e e':=h
def Zaa{o o':Nat->Ob}(h:ObjLe o o':=by(first|((repeat'(first|exact Zon _|exact ObjLe.rfl' _|refine ZjI ?_|refine ZlG ?_ ?_|refine ZlF rfl ?_))<;>rfl)|(refine Zq9 ?_;(repeat'(first|exact ZlE _ _|refine ZhK rfl ?_|refine ZjH ?_ ?_))<;>rfl))):ObjLe o o':=h
section
variable{P:Program}{σ:St}{d:Option Nat}{f:X}{xs:List X}{K:St->Prop}
def Zal{fid:FuncId}{caps args:List AV}{r:AV}(hs:FSpec P fid args r)(hK:K (σ.put d r))(h1:(σ.val f).dg=true:=by rfl)(h2:(xs.all fun x=>(σ.val x).dg)=true:=by rfl)(h3:(σ.val f).dv= .fn fid caps:=by rfl)(h4:AV.portL σ.own (xs.map (fun x=>(σ.val x).dv)++caps)=some args:=by rfl)(h5:r.pureB=true:=by rfl):Zc7 P d f xs K σ:=ZkB hs h1 h2 h3 h4 h5 hK
def ZaV{G:Bool}{A B:Prop}{fid:FuncId}{caps args:List AV}{r:AV}(hs:G=true->FSpec P fid args r)(hK:K (σ.put d (.opt G r)))(h1:(σ.val f).dg=true:=by rfl)(h2:G=true->(xs.all fun x=>(σ.val x).dg)=true:=by intro hG;first|(simp only[go_sem,Zbm,Nat.reduceEqDiff,Nat.reduceAdd,Nat.reduceMul,reduceIte,Nat.reduceLeDiff,Nat.reduceLT,Nat.reduceBEq,reduceCtorEq,hG];done)|(simp only[go_sem,Zbm,Nat.reduceEqDiff,Nat.reduceAdd,Nat.reduceMul,reduceIte,Nat.reduceLeDiff,Nat.reduceLT,Nat.reduceBEq,reduceCtorEq];revert hG;simp;done)|(simp only[go_sem,Zbm,Nat.reduceEqDiff,Nat.reduceAdd,Nat.reduceMul,reduceIte,Nat.reduceLeDiff,Nat.reduceLT,Nat.reduceBEq,reduceCtorEq,hG];simp_all;done)|(revert hG;simp;done)|simp_all)(h3:(σ.val f).dv= .fn fid caps:=by rfl)(h4:AV.portL σ.own (xs.map (fun x=>(σ.val x).dv)++caps)=some args:=by rfl)(h5:r.pureB=true:=by rfl):ZgQ P G d f xs K σ\/A\/B:=Znc hs h1 h2 h3 h4 h5 hK
end
end Go.V
namespace Go.V
def Zb1{P:Program}{d:Option Nat}{op:Op}{K:St->Prop}{σ:St}(h:∀(C:Ctx)(loc:Nat->Value)(a:Act)(w:World)(o:Oper),C.P=P->o.op=op->o.dst=d->d.all (·<C.N)=true->G C σ loc a w->∃σ',Mnd C σ' a w o/\K σ'):Zcn P d (.raw op) K σ:=by intro C loc a w o hP hc hd hdl hg;(have hop:o.op=op:=by generalize o.op=op' at hc;cases Zcd hc;rfl);subst hd;exact h C loc a w o hP hop rfl hdl hg
def Zbs{P:Program}{d:Option Nat}{op:Op}{K:St->Prop}{σ:St}{v:AV}(h:∀(C:Ctx)(loc:Nat->Value)(a:Act)(w:World)(o:Oper),C.P=P->o.op=op->G C σ loc a w->Snd C σ loc a w o v)(hK:K (σ.put d v)):Zcn P d (.raw op) K σ:=
 Zb1 fun C loc a w o hP ho hd hdl hg=>by obtain⟨u,hrun,hr⟩:=h C loc a w o hP ho hg;exact⟨_,⟨w,loc,.inl ⟨u,hrun,by rw[hd];exact hg.put hdl hr⟩⟩,hK⟩
def bcd(b:UInt8):List CD:=[.int .u8 b.toNat]
def ZGj(b:UInt8):Value:=.int .u8 b.toNat
def ZuG{w:World}{M:Cells}{s:List UInt8}{v:Value}(h:RepC w M (.sl 1 (s.map bcd)) v):∃A cap,v= .slice A s.length cap/\(s=[]\/∃ad,A=some ad/\∀j (hj:j<s.length),w.cell? (ad.add j)=some (.int .u8 (s[j].toNat:Int))):=by simp only[RepC,Yc]at h;obtain⟨A,cap,hv,_,_,hE⟩:=h;refine⟨A,cap,hv,?_⟩;rcases hE with hE|⟨ad,rfl,hE⟩;{exact .inl (by simpa using hE)};{refine .inr ⟨ad,rfl,fun j hj=>?_⟩;obtain⟨_,h2⟩:=hE.get _ ad j (by simpa using hj);rw[Yb,Y0,Yd hj]at h2;simp only[YR,YaT,bcd,RepL,RepC,Yab,Ya2]at h2;obtain⟨u,h3,_,rfl⟩:=h2;exact h3}
def ZCH{P:Program}{σ:St}{d:Option Nat}{src dst e:TypeId}{x:Operand}{x':X}{s:List UInt8}{K:St->Prop}(hs:P.underlying src=some (.slice e))(he:P.underlying e=some (.int .u8))(hd:P.underlying dst=some .string)(hx:cX x=some x')(hdg:(σ.val x').dg=true)(hv:(σ.val x').dv.vport σ.own=some (.c (.sl 1 (s.map bcd))))(hK:K (σ.put d (.c (.str s)))):Zcn P d (.raw (.convert src dst x)) K σ:=by refine Zbs (fun C loc a w o hP ho hg=>?_) hK;subst hP;have hr:=vport_rep hg (ZaJ hg hx hdg) hv;simp only[RepA]at hr;obtain⟨A,cap,hv,hc⟩:=ZuG hr;refine⟨.string ⟨s.toArray⟩,?_,by simp only[RepA,RepC]⟩;rcases hc with rfl|⟨ad,rfl,hc⟩;{have:=run_convert_bytes_string (P:=C.P) w src dst e A 0 cap hs he hd;simp only[YI]at hv;simp only[execOp,ho,hv];simp[this,Conv.bytesToString];cases A<;>simp[loadCells,loadCellsFrom]<;>rfl};{have:=run_convert_bytes_back (P:=C.P) w src dst e ad cap s hs he hd hc;simp[execOp,ho,hv,this]}
end Go.V
namespace Go.V
def ZkC(C:Ctx)(is:List Ins)(K:St->Prop)(σ:St):Prop:=
 ∀(ops:Array Oper)(k:Nat)(Q':Exit->Act->World->Prop),(∀σ a w,Gam C σ a w->K σ->Q' .normal a w)->
  (∀(j:Nat)(ins:Ins),is[j]? =some ins->∃o,ops[k+j]? =some o/\INS C.P C.N ops o ins)->∀a w,Gam C σ a w->wpOpsIn C.F 0 C.P ops Q' (List.range' k is.length) a w
section
variable{C:Ctx}{σ σ':St}{K:St->Prop}{is js:List Ins}{i:Ins}{Q:Exit->St->Prop}
def ZcE(h:ZkA C.P is K σ):ZkC C is K σ:=fun _ k _ hQ hi a w hg=>ZiI hQ is k σ a w hi hg h
def ZlK(h:∀a w,Gam C σ a w->Gam C σ' a w)(h2:ZkC C is K σ'):ZkC C is K σ:=fun ops k Q' hQ hi a w hg=>h2 ops k Q' hQ hi a w (h a w hg)
def Zos(h:∀(ops:Array Oper)(o:Oper),INS C.P C.N ops o i->∀(Q':Exit->Act->World->Prop)(K':Act->World->Prop),(∀σ' a' w',Gam C σ' a' w'->ZkC C is K σ'->K' a' w')->∀a w,Gam C σ a w->
  (if Region.wanted o (yielded ops a.tmps)=true then o.wpIn C.F 0 C.P a w K' Q' else(∀f,o.about C.P w a.eval=some f->C.F.fn f)/\K' (a.put o.dst undef) w)):ZkC C (i::is) K σ:=by
 intro ops k Q' hQ hi a w hg;obtain⟨o,ho,hins⟩:=hi 0 i rfl;simp only[Yad]at ho;have:=h ops o hins Q' (wpOpsIn C.F 0 C.P ops Q' (List.range' (k + 1) is.length)) (fun σ' a' w' hg' hs =>hs ops (k + 1) Q' hQ (fun j ins hj =>by
  have:=hi (j+1) ins (by simpa using hj);rwa [show k+(j+1)=k+1+j from by omega]at this) a' w' hg') a w hg
 simp only[Yo,YcV,wpOpsIn,ho];exact this
def Zre(h:AStep C.P i (ZkC C is K) σ):ZkC C (i::is) K σ:=Zos fun ops o hins Q' K' hK' a w hg=>ZdN hg hins h (fun σ' a' w' hg' hs=>hK' σ' a' w' hg' hs)
def ZlJ:∀{is:List Ins}{σ:St},ZkA C.P is (ZkC C js K) σ->ZkC C (is++js) K σ
 |[],σ,h=>h
 |i::is,σ,h=>Zre (ZcK (fun σ1 h1=>ZlJ h1) h)
def Zrj(h:ZkC C is (Q .normal) σ):WV C (.ops is) Q σ:=by intro c hc;obtain⟨id,ops,rfl,hi⟩:=ZlL hc;intro a w hg;refine wpIn_region ?_;have hlen:=ZfF hc;have:=h ops 0 (fun e a' w'=>∃σ',Gam C σ' a' w'/\Q e σ') (fun σ a w hg hk=>⟨σ,hg,hk⟩) (fun j ins hj=>by simpa using hi j ins hj) a w hg;rw[YbU];rwa [hlen]at this
def ZdM(n:Nat)(h:ZkA C.P (is.take n) (ZkC C (is.drop n) (Q .normal)) σ):WV C (.ops is) Q σ:=by have:=ZlJ h;rw[Yah]at this;exact Zrj this
def Zf5(b o:Nat):Value:=.pointer (some ⟨b,o,none⟩)
end
end Go.V
namespace Go.V
section
variable{α:Type}{cds:α->List CD}{R R':List (Row α)}{j m:Nat}{o:Nat->Ob}
end
end Go.V
namespace Go.V
end Go.V
namespace Go.V
structure RB where
 b:Nat
 o:Nat
 l:List UInt8
 cap:Nat
def RB.val(r:RB):Value:=.slice (some ⟨r.b,r.o,none⟩) r.l.length r.cap
def ZDM(rows:List RB)(arr:Option Value)(rem:List Ent)(L:List Nat)(w:World):Prop:=
 rem=[]/\L.Nodup/\(∃La,L=rows.map RB.b++La/\(match arr with|none=>La=[]|some v=>∃g cap rest ty,v= .slice (some ⟨g,0,none⟩) rows.length cap/\La=[g]/\AtC w g (rows.map RB.val++rest) ty/\rows.length<=cap/\cap<=maxLen/\cap<=rows.length+rest.length))/\
  ∀r∈rows,∃rest ty,AtC w r.b (r.l.map ZGj++rest) ty/\r.cap<=r.l.length+rest.length/\r.l.length<=r.cap/\r.cap<=maxLen/\(0<r.cap->r.o=0)
def gF(rows:List RB)(arr:Option Value):Gst:=⟨.bool false,fun rem L _ w=>ZDM rows arr rem L w⟩
def Zqn(rows:List RB)(arr:Option Value):Ob:=.guest (gF rows arr) []
def ZoN(L:List Nat):(Zc6 L).oneCell'=false:=rfl
section
variable{C:Ctx}{σ:St}
def G.reown{loc loc':Nat->Value}{a:Act}{w:World}{env':Nat->AV}{own':Nat->Ob}(hg:G C σ loc a w)(hp:∀n,C.pin n->loc' n=loc n)(hs:∀t,RepA w (MM C σ.own loc) loc' (env' t) (a.tmps.getD t undef))(hm:∀b o,Mut own' loc' b o->Mut σ.own loc b o)(hf:∀b,Foot own' loc' b->Foot σ.own loc b)(ho:∀n,ObOk C.P C.A w (MM C σ.own loc) loc' (loc' n) (own' n))(hd:∀n m b,n≠m->(own' n).has (loc' n) b->(own' m).has (loc' m) b->False):G C ⟨env',own'⟩ loc' a w:=by have hsub:∀b o,MM C own' loc' b o->MM C σ.own loc b o:=fun b o h=>h.elim .inl fun h=> .inr (hm b o h);have hk:Keeps w w (MM C σ.own loc) (MM C own' loc'):=Keeps.less hsub;refine⟨hg.fr,hg.m0,hg.kp.trans hk,fun x hx=>?_,hg.mnd,fun n hn=>?_,hg.size,fun t=>RepA.keep hk _ _ (hs t),fun n=>?_,hd⟩;{obtain⟨D,e1,e2,e3,e4⟩:=hg.marks x hx;exact⟨D,e1,e2,e3,fun h=>e4 (hf D h)⟩};{obtain⟨p1,p2,p3⟩:=hg.pin n hn;exact⟨p1,(hp n hn).trans p2,p3⟩};{exact(ho n).keep' hk (Yi _) (fun _ _=>rfl)}
def ZkZ{L L':List Nat}(h:Zc6 L=Zc6 L'):∀b,b∈L↔b∈L':=fun b=>by rw[<-Zan,<-Zan,h]
def ZjT{loc:Nat->Value}{a:Act}{w:World}{f:Nat}{L:List Nat}(hg:G C σ loc a w)(h:loc f=Zc6 L):¬C.pin f:=fun hp=>by obtain⟨_,h2,h3⟩:=hg.pin f hp;rw[<-h2,h]at h3;cases h3
def ZeN{w:World}{M:Cells}{loc:Nat->Value}:∀l:List Value,RepAs w M loc (List.replicate l.length .non) l
 |[]=>by simp[RepAs]
 |x::l=>by simp only[Yo,YP,RepAs,RepA];exact⟨x,l,rfl,trivial,ZeN l⟩
end
end Go.V
namespace Go.V
section
variable{C:Ctx}{σ:St}
end
end Go.V
namespace Go.V
section
variable{C:Ctx}{σ:St}
end
section
variable{C:Ctx}{σ:St}{K:St->Prop}{is:List Ins}{Q:Exit->St->Prop}
def ZAF{τ:Type}{v:VC}{S:τ->St}{p:τ->Prop}(h:∀a w,Gam C σ a w->∃x,p x/\Gam C (S x) a w)(h2:∀x,p x->WV C v Q (S x)):WV C v Q σ:=fun c hc a w hg=>by obtain⟨x,hp,hx⟩:=h a w hg;exact h2 x hp c hc a w hx
end
end Go.V
namespace Go.V
end Go.V
namespace Go.V
section
variable{α:Type}{cds:α->List CD}{R R':List (Row α)}{j m:Nat}{o:Nat->Ob}
end
end Go.V
