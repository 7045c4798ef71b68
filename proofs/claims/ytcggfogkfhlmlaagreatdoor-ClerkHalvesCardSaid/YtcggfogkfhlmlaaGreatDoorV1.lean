
import Derived.Test.YtcggfogkfhlmlaaGreatDoorV0
import Derived.MapKept
import Derived.Laws.MakeOwn
import Derived.RangeFuncCalls
set_option linter.unusedVariables false
set_option linter.defProp false
set_option linter.unusedSimpArgs false
namespace Go.V
variable{C:Ctx}{σ:St}{loc:Nat->Value}{a:Act}{w:World}
def ZmL(zs:List Value)(s:Nat)(hs:zs.length=s):∀c:Nat,(List.range (c*s)).map (fun k=>zs.getD (k % s) undef)=(List.replicate c zs).flatten
 |0=>by simp
 |c+1=>by(have hm:(c+1)*s=c*s+s:=by rw[YX];omega);rw[hm,List.range_add,Yy,ZmL zs s hs c,List.replicate_succ',List.flatten_append];congr 1;simp only[Ya0,List.flatten_singleton];refine Ybo (by simp[hs]) fun j h1 h2=>?_;simp only[Yc,Ycp]at h1;(have:(c*s+j) % s=j:=by rw[YbA,Nat.add_mul_mod_self_right,Nat.mod_eq_of_lt h1]);simp[this,h2]
def Zjv(zs:Array Value)(s c:Nat)(hs:zs.size=s)(hpos:0<s):(madeCells zs (c*s)).toList=(List.replicate c zs.toList).flatten:=by rw[<-ZmL zs.toList s (by simpa using hs) c];subst hs;simp only[madeCells,YbX,Array.toList_range];refine Yal fun k hk=>?_;have hlt:k % zs.size<zs.size:=Nat.mod_lt _ hpos;simp[hlt,getElem!_pos]
def Zg5{M:Cells}{z:List AV}{l:List Value}(h:RepAs w M loc z l):∀c:Nat,RepAs w M loc (List.replicate c z).flatten (List.replicate c l).flatten
 |0=>by simp[RepAs]
 |c+1=>by simpa [YP]using h.append (Zg5 h c)
def ZyL(hg:G C σ loc a w){o:Oper}{t e:TypeId}{x y:Operand}{i:TypeInfo}{z:List AV}{x' y':X}{q:Prop}{σ':St}(ho:o.op= .makeSlice t x y){d:Nat}(hod:o.dst=some d)(hd:d<C.N)(ht:C.P.underlying t=some (.slice e))(hi:C.P.info? e=some i)(hz:zeroB C.P e=some z)(hpos:0<i.size)(hzl:z.length=i.size)(hx:cX x=some x')(hy:cX y=some y')(hm:mev σ (some d) (.mks e i.size i.bytes z x' y')=some (q,σ'))(hq:q):Mnd C σ' a w o:=by simp only[mev]at hm;split at hm;{rename_i kl l kc c ex ey;replace ex:=ZaP ex;replace ey:=ZaP ey;simp only[Ya,Yj]at hm;obtain⟨rfl,rfl⟩:=hm;obtain⟨hn,h1,h2,h3,h4,h5,h6⟩:=hq;have rx:=ZaJ hg hx h1;have ry:=ZaJ hg hy h2;rw[ex]at rx;rw[ey]at ry;simp only[RepA,RepC]at rx ry;obtain⟨it,zv,hit,hzv,hone,hzeq⟩:=ZcR hz;rw[hi]at hit;cases hit;have hcn:(c.toNat:Int)=c:=Ybi Kc;(have h6':c<=9223372036854775807:=by simp only[maxLen]at h6;omega);(have h5':(i.bytes:Int)*c<=281474976710656:=by rw[<-hcn,<-Int.natCast_mul];omega);have hrun:=run_make (P:=C.P) w t e i zv ht hi hzv kl kc l c h3 h4 h5' h6';(have hzs:zv.cells.size=i.size:=by rw[<-hzl,hzeq];simp);refine⟨w.alloc (.cells (madeCells zv.cells (c.toNat*i.size)) e),upd loc d (.pointer (some ⟨w.heap.size,0,none⟩)),.inl ⟨.slice (some ⟨w.heap.size,0,none⟩) l.toNat c.toNat,?_,?_⟩⟩;{simp[execOp,ho,rx,ry,hrun]};{rw[hod];refine hg.newblock hd hn (v:=.pointer (some ⟨w.heap.size,0,none⟩)) (fun b hb=>hb.symm) (fun M loc' hk hl hv=>?_) (fun M loc' hv=>?_);{refine⟨w.heap.size,(List.replicate c.toNat zv.cells.toList).flatten,(e,(0,0)),rfl,.inl hg.fr.size,AtC.of ?_,?_⟩;{rw[Zbv,<-Zjv zv.cells i.size c.toNat hzs hpos]};{have h0:=Zbo (w.alloc (.cells (madeCells zv.cells (c.toNat*i.size)) e)) M loc zv.cells.toList hone;rw[<-hzeq]at h0;exact(Zg5 h0 c.toNat).prg (n:=d) hl}};{simp only[RepA];exact⟨_,0,hv,rfl,fun _=>rfl,Kc,h6⟩}}};{cases hm}
def Zd7{P:Program}(w:World)(t ty e:TypeId)(e':TypeId×(Nat×Nat))(i:TypeInfo)(ht:P.underlying t=some (.slice e))(hi:P.info? e=some i)(g sLen sCap:Nat)(cur:List Value)(hg:AtC w g cur e')(a:Addr)(m c:Nat)(news:List Value)(hl:news.length=m*i.size)(hnews:∀j u,news[j]? =some u->w.cell? (a.add j)=some u)(h1:∀u∈news,u.oneCell'=true)(hroom:sLen+m<=sCap)(hfit:sLen*i.size+news.length<=cur.length):
  (Builtin.append_ #[t,t] ty #[.slice (some ⟨g,0,none⟩) sLen sCap,.slice (some a) m c]).run P w=
   .ok (.slice (some ⟨g,0,none⟩) (sLen+m) sCap) (w.setRow g (cur.take (sLen*i.size)++news++cur.drop (sLen*i.size+news.length)).toArray):=by have hf:=run_firstCells_some (P:=P) w i.size m a m c news hl hnews;have hst:=Zdm P g (sLen*i.size) e' news 0 cur w hg (by simpa using hfit) h1;simp only[Yad]at hst;simp[Builtin.append_,run_underlying ht,sizeOf,typeInfo,hi,Builtin.lenOf,hroom,hf,Addr.add_lit,hst]
def ZyP(hg:G C σ loc a w){o:Oper}{t e:TypeId}{s x:Operand}{i:TypeInfo}{s' x':X}{q:Prop}{σ':St}(ho:o.op= .call {callee:=.builtin .append,args:=#[s,x],argTypes:=#[t,t]}){d:Nat}(hod:o.dst=some d)(hd:d<C.N)(ht:C.P.underlying t=some (.slice e))(hi:C.P.info? e=some i)(hpos:0<i.size)(hs:cX s=some s')(hx:cX x=some x')(hm:mvw σ (some d) (.app e i.size i.bytes s' x')=some (q,σ'))(hq:q):Mnd C σ' a w o:=by simp only[mvw]at hm;split at hm;{rename_i sz n off len cap ys es ex;split at hm;{rename_i cs hown;split at hm;{rename_i hsz;subst hsz;simp only[Ya,Yj]at hm;obtain⟨rfl,rfl⟩:=hm;obtain⟨q1,q2,rfl,q3,q4,q5,q6⟩:=hq;have rs:=ZaJ hg hs q1;rw[es]at rs;simp only[RepA]at rs;obtain⟨b,o',hloc,hsv,hoff,hlc,hcm⟩:=rs;have ho0:o'=0:=hoff Kc;subst ho0;obtain⟨szx,hrx⟩:=hg.elems (ZaJ hg hx q2) ex;simp only[RepC]at hrx;obtain⟨A,capx,hxv,hxc,_,hxe⟩:=hrx;rcases hxe with rfl|⟨ad,rfl,hE⟩;{simp at q5};obtain⟨news,k1,k2,k3,k4⟩:=hE.vals (loc:=loc);(have hszx:szx=i.size:=by(cases ys with|nil=>simp at q5|cons y ys=>have:=k4 y Kd;simp at q3;omega));subst hszx;have hob:=hg.objs n;rw[hown]at hob;obtain⟨b',l,e',hlb,hA,hh,hrs⟩:=hob;rw[hloc]at hlb;simp only[Value.pointer.injEq,Ya,Addr.mk.injEq,Ya2]at hlb;subst hlb;have hll:=hrs.length;(have hfit:len*i.size+news.length<=l.length:=by rw[k1,hll,<-YX];exact q6);have hrun:=Zd7 (P:=C.P) w t o.type e e' i ht hi b len cap l hh ad ys.length capx news k1 k2 (Zfp k3) q4 (by simpa using hfit);(have hrow:(l.take (len*i.size)++news++l.drop (len*i.size+news.length)).toArray=(splice l (len*i.size) news).toArray:=by simp[splice]);rw[hrow]at hrun;have hlk:=k3.length;have hset:ZmT cs (len*i.size) (ys.flatten.map AV.c)=splice cs (len*i.size) (ys.flatten.map AV.c):=Zpv _ _ _ Kc;rw[hset];have hgb:=hg.setBox (off:=len*i.size) hown hloc hA hh hfit hrs k3;refine⟨w.setRow b (splice l (len*i.size) news).toArray,loc,.inl ⟨.slice (some ⟨b,0,none⟩) (len+ys.length) cap,?_,?_⟩⟩;{simp[execOp,ho,resolve,invoke,builtin,hsv,hxv,hrun]};{rw[hod];refine hgb.put (d:=some d) (by simpa using hd) ?_;simp only[RepA];exact⟨b,0,hloc,rfl,fun _=>rfl,q4,hcm⟩}};{cases hm}};{cases hm}};{cases hm}
def ZyQ(hg:G C σ loc a w){o:Oper}{t:TypeId}{kk ek:IntKind}{d:Nat}(ho:o.op= .makeMap t none)(hod:o.dst=some d)(hd:d<C.N)(hn:(σ.own d).isNone=true):
  Mnd C (σ.new d (.gr d) (.mp kk ek [])) a w o:=by refine⟨w.alloc (.map #[] 0),upd loc d (.map (some w.heap.size)),.inl ⟨.map (some w.heap.size),?_,?_⟩⟩;{have h1:(Instr.makeMap t none).run C.P w= .ok (.map (some w.heap.size)) (w.alloc (.map #[] 0)):=rfl;simp[execOp,ho,h1]};{rw[hod];refine hg.newblock hd hn (fun b hb=>hb.symm) (fun M loc' hk hl hv=>?_) (fun M loc' hv=>?_);{exact⟨w.heap.size,#[],0,rfl,.inl hg.fr.size,by rw[Zbv],rfl⟩};{simp only[RepA];exact⟨hv.symm,rfl⟩}}
def ZcW(w:World)(b:Nat)(o:Obj)(p:Addr)(h:p.block≠b):({w with heap:=w.heap.setIfInBounds b o}:World).cell? p=w.cell? p:=by simp[World.cell?,Ya1,Ycz h]
def G.setMp(hg:G C σ loc a w){n b:Nat}{kk ek:IntKind}{l l':List (Int×Int)}{es es':Array MapEntry}{clock clock':Nat}(hown:σ.own n= .mp kk ek l)(hloc:loc n= .map (some b))(hB:C.A b)(hh:w.heap[b]? =some (.map es clock))(hes:es'.toList.map (fun e=>(e.key,e.val))=l'.map fun p=>(Value.int kk p.1,Value.int ek p.2)):
  G C ⟨σ.env,upd σ.own n (.mp kk ek l')⟩ loc a {w with heap:=w.heap.setIfInBounds b (.map es' clock')}:=by
 have hnb:(σ.own n).has (loc n) b:=by rw[hown,hloc];rfl
 have hset:=MapKept.heap_set (o':=.map es' clock') hh;have hk:Keeps w {w with heap:=w.heap.setIfInBounds b (.map es' clock')} (MM C σ.own loc) (MM C (upd σ.own n (.mp kk ek l')) loc):=by
  refine⟨fun p hp hm=>ZcW w b _ p (fun hpb=>hm (.inr ⟨n,?_⟩)),fun p hp hm hm'=>?_⟩
  ·rw[hown,hloc];simpa [Ob.mut]using hpb.symm
  ·rcases hm' with h0|⟨m,h0⟩
   ·exact hm (.inl h0)
   ·by_cases hmn:m=n
    ·subst hmn;simp only[upd,YJ]at h0;rw[hloc]at h0;exact hm (.inr ⟨m,by rw[hown,hloc];exact h0⟩)
    ·simp only[upd,hmn,YA]at h0;exact hm (.inr ⟨m,h0⟩)
 have hsz:w.heap.size<=({w with heap:=w.heap.setIfInBounds b (.map es' clock')}:World).heap.size:=by simp
 have hne:∀(k b2:Nat),(upd σ.own n (.mp kk ek l') k).has (loc k) b2↔(σ.own k).has (loc k) b2:=by
  intro k b2;by_cases hkn:k=n
  ·subst hkn;simp only[upd,YJ];rw[hown,hloc];exact YaK
  ·simp only[upd,hkn,YA]
 have hfr:Fr C { w with heap:=w.heap.setIfInBounds b (.map es' clock') }:=⟨hg.fr.os,hg.fr.tape,hg.fr.output,by have:=hg.fr.size; simpa using this,fun k hk hx =>by
  rw[hset.2 k (by rintro rfl;rcases hB with h'|h';omega;exact hx h')];exact hg.fr.block k hk hx⟩
 refine⟨hfr,hg.m0,hg.kp.trans hk,fun x hx=>?_,hg.mnd,hg.pin,hg.size,fun t=>RepA.keep hk _ _ (hg.slots t),fun m=>?_,fun m k b2 hmk hm hk2=>?_⟩
 ·obtain⟨D,e1,e2,e3,e4⟩:=hg.marks x hx;refine⟨D,e1,e2,?_,fun⟨k,hk⟩=>e4 ⟨k,(hne k D).1 hk⟩⟩;rw[hset.2 D (by rintro rfl;rw[hh]at e3;cases e3)];exact e3
 ·by_cases hmn:m=n
  ·subst hmn;simp only[upd,YJ];exact⟨b,es',clock',hloc,hB,hset.1,hes⟩
  ·simp only[upd,hmn,YA];exact ObOk.keep' hk hsz (fun b2 hb2=>hset.2 b2 (fun hbb=>hg.disj m n b hmn (hbb▸hb2) hnb)) (hg.objs m)
 ·exact hg.disj m k b2 hmk ((hne m b2).1 hm) ((hne k b2).1 hk2)
def ZvK(hg:G C σ loc a w){o:Oper}{t k e:TypeId}{kk ek:IntKind}{x i v:Operand}{x' i' v':X}{q:Prop}{σ':St}(ho:o.op= .mapUpdate t x i v)(hod:o.dst=none)(ht:C.P.underlying t=some (.map k e))(hk:C.P.underlying k=some (.int kk))(hx:cX x=some x')(hi:cX i=some i')(hv:cX v=some v')(hm:mvw σ none (.mput kk ek x' i' v')=some (q,σ'))(hq:q):Mnd C σ' a w o:=by
 simp only[mvw]at hm;split at hm
 ·rename_i n k' j k'' y ex ei ev;replace ei:=ZaP ei;replace ev:=ZaP ev;split at hm
  ·rename_i kk' ek' l hown;split at hm
   ·rename_i hc;obtain⟨rfl,rfl,rfl,rfl⟩:=hc;simp only[Ya,Yj]at hm;obtain⟨rfl,rfl⟩:=hm;obtain⟨h1,h2,h3⟩:=hq;have rx:=ZaJ hg hx h1;have ri:=ZaJ hg hi h2;have rv:=ZaJ hg hv h3;rw[ex]at rx;rw[ei]at ri;rw[ev]at rv;simp only[RepA,RepC]at rx ri rv;have hob:=hg.objs n;rw[hown]at hob;obtain⟨b,es,clock,hloc,hA,hb,hes⟩:=hob;rw[hloc]at rx;have hkey:MapKept.IsKey (.int k') (.int k' j):=by simp[MapKept.IsKey]
    have hrun:∃es' clock',(Instr.mapUpdate t (.map (some b)) (.int k' j) (.int k'' y)).run C.P w= .ok () {w with heap:=w.heap.setIfInBounds b (.map es' clock')} /\
      es'.toList.map (fun e=>(e.key,e.val))=(mput l j y).map fun p=>(Value.int k' p.1,Value.int k'' p.2):=by
     rcases Zem j es.toList l 0 hes with⟨k1,_,k3⟩|⟨m,e',k1,k2,k3,k4⟩
     ·refine⟨es.push {key:=.int k' j,val:=.int k'' y,born:=clock},clock+1,?_,?_⟩
      ·simp[Instr.mapUpdate,run_underlying ht,MapKept.run_getObj_map hb,ZfL hk,MapKept.run_findKey hk k1,MapKept.run_setObj_map _ hb]
      ·rw[k3,Ycn,Yy,Yy,hes];rfl
     ·have hj:es[m]? =some e':=by simpa using k2
      have hml:m<es.toList.length:=(Ym.1 k2).1;refine⟨es.modify m fun e=> {e with key:=.int k' j,val:=.int k'' y},clock,?_,?_⟩
      ·simp[Instr.mapUpdate,run_underlying ht,MapKept.run_getObj_map hb,ZfL hk,MapKept.run_findKey hk k1,hj,k3,MapKept.run_keyThatStays hkey,MapKept.run_setObj_map _ hb]
      ·rw[k4,Yc7,<-hes];refine Yba fun q=>?_
       rw[Y0,Y5];have e1:(es.modify m fun e=> {e with key:=Value.int k' j,val:=Value.int k'' y}).toList[q]? =if m=q then(es.toList[q]?).map (fun e=> {e with key:=Value.int k' j,val:=Value.int k'' y})else es.toList[q]?:=by
        rw[Yay,Array.getElem?_modify,Yay]
       rw[e1];by_cases hmq:m=q
       ·subst hmq;rw[Yt rfl,Yt rfl,Yt (by simpa using hml),k2];rfl
       ·rw[Yx hmq,Yx hmq,Y0]
    obtain⟨es',clock',hr1,hr2⟩:=hrun;refine⟨{w with heap:=w.heap.setIfInBounds b (.map es' clock')},loc,.inr ⟨?_,?_⟩⟩;{simp[execOp,ho,rx.1,ri,rv,hr1]};{rw[hod];exact hg.setMp hown hloc hA hb hr2}
   ·cases hm
  ·cases hm
 ·cases hm
def Zm4(hg:G C σ loc a w){x:AV}{v:Value}{sz k:Nat}{ys:List AV}{p:Prop}(hr:RepA w (MM C σ.own loc) loc x v)(h:x.vcells σ.own sz=some (k,ys,p))(hp:p)(hk:k≠0):
  ∃ad cap news,v= .slice (some ad) k cap/\news.length=k*sz/\(∀j u,news[j]? =some u->w.cell? (ad.add j)=some u)/\RepAs w (MM C σ.own loc) loc ys news/\∀u∈news,u.oneCell'=true:=by
 have data:∀es:List (List CD),es.length≠0->(es.all fun e=>e.length==sz)=true->(∃sz',RepC w (MM C σ.own loc) (.sl sz' es) v)->
   ∃ad cap news,v= .slice (some ad) es.length cap/\news.length=es.length*sz/\(∀j u,news[j]? =some u->w.cell? (ad.add j)=some u)/\RepAs w (MM C σ.own loc) loc (es.flatten.map .c) news/\∀u∈news,u.oneCell'=true:=by
  rintro es h0 hsz ⟨sz',hrx⟩;simp only[RepC]at hrx;obtain⟨A,cap,hxv,_,_,hxe⟩:=hrx;rcases hxe with rfl|⟨ad,rfl,hE⟩
  ·simp at h0
  ·obtain⟨news,k1,k2,k3,k4⟩:=hE.vals (loc:=loc);have hsz':sz'=sz:=by
    cases es with
    |nil=>simp at h0
    |cons y es=>
     have:=k4 y Kd;simp at hsz;omega
   subst hsz';exact⟨ad,cap,news,hxv,k1,k2,k3,Zfp k3⟩
 unfold AV.vcells at h;split at h;{simp only[Ya,Yj]at h;obtain⟨rfl,rfl,rfl⟩:=h;exact data _ hk hp (hg.elems hr rfl)};{rename_i n;split at h;{rename_i e sz' es ho;simp only[Ya,Yj]at h;obtain⟨rfl,rfl,rfl⟩:=h;exact data _ hk hp (hg.elems hr (by simp[AV.elems,ho]))};{cases h}};{rename_i sz' n off len cap;split at h;{rename_i cs hown;simp only[Ya,Yj]at h;obtain⟨rfl,rfl,rfl⟩:=h;obtain⟨rfl,hfit,hone⟩:=hp;simp only[RepA]at hr;obtain⟨b,o,hloc,rfl,hoff,hlc,hcm⟩:=hr;have ho:o=off:=hoff Kc;subst ho;have hob:=hg.objs n;rw[hown]at hob;obtain⟨b',l,e',hlb,hA,hh,hrs⟩:=hob;rw[hloc]at hlb;simp only[Value.pointer.injEq,Ya,Addr.mk.injEq,Ya2]at hlb;subst hlb;have hrd:=(hrs.drop o).take (len*sz');refine⟨⟨b,o,none⟩,cap,(l.drop o).take (len*sz'),rfl,?_,fun j u hj=>?_,hrd,hrd.ones hone⟩;{have:=hrd.length;simp only[Y4,Yac]at this|-;have hll:=hrs.length;omega};{rw[Y6]at hj;split at hj;{rw[Yaf]at hj;(have e1:(⟨b,o,none⟩:Addr).add j=⟨b,o+j,none⟩:=by unfold Addr.add;split<;>simp_all);rw[e1,cell_bp hh,hj]};{cases hj}}};{cases h}};{cases h}
structure AppRun(C:Ctx)(σ:St)(loc:Nat->Value)(a:Act)(w:World)(o:Oper)(n:Option Nat)(m sz:Nat)(cells:List AV)(g:Nat)(w':World)(cap:Nat)(cur:List Value)(e':TypeId×(Nat×Nat))(xs:List Value):Prop where
 run:(execOp a.eval o).run C.P w= .ok (.value (.slice (some ⟨g,0,none⟩) m cap)) w'
 at_:AtC w' g cur e'
 hcap:m<=cap/\cap<=maxLen
 size:cap*sz<=cur.length
 head:cur.take (m*sz)=xs
 len:xs.length=m*sz
 rep:RepAs w (MM C σ.own loc) loc cells xs
 fx:Fx w w' (fun b=>∃k,n=some k/\(σ.own k).has (loc k) b)
 where_:g=w.heap.size\/∃k,n=some k/\(σ.own k).has (loc k) g
 own:∀k b,n=some k->(σ.own k).has (loc k) b->C.A b
 all:∀k b off,n=some k->(σ.own k).has (loc k) b->Mut σ.own loc b off
 mark:∀k b,n=some k->(σ.own k).has (loc k) b->w.heap[b]?≠some markO
def Zt9{m cap sz:Nat}{cur:List Value}{xs:List Value}{cells:List AV}{M:Cells}(hcap:m<=cap)(hsz:cap*sz<=cur.length)(hh:cur.take (m*sz)=xs)(hr:RepAs w M loc cells xs):
  ∃j,cap*sz<=m*sz+j/\RepAs w M loc (cells++List.replicate j .non) cur:=by have hle:m*sz<=cap*sz:=Y2 _ hcap;(have hnon:∀l:List Value,RepAs w M loc (List.replicate l.length .non) l:=by(intro l;induction l with|nil=>simp[RepAs]|cons x l ih=>simp only[Yo,YP,RepAs,RepA];exact⟨x,l,rfl,trivial,ih⟩));refine⟨cur.length -m*sz,Kc,?_⟩;have h2:=hr.append (hnon (cur.drop (m*sz)));(have e1:(cur.drop (m*sz)).length=cur.length -m*sz:=by simp);rw[e1,<-hh,Yah]at h2;exact h2
def ZuB(hg:G C σ loc a w){o:Oper}{n:Option Nat}{m sz d:Nat}{cells:List AV}{g:Nat}{w':World}{cap:Nat}{cur:List Value}{e':TypeId×(Nat×Nat)}{xs:List Value}(hod:o.dst=some d)(hd:d<C.N)(hn:(rmv σ.own n d).isNone=true)(h:AppRun C σ loc a w o n m sz cells g w' cap cur e' xs):
  ∃j,cap*sz<=m*sz+j/\Mnd C (St.new ⟨σ.env,rmv σ.own n⟩ d (.vw sz d 0 m cap) (.box (cells++List.replicate j .non))) a w o:=by
 obtain⟨j,hj,hrj⟩:=Zt9 h.hcap.1 h.size h.head h.rep;refine⟨j,hj,w',upd loc d (.pointer (some ⟨g,0,none⟩)),.inl ⟨_,h.run,?_⟩⟩;rw[hod];have h1:∀k,rmv σ.own n k=σ.own k\/rmv σ.own n k= .none:=by
  intro k;cases n with
  |none=>exact .inl rfl
  |some q=>
   simp only[rmv,upd];split
   ·exact .inr rfl
   ·exact .inl rfl
 have h1d:rmv σ.own n d= .none:=by cases hx:rmv σ.own n d<;>simp_all [Ob.isNone]
 have hrm:∀k b,(rmv σ.own n k).has (loc k) b->(σ.own k).has (loc k) b/\∀q,n=some q->k≠q:=by
  intro k b hb;cases n with
  |none=>exact⟨hb,fun q hq=>by cases hq⟩
  |some q=>
   simp only[rmv,upd]at hb;split at hb
   ·exact(Ob.has_none _ _ hb).elim
   ·rename_i hne;exact⟨hb,fun q' hq'=>by cases hq';exact hne⟩
 have hout:∀k b,(rmv σ.own n k).has (loc k) b->¬∃q,n=some q/\(σ.own q).has (loc q) b:=by
  rintro k b hb ⟨q,hq,hb'⟩;exact hg.disj k q b ((hrm k b hb).2 q hq) (hrm k b hb).1 hb'
 have hBs:=hg.fr.size;have hA:C.A g:=by
  rcases h.where_ with rfl|⟨k,hk,hb⟩
  ·exact .inl hBs
  ·exact h.own k g hk hb
 have hfr:Fr C w':=⟨h.fx.os.trans hg.fr.os,h.fx.tape.trans hg.fr.tape,h.fx.output.trans hg.fr.output,YaP hBs h.fx.size,fun k hk hx => (h.fx.block k (YaR hk hBs) (by
  rintro⟨q,hq,hb⟩;rcases h.own q k hq hb with h'|h'
  ·omega
  ·exact hx h')).trans (hg.fr.block k hk hx)⟩
 have hk:Keeps w w' (MM C σ.own loc) (MM C (upd (ZbE d (rmv σ.own n)) d ((Ob.box (cells++List.replicate j .non)).prg d)) (upd loc d (.pointer (some ⟨g,0,none⟩)))):=by
  refine⟨fun p hp hm=>World.cell?_of_block (h.fx.block _ (Zbx hp) ?_),fun p hp hm hm'=>?_⟩
  ·rintro⟨q,hq,hb⟩;exact hm (.inr (h.all q _ _ hq hb))
  ·have hlt:=Zbx hp;rcases hm' with h0|⟨k,h0⟩
   ·exact hm (.inl h0)
   ·by_cases hkd:k=d
    ·subst hkd;simp only[upd,YJ,Ob.mut_prg]at h0;have hgb:g=p.block:=h0;rcases h.where_ with h2|⟨q,hq,hb⟩
     ·omega
     ·exact hm (.inr (h.all q _ _ hq (hgb▸hb)))
    ·simp only[upd,hkd,YA,ZbE,Ob.mut_prg]at h0;rcases h1 k with h'|h'
     ·rw[h']at h0;exact hm (.inr ⟨k,h0⟩)
     ·rw[h']at h0;exact(Ob.has_none _ _ (Ob.has_of_mut h0)).elim
 have hl:∀k,k≠d->upd loc d (.pointer (some ⟨g,0,none⟩)) k=loc k:=fun k hk=>by simp[upd,hk]
 refine G.fresh hg hd h1 h1d hfr h.fx.size hk (fun k b hb=>?_) ?_ (fun k b hkd hb hk2=>?_) (fun D hD=>?_) (fun b hb=>?_) ?_
 ·exact h.fx.block b ((hg.objs k).lt (hrm k b hb).1) (hout k b hb)
 ·exact⟨g,cur,e',rfl,hA,h.at_,RepAs.keep hk _ _ (hrj.prg hl)⟩
 ·have hgb:g=b:=hb;subst hgb;rcases h.where_ with h2|h2
  ·have:=(hg.objs k).lt (hrm k g hk2).1;omega
  ·exact hout k g hk2 h2
 ·refine h.fx.block D (YK.1 hD).1 ?_;rintro⟨q,hq,hb⟩;exact h.mark q D hq hb hD
 ·have hgb:g=b:=hb;subst hgb;rcases h.where_ with h2|⟨q,_,hq⟩
  ·exact .inl Kc
  ·exact .inr ⟨q,hq⟩
 ·simp only[RepA];exact⟨g,0,by simp[upd],rfl,fun _=>rfl,h.hcap.1,h.hcap.2⟩
def ZuC(hg:G C σ loc a w){o:Oper}{t e:TypeId}{s x:Operand}{i:TypeInfo}{z:Value}{s' x':X}{n:Option Nat}{len k:Nat}{cs ys:List AV}{q p:Prop}(ho:o.op= .call {callee:=.builtin .append,args:=#[s,x],argTypes:=#[t,t]})(ht:C.P.underlying t=some (.slice e))(hi:C.P.info? e=some i)(hz:i.zero=some z)(hzs:z.cells.size=i.size)(hpos:0<i.size)(hs:cX s=some s')(hx:cX x=some x')(hsd:(σ.val s').dg=true)(hxd:(σ.val x').dg=true)(hvb:(σ.val s').dv.vbase σ.own e i.size=some (n,len,cs,q))(hvc:(σ.val x').dv.vcells σ.own i.size=some (k,ys,p))(hq:q)(hp:p)(h63:len+k<=maxLen)(hbytes:(len+k)*i.bytes<=140737488355328)(hk:k≠0):
  ∃g w' cap cur e' xs,AppRun C σ loc a w o n (len+k) i.size (cs++ys) g w' cap cur e' xs:=by
 obtain⟨ad,capx,news,hxv,k1,k2,k3,k4⟩:=Zm4 hg (ZaJ hg hx hxd) hvc hp hk;have hrs:=ZaJ hg hs hsd;have h63':((len+k:Nat):Int)<=9223372036854775807:=by simp only[maxLen]at h63;omega
 have hexec:∀v v' w',a.eval s=v->(Builtin.append_ #[t,t] o.type #[v,.slice (some ad) k capx]).run C.P w= .ok v' w'->(execOp a.eval o).run C.P w= .ok (.value v') w':=fun v v' w' hv hr=>by
  simp[execOp,ho,resolve,invoke,builtin,hv,hxv,hr]
 have empty:∀v,a.eval s=v->w.ownsRow 0 e i.size v 0 []->cs=[]->len=0->(∀b,v.ownBlock=some b↔∃k,n=some k/\(σ.own k).has (loc k) b)->(∀k b,n=some k->(σ.own k).has (loc k) b->C.A b)->
   (∀k b off,n=some k->(σ.own k).has (loc k) b->Mut σ.own loc b off)->∃g w' cap cur e' xs,AppRun C σ loc a w o n (len+k) i.size (cs++ys) g w' cap cur e' xs:=by
  rintro v hv hown rfl rfl hob hA hmut;obtain⟨v',w',r1,r2,r3,r4⟩:=Zfb (P:=C.P) 0 t o.type e i z ht hi hz hzs hpos v 0 [] hown ad k capx news k1 k2 k4 h63 hbytes (YC _);simp only[YM]at r2;obtain⟨r21,r22⟩:=r2;rcases r22 with⟨_,h0⟩|⟨g,cap,cur,rfl,_,hh,hnc,hcm,hcs,htake⟩
  ·omega
  ·refine⟨g,w',cap,cur.toList,(e,(0,0)),news,hexec v _ w' hv r1,AtC.of' hh,⟨hnc,hcm⟩,by rw[Ya9];omega,htake,r21,by simpa using k3,⟨r3.os,r3.tape,r3.output,r3.size,fun b hb hn=>r3.block b hb (fun h=>hn ((hob b).1 h.symm))⟩,?_,hA,hmut,fun q b hq hb hD=>?_⟩
   ·rcases r4 with h|⟨h,_⟩
    ·exact .inr ((hob g).1 (h.symm.trans rfl))
    ·simp[Value.ownBlock]at h;exact .inl h
   ·have:=(hob b).2 ⟨q,hq,hb⟩;rcases hown.2 with⟨rfl,_⟩|⟨g0,cap0,cur0,rfl,_,hh0,_⟩
    ·simp[Value.ownBlock]at this
    ·simp[Value.ownBlock]at this;subst this;rw[hh0]at hD;cases hD
 unfold AV.vbase at hvb;split at hvb
 ·rename_i es;simp only[Ya,Yj]at hvb;obtain⟨rfl,rfl,rfl,rfl⟩:=hvb;rw[es]at hrs;simp only[RepA,RepC]at hrs;exact empty _ rfl ⟨Kd,.inl ⟨hrs.1,rfl⟩⟩ rfl rfl (fun b=>⟨fun h=>by rw[hrs.1]at h;simp[Value.ownBlock]at h,fun⟨k,h,_⟩=>by cases h⟩) (fun k b h=>by cases h) (fun k b off h=>by cases h)
 ·rename_i m es;split at hvb
  ·rename_i e0 sz0 hown;simp only[Ya,Yj]at hvb;obtain⟨rfl,rfl,rfl,rfl⟩:=hvb;obtain⟨rfl,rfl⟩:=hq;rw[es]at hrs;simp only[RepA]at hrs;have hob:=hg.objs m;rw[hown]at hob;obtain⟨xs,g1,g2,g3,g4⟩:=hob;have hxs:xs=[]:=YE (by simpa using g1.1);subst hxs;refine empty _ rfl (by rw[hrs.1];exact g1) rfl rfl (fun b=>?_) (fun k b h hb=>?_) (fun k b off h hb=>?_)
   ·rw[hrs.1,<-Ob.has_own (e:=e0) (sz:=i.size) (es:=[]),<-hown];exact⟨fun h=>⟨m,rfl,h⟩,fun⟨k,h,h'⟩=>by cases h;exact h'⟩
   ·cases h;rw[hown]at hb;exact g2 b (Ob.has_own.1 hb)
   ·cases h;refine⟨m,?_⟩;rw[hown]at hb|-;have hb':=Ob.has_own.1 hb;cases hv:loc m<;>rw[hv]at hb'<;>simp only[Value.ownBlock,reduceCtorEq]at hb'
    rename_i A' _ _;cases A'<;>simp only[Ycj,YR,reduceCtorEq,Ya]at hb'
    exact⟨hb',Kd⟩
  ·cases hvb
 ·rename_i sz' m off len0 cap es;split at hvb
  ·rename_i cells hown;simp only[Ya,Yj]at hvb;obtain⟨rfl,rfl,rfl,rfl⟩:=hvb;obtain⟨rfl,rfl,hcapl⟩:=hq;rw[es]at hrs;simp only[RepA]at hrs;obtain⟨b,o',hloc,hsv,hoff,hlc,hcm⟩:=hrs;have hob:=hg.objs m;rw[hown]at hob;obtain⟨b',l,e',hlb,hA,hh,hrl⟩:=hob;rw[hloc]at hlb;simp only[Value.pointer.injEq,Ya,Addr.mk.injEq,Ya2]at hlb;subst hlb;have hll:=hrl.length;have hhas:∀b2,(σ.own m).has (loc m) b2↔b=b2:=fun b2=>by rw[hown,hloc];exact YaK
   have hA':∀k b2,some m=some k->(σ.own k).has (loc k) b2->C.A b2:=fun k b2 h hb=>by cases h;rw[hhas]at hb;subst hb;exact hA
   have hmut':∀k b2 off,some m=some k->(σ.own k).has (loc k) b2->Mut σ.own loc b2 off:=fun k b2 off h hb=>by
    cases h;refine⟨m,?_⟩;rw[hhas]at hb;rw[hown,hloc];exact hb
   have hmark':∀k b2,some m=some k->(σ.own k).has (loc k) b2->w.heap[b2]?≠some markO:=fun k b2 h hb hD=>by
    cases h;rw[hhas]at hb;subst hb;rw[hh.1]at hD;cases hD
   have hcut:=hrl.take (len0*i.size);have hle1:len0*i.size<=cap*i.size:=Y2 _ hlc;by_cases hroom:len0+k<=cap
   ·have ho':o'=0:=hoff Kc;subst ho';have hle2:(len0+k)*i.size<=cap*i.size:=Y2 _ hroom;have hsum:(len0+k)*i.size=len0*i.size+k*i.size:=YX _ _ _;have hrun:=Zd7 (P:=C.P) w t o.type e e' i ht hi b len0 cap l hh ad k capx news k1 k2 k4 hroom Kc;have hrow:(l.take (len0*i.size)++news++l.drop (len0*i.size+news.length)).toArray=(splice l (len0*i.size) news).toArray:=by simp[splice]
    rw[hrow]at hrun;have hsl:(splice l (len0*i.size) news).length=l.length:=by simp[splice];omega
    have htk:(splice l (len0*i.size) news).take ((len0+k)*i.size)=l.take (len0*i.size)++news:=by
     unfold splice;rw[<-YO,YaD (by simp;omega),YG (by simp;omega)]
    refine⟨b,_,cap,_,e',_,hexec _ _ _ hsv hrun,hh.set hsl,⟨hroom,hcm⟩,by rw[hsl];omega,htk,by simp;omega,hcut.append k3,⟨rfl,rfl,rfl,Kd,fun b2 hb2 hn2=>setRow_other w b b2 _ (by rintro rfl;exact hn2 ⟨m,rfl,(hhas _).2 rfl⟩)⟩,.inr ⟨m,rfl,(hhas _).2 rfl⟩,hA',hmut',hmark'⟩
   ·have hmlen:(l.take (len0*i.size)).length=len0*i.size:=by simp;omega
    have hrun:=run_append_grow (P:=C.P) w t o.type e i z ht hi hz ⟨b,o',none⟩ len0 cap (l.take (len0 * i.size)) hmlen (fun j u hj =>by
     by_cases h0:cap=0
     ·have:len0=0:=by omega
      subst this;simp at hj
     ·have ho':o'=0:=hoff Kc;subst ho';rw[Y6]at hj;split at hj
      ·have e1:(⟨b,0,none⟩:Addr).add j=⟨b,j,none⟩:=by unfold Addr.add;split<;>simp_all
       rw[e1,cell_bp hh,hj]
      ·cases hj) ad k capx news k1 k2 Kc h63' (growslice_fits Kc hbytes)
    have hge:=grownCap_ge w (len0+k) cap e;have hgm:=grownCap_le_maxLen w (len0+k) cap e h63;have hsum:(len0+k)*i.size=len0*i.size+k*i.size:=YX _ _ _;refine⟨w.heap.size,_,_,_,(e,(0,0)),l.take (len0*i.size)++news,hexec _ _ _ hsv hrun,AtC.of' (Zbv w.drew _),⟨?_,?_⟩,?_,?_,by simp[k1,YX];omega,hcut.append k3,⟨rfl,rfl,rfl,Kd,fun b2 hb2 _=>Zbw w.drew _ b2 hb2⟩,.inl rfl,hA',hmut',hmark'⟩
    ·exact hge
    ·exact hgm
    ·simp only[Ya9,Ycm,YaV,size_zeroCells,hzs,hmlen,k1,<-YX];refine Y2 _ ?_;omega
    ·simp only[Yb0,YO];rw[<-YO];refine Ybg ?_;simp[k1];omega
  ·cases hvb
 ·cases hvb
def Zru(hg:G C σ loc a w){o:Oper}{t e:TypeId}{s x:Operand}{i:TypeInfo}{s' x':X}{n:Option Nat}{cs ys:List AV}{q p:Prop}(ho:o.op= .call {callee:=.builtin .append,args:=#[s,x],argTypes:=#[t,t]})(ht:C.P.underlying t=some (.slice e))(hi:C.P.info? e=some i)(hs:cX s=some s')(hx:cX x=some x')(hsd:(σ.val s').dg=true)(hxd:(σ.val x').dg=true)(hvb:(σ.val s').dv.vbase σ.own e i.size=some (n,0,cs,q))(hvc:(σ.val x').dv.vcells σ.own i.size=some (0,ys,p))(hq:q)(hp:p):
  ∃u,(execOp a.eval o).run C.P w= .ok (.value u) w/\RepC w (MM C σ.own loc) (.sl i.size []) u:=by have hrs:=ZaJ hg hs hsd;have hrx:=ZaJ hg hx hxd;(have hxv:∃A cap,a.eval x= .slice A 0 cap:=by unfold AV.vcells at hvc;split at hvc;{rename_i sz0 es ex;simp only[Ya,Yj]at hvc;rw[ex]at hrx;simp only[RepA,RepC]at hrx;obtain⟨A,cap,hv,_⟩:=hrx;rw[hvc.1]at hv;exact⟨A,cap,hv⟩};{rename_i m ex;split at hvc;{rename_i e0 sz0 es ho';simp only[Ya,Yj]at hvc;rw[ex]at hrx;simp only[RepA]at hrx;have hd:=hg.grow_data ho';simp only[RepC]at hd;obtain⟨A,cap,hv,_⟩:=hd;rw[hvc.1]at hv;exact⟨A,cap,hrx.1.trans hv⟩};{cases hvc}};{rename_i sz0 m off len0 cap0 ex;split at hvc;{simp only[Ya,Yj]at hvc;rw[ex]at hrx;simp only[RepA]at hrx;obtain⟨b,o',_,hv,_⟩:=hrx;rw[hvc.1]at hv;exact⟨_,_,hv⟩};{cases hvc}};{cases hvc});(have hsv:∃A cap,a.eval s= .slice A 0 cap/\cap<=maxLen/\(A=none\/∃ad,A=some ad):=by unfold AV.vbase at hvb;split at hvb;{rename_i es;rw[es]at hrs;simp only[RepA,RepC]at hrs;exact⟨none,0,hrs.1,by simp[maxLen],.inl rfl⟩};{rename_i m es;split at hvb;{(rename_i e0 sz0 hown;rw[es]at hrs;simp only[RepA]at hrs;have hd:=hg.grow_data hown;simp only[RepC]at hd;obtain⟨A,cap,hv,_,hm,_⟩:=hd;refine⟨A,cap,hrs.1.trans hv,hm,?_⟩;cases A with|none=>exact .inl rfl|some ad=>exact .inr ⟨ad,rfl⟩)};{cases hvb}};{rename_i sz' m off len0 cap es;split at hvb;{simp only[Ya,Yj]at hvb;rw[es]at hrs;simp only[RepA]at hrs;obtain⟨b,o',_,hv,_,_,hm⟩:=hrs;rw[hvb.2.1]at hv;exact⟨_,_,hv,hm,.inr ⟨_,rfl⟩⟩};{cases hvb}};{cases hvb});obtain⟨A,cap,hxv⟩:=hxv;obtain⟨B,capB,hsv,hmB,hB⟩:=hsv;refine⟨.slice B 0 capB,?_,?_⟩;{rcases hB with rfl|⟨ad,rfl⟩;{cases A<;>simp[execOp,ho,resolve,invoke,builtin,hsv,hxv,Builtin.append_,run_underlying ht,sizeOf,typeInfo,hi,Builtin.lenOf,Builtin.firstCells,loadCells,loadCellsFrom,storeCells]};{cases A<;>simp[execOp,ho,resolve,invoke,builtin,hsv,hxv,Builtin.append_,run_underlying ht,sizeOf,typeInfo,hi,Builtin.lenOf,Builtin.firstCells,loadCells,loadCellsFrom,storeCells]}};{simp only[RepC];exact⟨B,capB,rfl,YC _,hmB,.inl trivial⟩}
def Zp2(hg:G C σ loc a w){o:Oper}{t e n sz d:Nat}{parts:Array (Nat×Operand)}{xs':List X}{cs:List AV}{z:List AV}{p:Prop}(ho:o.op= .buildSlice t n parts)(hod:o.dst=some d)(hd:d<C.N)(ht:C.P.underlying t=some (.slice e))(hsz:sizeB C.P e=some sz)(hz:zeroB C.P e=some z)(hpr:parts.toList.map (·.1)=List.range n)(hpos:0<sz)(hlim:n*sz<=2^24)(hzl:z.length=sz)(hxs:cXs (parts.toList.map (·.2))=some xs')(hes:ZhW σ sz xs'=some (p,cs))(hn:(σ.own d).isNone=true)(hp:p):
  Mnd C (σ.new d (.vw sz d 0 xs'.length xs'.length) (.box cs)) a w o:=by
 obtain⟨it,zv,hit,hzv,hone,hzeq⟩:=ZcR hz;have hall:∀(l:List Operand)(l':List X)(p:Prop)(cs:List AV),cXs l=some l'->ZhW σ sz l'=some (p,cs)->p->
   (∀x∈l,(a.eval x).cells.size=sz)/\l'.length=l.length/\RepAs w (MM C σ.own loc) loc cs ((l.map fun x=>(a.eval x).cells.toList).flatten):=by
  intro l;induction l with
  |nil=>
   intro l' p cs h1 h2 _;simp[cXs]at h1;subst h1;simp only[ZhW,Ya,Yj]at h2;obtain⟨_,rfl⟩:=h2;simp[RepAs]
  |cons x l ih=>
   intro l' p cs h1 h2 hp;simp only[cXs,Yao,Yaw,YS,Yz,Ya]at h1;obtain⟨y,hy,ys,hys,rfl⟩:=h1;simp only[ZhW]at h2;split at h2
   ·rename_i vs p0 cs0 hvs hgo;simp only[Ya,Yj]at h2;obtain⟨rfl,rfl⟩:=h2;obtain⟨i1,i2,i3⟩:=ih ys p0 cs0 hys hgo hp.2.2;have hr:=(ZaJ hg hy hp.1).cellsA_ hvs;have hlen:=hr.length;refine⟨fun u hu=>?_,by simp[i2],by simpa using hr.append i3⟩;rcases YF.1 hu with rfl|hu
    ·have:=hp.2.1;simp at hlen;omega
    ·exact i1 u hu
   ·cases h2
 obtain⟨hcs,hlen,hrs⟩:=hall _ xs' p cs hxs hes hp;(have hpl:parts.toList.length=n:=by have:=congrArg List.length hpr;simpa using this);(have hzc:zv.cells.size=sz:=by rw[<-hzl,hzeq];simp);obtain⟨arr',hf,hl⟩:=Zk0 (sz:=sz) a.eval (parts.toList.map (·.2)) 0 ((Array.range (n*sz)).map (zv.cells[· % zv.cells.size]!)) hcs (by simp[hpl]);simp only[Yc9,Yaz,YM]at hl;(have hzip:(parts.map fun(i,x)=>(i,a.eval x)).toList=(List.range' 0 (parts.toList.map (·.2)).length).zip ((parts.toList.map (·.2)).map a.eval):=by(have h1:parts.toList.map (·.1)=List.range' 0 parts.toList.length:=by rw[hpr,YbU,hpl]);(have h2:∀(l:List (Nat×Operand)),l.map (fun(i,x)=>(i,a.eval x))=(l.map (·.1)).zip ((l.map (·.2)).map a.eval):=by(intro l;induction l with|nil=>rfl|cons p l ih=>simp[ih]));rw[YbX,h2,h1];simp);(have hsize:sizeB C.P e=some it.size:=by simp[sizeB,hit]);(have ZnG:it.size=sz:=by rw[hsz]at hsize;simpa using hsize.symm);(have hn24:¬(2^24<n*sz):=by omega);(have hxl:xs'.length=n:=by rw[hlen];simpa using hpl);rw[hxl];refine⟨w.alloc (.cells arr' e),upd loc d (.pointer (some ⟨w.heap.size,0,none⟩)),.inl ⟨.slice (some ⟨w.heap.size,0,none⟩) n n,?_,?_⟩⟩;{by_cases h0:n*sz=0;{(have hn0:n=0:=by rcases Nat.mul_eq_zero.1 h0 with h|h;exact h;omega);subst hn0;(have hp0:parts= #[]:=by apply YaW;simpa using hpl);subst hp0;(have:arr'= #[]:=by apply YaS;simpa using hl);subst this;(have hr0:∀f:Nat->Value,Array.map f (Array.range 0)= #[]:=fun f=>by apply YaS;simp);simp[execOp,ho,Instr.buildSlice,run_underlying ht,sizeOf,typeInfo,hit,Instr.fill,newRow,hr0]};{rw[hzip.symm]at hf;simp[execOp,ho,Instr.buildSlice,run_underlying ht,sizeOf,typeInfo,hit,ZnG,hn24,h0,zeroValue,hzv,newRow];simp at hf;simp[hf]}};{rw[hod];refine hg.newblock hd hn (fun b hb=>hb.symm) (fun M loc' hk hl' hv=>?_) (fun M loc' hv=>?_);{refine⟨w.heap.size,arr'.toList,(e,(0,0)),rfl,.inl hg.fr.size,AtC.of' (by rw[Zbv]),?_⟩;rw[hl];exact RepAs.keep hk _ _ (hrs.prg hl')};{simp only[RepA];refine⟨_,0,hv,rfl,fun _=>rfl,Yi _,?_⟩;simp only[maxLen];have:n<=n*sz:=Ycf _ hpos;omega}}
def ZsX(hg:G C σ loc a w){o:Oper}{i:I}(hc:cI C.P o.op=some i)(hd:o.dst.all (·<C.N)=true){q:Prop}{σ':St}(hm:mvw σ o.dst i=some (q,σ'))(hq:q):Mnd C σ' a w o:=by(generalize hod:o.dst=dst at hm hd;generalize ho:o.op=op at hc;cases dst with|none=>(cases Zcd hc with|mput ht hk he hx hi hv=>exact ZvK hg ho hod ht hk hx hi hv hm hq|_=>simp[mvw]at hm)|some d=>(have hd':d<C.N:=by simpa using hd);(cases Zcd hc with|app ht hi hz hzs hpos hs hx=>exact ZyP hg ho hod hd' ht hi hpos hs hx hm hq|mkm ht hk he=>simp only[mvw,Ya,Yj]at hm;obtain⟨rfl,rfl⟩:=hm;exact ZyQ hg ho hod hd' hq|_=>simp[mvw]at hm))
end Go.V
namespace Go.V
def FSpec(P:Program)(f:FuncId)(args:List AV)(r:AV):Prop:=
 ZbF P f/\∀(w:World)(M:Cells)(vs:List Value),(∀b o,M b o->b<w.heap.size)->RepAs w M (fun _=>undef) args vs->
  Calls P f vs.toArray w fun e w'=>∃v,e= .returned v/\RepA w' M (fun _=>undef) r v/\RowKit.Below w.heap.size w w'
def ZhI(P:Program)(f:FuncId)(args:List AV)(r:AV):Prop:=
 ZbF P f/\∀(w:World)(vs:List Value),RepAs w (fun _ _=>False) (fun _=>undef) args vs->
  Calls P f vs.toArray w fun e w'=>∃v,e= .returned v/\RepA w' (fun b _=>b<w.heap.size) (fun _=>undef) r v/\RowKit.Below w.heap.size w w'
def AddM(M:Cells)(own:Nat->Ob)(loc:Nat->Value):Cells:=fun b o=>M b o\/Mut own loc b o
structure LentOk(P:Program)(w:World)(M:Cells)(loc:Nat->Value)(own:Nat->Ob):Prop where
 objs:∀n,ObOk P (fun _=>True) w (AddM M own loc) loc (loc n) (own n)
 disj:∀n m b,n≠m->(own n).has (loc n) b->(own m).has (loc m) b->False
def ZaX(l:List Ob)(wl:List (List AV))(n:Nat):Ob:=if 2000<=n then(match wl[n -2000]? with|some cs=> .win cs|none=> .none)else ZbV 1000 l n
def Ob.isPlace:Ob->Bool
 |.box _=>true
 |.win _=>true
 |.mp _ _ _=>true
 |_=>false
def Zc9(P:Program)(f:FuncId)(args:List AV)(l:List Ob)(wl:List (List AV))(Post:AV->List Ob->Prop):Prop:=
 ZbF P f/\l.length<=1000/\∀(w:World)(M:Cells)(loc:Nat->Value)(vs:List Value),(∀b o,M b o->b<w.heap.size/\¬Foot (ZaX l wl) loc b)->LentOk P w M loc (ZaX l wl)->RepAs w (AddM M (ZaX l wl) loc) loc args vs->
  Calls P f vs.toArray w fun e w'=>∃v r l' loc',e= .returned v/\Post r l'/\l'.length=l.length/\Fx w w' (Foot (ZbV 1000 l) loc)/\Keeps w w' (AddM M (ZaX l wl) loc) (AddM M (ZaX l' wl) loc')/\LentOk P w' M loc' (ZaX l' wl)/\
   (∀n b,(ZbV 1000 l' n).has (loc' n) b->Foot (ZbV 1000 l) loc b\/w.heap.size<=b)/\(∀n,(ZaX l wl n).isPlace=true->(ZaX l' wl n).isPlace=true/\loc' n=loc n)/\RepA w' (AddM M (ZaX l' wl) loc') loc' r v
def Zum(P:Program)(d:Option Nat)(f:X)(xs:List X)(K:St->Prop)(σ:St):Prop:=
 ∃fid caps args r,(σ.val f).dg=true/\(xs.all fun x=>(σ.val x).dg)=true/\(σ.val f).dv= .fn fid caps/\AV.portL σ.own (xs.map (fun x=>(σ.val x).dv)++caps)=some args/\
  r.pureB=true/\FSpec P fid args r/\K (σ.put d r)
def ZgQ(P:Program)(G:Bool)(d:Option Nat)(f:X)(xs:List X)(K:St->Prop)(σ:St):Prop:=
 ∃ r,r.pureB = true /\ (G = true -> ∃ fid caps args,(σ.val f).dg = true /\ (xs.all fun x => (σ.val x).dg) = true /\ (σ.val f).dv = .fn fid caps /\ AV.portL σ.own (xs.map (fun x => (σ.val x).dv) ++ caps) = some args /\
  FSpec P fid args r)/\K (σ.put d (.opt G r))
def ZxA(P:Program)(G:Bool)(d:Option Nat)(f:X)(xs:List X)(K:St->Prop)(σ:St):Prop:=
 ∃ r,r.pureB = true /\ (G = true -> ∃ fid caps args,(σ.val f).dg = true /\ (xs.all fun x => (σ.val x).dg) = true /\ (σ.val f).dv = .fn fid caps /\ AV.vportL σ.own (xs.map (fun x => (σ.val x).dv) ++ caps) = some args /\
  (ZhI P fid args r\/FSpec P fid args r/\r.scal=true))/\K (σ.put d (.opt G r))
def ZAd(P:Program)(d:Option Nat)(f:X)(xs:List X)(K:St->Prop)(σ:St):Prop:=
 ∃fid caps args r,(σ.val f).dg=true/\(xs.all fun x=>(σ.val x).dg)=true/\(σ.val f).dv= .fn fid caps/\AV.vportL σ.own (xs.map (fun x=>(σ.val x).dv)++caps)=some args/\
  r.pureB=true/\(ZhI P fid args r\/FSpec P fid args r/\r.scal=true)/\K (σ.put d r)
def Zhg:List Nat->(Nat->AV)->Nat->AV
 |[],f=>f
 |n::L,f=>ZdI n (Zhg L f)
def Zbr:List Nat->(Nat->Ob)->Nat->Ob
 |[],f=>f
 |n::L,f=>ZbE n (Zbr L f)
def Ob.isGrow:Ob->Bool
 |.grow _ _ _=>true
 |_=>false
def ZbU(own:Nat->Ob):List Nat->List Nat
 |[]=>[]
 |n::L=>if(own n).isGrow=true then n::ZbU own L else ZbU own L
def ZwP(P:Program)(d:Option Nat)(f:X)(xs:List X)(K:St->Prop)(σ:St):Prop:=
 ∃fid caps L l args Post,(σ.val f).dg=true/\(xs.all fun x=>(σ.val x).dg)=true/\(σ.val f).dv= .fn fid caps/\L.Nodup/\AV.lendL 1000 L σ.own (xs.map (fun x=>(σ.val x).dv)++caps)=some args/\
  Zar L σ.own L=some l/\Zc9 P fid args l [] Post/\
  ∀r l',Post r l'->∃r' os,r.back L=some r'/\Zap L l'=some os/\K (St.put ⟨Zhg (ZbU σ.own L) σ.env,Zae (Zbr (ZbU σ.own L) σ.own) L os⟩ d r')
def ZpK(own:Nat->Ob):List Nat->List (List AV)->Prop
 |[],[]=>True
 |n::ns,w::ws=>((∃cs,(own n).cellsR=some cs/\w<+:cs)/\AV.pureL w=true)/\ZpK own ns ws
 |_,_=>False
def ZwO(d:Option Nat)(f:X)(xs:List X)(K:St->Prop)(σ:St):Prop:=
 ∃n g e rem L,σ.own n= .guest g (e::rem)/\(σ.val f).dg=true/\(xs.all fun x=>(σ.val x).dg)=true/\(σ.val f).dv= .c (.raw g.fv)/\L.Nodup/\AV.lendL 2000 L σ.own (xs.map fun x=>(σ.val x).dv)=some e.args/\ZpK σ.own L e.wins/\
  K (St.put ⟨σ.env,upd σ.own n (.guest g rem)⟩ d e.res)
mutual
def AV.refs(k:Nat):AV->Bool
 |.bp n _=>decide (1000<=n/\n<1000+k)
 |.gr n=>decide (1000<=n/\n<1000+k)
 |.vw _ n _ _ _=>decide (1000<=n/\n<1000+k)
 |.agg cs=>AV.refsL k cs
 |.tup cs=>AV.refsL k cs
 |.fn _ cs=>AV.refsL k cs
 |.opt _ x=>AV.refs k x
 |.non=>true
 |.c _=>true
def AV.refsL(k:Nat):List AV->Bool
 |[]=>true
 |a::as=>AV.refs k a&&AV.refsL k as
end
def Ob.solid(k:Nat):Ob->Bool
 |.box cs=>AV.refsL k cs
 |.guest _ _=>true
 |.mp _ _ _=>true
 |_=>false
def Run(P:Program)(fc:FuncId)(caps:List AV)(Fin:List Ob->Prop):List Ent->List Ob->Prop
 |[],l=>l.all (Ob.solid l.length)=true/\Fin l
 |e::rem,l=>l.all (Ob.solid l.length)=true/\e.res.scal=true/\Zc9 P fc (e.args++caps) l e.wins fun r l'=>r=e.res/\Run P fc caps Fin rem l'
def ZwN(P:Program)(d:Option Nat)(f:X)(xs:List X)(K:St->Prop)(σ:St):Prop:=
 ∃fid caps L l pre fc fcaps post fcaps' pre' post' rem Fin r,(σ.val f).dg=true/\(xs.all fun x=>(σ.val x).dg)=true/\(σ.val f).dv= .fn fid caps/\L.Nodup/\L.length<=1000/\
  xs.map (fun x=>(σ.val x).dv)++caps=pre++ .fn fc fcaps::post/\AV.lendL 1000 L σ.own fcaps=some fcaps'/\AV.portL σ.own pre=some pre'/\AV.portL σ.own post=some post'/\
  Zar L σ.own L=some l/\ZbF P fc/\Run P fc fcaps' Fin rem l/\r.pureB=true/\
  (∀g:Gst,Zc9 P fid (pre'++ .c (.raw g.fv)::post') [.guest g rem] [] fun r' l'=>r'=r/\l'=[.guest g []])/\
  ∀l',Fin l'->∃os,Zap L l'=some os/\l'.length=L.length/\K (St.put ⟨σ.env,Zae σ.own L os⟩ d r)
def ZfB(P:Program)(f:FuncId)(args:List AV)(Post:AV->List Ob->Prop):Prop:=
 ZbF P f/\∀(w:World)(M:Cells)(vs:List Value),(∀b o,M b o->b<w.heap.size)->RepAs w M (fun _=>undef) args vs->
  Calls P f vs.toArray w fun e w'=>∃v r os loc',e= .returned v/\Post r os/\os.length<=1000/\RowKit.Below w.heap.size w w'/\LentOk P w' M loc' (ZbV 1000 os)/\
   (∀n b,(ZbV 1000 os n).has (loc' n) b->w.heap.size<=b)/\RepA w' (AddM M (ZbV 1000 os) loc') loc' r v
def ZwQ(P:Program)(d:Option Nat)(f:X)(xs:List X)(K:St->Prop)(σ:St):Prop:=
 ∃fid caps args Post,(σ.val f).dg=true/\(xs.all fun x=>(σ.val x).dg)=true/\(σ.val f).dv= .fn fid caps/\AV.portL σ.own (xs.map (fun x=>(σ.val x).dv)++caps)=some args/\ZfB P fid args Post/\
  ∀r os,Post r os->∃L r' os',L.Nodup/\L.length=os.length/\(L.all fun n=>decide (n<1000)&&(σ.own n).isNone)=true/\r.back L=some r'/\Zap L os=some os'/\
   K (St.put ⟨Zhg L σ.env,Zae (Zbr L σ.own) L os'⟩ d r')
def Zog(P:Program)(d:Option Nat)(f:X)(xs:List X)(K:St->Prop)(σ:St):Prop:=
 ∃dd fid caps args Post,d=some dd/\dd<1000/\(σ.own dd).isNone=true/\(σ.val f).dg=true/\(xs.all fun x=>(σ.val x).dg)=true/\(σ.val f).dv= .fn fid caps/\AV.portL σ.own (xs.map (fun x=>(σ.val x).dv)++caps)=some args/\ZfB P fid args Post/\
  ∀r os,Post r os->∃o r' o',os=[o]/\r.back [dd]=some r'/\o.back [dd]=some o'/\K ⟨upd (ZdI dd σ.env) dd r',upd (ZbE dd σ.own) dd o'⟩
def Zcn(P:Program)(d:Option Nat)(i:I)(K:St->Prop)(σ:St):Prop:=
 ∀(C:Ctx)(loc:Nat->Value)(a:Act)(w:World)(o:Oper),C.P=P->cI C.P o.op=some i->o.dst=d->o.dst.all (·<C.N)=true->G C σ loc a w->∃σ',Mnd C σ' a w o/\K σ'
def Zc7(P:Program)(d:Option Nat)(f:X)(xs:List X)(K:St->Prop)(σ:St):Prop:=
 Zum P d f xs K σ\/ZAd P d f xs K σ\/ZwP P d f xs K σ\/ZwO d f xs K σ\/ZwN P d f xs K σ\/ZwQ P d f xs K σ\/Zcn P d (.call f xs) K σ
def ZaQ(P:Program)(i:Ins)(K:St->Prop)(σ:St):Prop:=
 match i.g with
 |none=>
  match i.i with
  |.call f xs=>Zum P i.d f xs K σ
  |ins=>
   match pev σ ins with
   |some (q,v)=>q/\K (σ.put i.d v)
   |none=>
    match mev σ i.d ins with
    |some (q,σ')=>q/\K σ'
    |none=>False
 |some g=>
  match σ.guard g with
  |none=>False
  |some G=>
   match i.i with
   |.call f xs=>ZgQ P G i.d f xs K σ
   |ins=>
    match pev σ ins with
    |some (q,v)=>(G=true->q)/\K (σ.put i.d (.opt G v))
    |none=>
     (match mev σ i.d ins with
     |some (q,σ')=>G=true/\q/\K σ'
     |none=>False)\/(ins.putsB=false/\G=false/\K (σ.put i.d (.opt false .non)))
def nvw(P:Program)(σ:St)(d:Option Nat)(ins:I)(K:St->Prop):Prop:=
 match ins with
 |.raw o=>Zcn P d (.raw o) K σ
 |.nils _ x=>(match(σ.val x).dv with|.c (.sl _ [])=>(σ.val x).dg=true/\∀b,K (σ.put d (.c (.bool b)))|_=>False)
 |.appv e sz bytes s x=>
  match d,(σ.val s).dv.vbase σ.own e sz,(σ.val x).dv.vcells σ.own sz with
  |some d,some (n,len,cs,q),some (k,ys,p)=>
   (rmv σ.own n d).isNone=true/\(σ.val s).dg=true/\(σ.val x).dg=true/\q/\p/\len+k<=maxLen/\(len+k)*bytes<=140737488355328/\
    (if k = 0 then len = 0 /\ K (σ.put (some d) (.c (.sl sz [])))else
     ∀cap j,len+k<=cap->cap<=maxLen->cap*sz<=(len+k)*sz+j->K (St.new ⟨σ.env,rmv σ.own n⟩ d (.vw sz d 0 (len+k) cap) (.box (cs++ys++List.replicate j .non))))
  |_,_,_=>False
 |.ia sz x i=>Zcn P d (.ia sz x i) K σ
 |.fa o x=>Zcn P d (.fa o x) K σ
 |.slc sz x lo hi=>Zcn P d (.slc sz x lo hi) K σ
 |.ld one sz x=>Zcn P d (.ld one sz x) K σ
 |.st sz x y=>Zcn P d (.st sz x y) K σ
 |.app e sz b s x=>Zcn P d (.app e sz b s x) K σ
 |_=>False
def Zz7(P:Program)(G:Bool)(σ:St)(d:Option Nat)(ins:I)(K:St->Prop):Prop:=
 match ins with
 |.raw o=>(G=true->Zcn P d (.raw o) K σ)/\(G=false->K (σ.put d (.opt false .non)))
 |_=>G=false/\K (σ.put d (.opt false .non))
def Zb0(P:Program)(i:Ins)(K:St->Prop)(σ:St):Prop:=
 match i.g with
 |none=>
  match i.i with
  |.call f xs=>Zc7 P i.d f xs K σ
  |.calln f xs=>Zog P i.d f xs K σ
  |ins=>
   match pev σ ins with
   |some (q,v)=>q/\K (σ.put i.d v)
   |none=>
    match mev σ i.d ins with
    |some (q,σ')=>q/\K σ'
    |none=>
     match pvw σ ins with
     |some (q,v)=>q/\K (σ.put i.d v)
     |none=>
      match mvw σ i.d ins with
      |some (q,σ')=>q/\K σ'
      |none=>nvw P σ i.d ins K
 |some g=>
  match σ.guard g with
  |none=>False
  |some G=>
   match i.i with
   |.call f xs=>ZgQ P G i.d f xs K σ\/ZxA P G i.d f xs K σ\/((G=true->Zc7 P i.d f xs K σ)/\(G=false->K (σ.put i.d (.opt false .non))))
   |ins=>
    match pev σ ins with
    |some (q,v)=>(G=true->q)/\K (σ.put i.d (.opt G v))
    |none=>
     match mev σ i.d ins with
     |some (q,σ')=>(G=true->q/\K σ')/\(G=false->K (σ.put i.d (.opt false .non)))
     |none=>
      match pvw σ ins with
      |some (q,v)=>(G=true->q)/\K (σ.put i.d (.opt G v))
      |none=>
       match mvw σ i.d ins with
       |some (q,σ')=>(G=true->q/\K σ')/\(G=false->K (σ.put i.d (.opt false .non)))
       |none=>Zz7 P G σ i.d ins K
def AStep(P:Program)(i:Ins)(K:St->Prop)(σ:St):Prop:=if i.s=true then Zb0 P i K σ else ZaQ P i K σ
def Gam(C:Ctx)(σ:St)(a:Act)(w:World):Prop:=∃loc,G C σ loc a w
section
variable{C:Ctx}{σ:St}{loc:Nat->Value}{a:Act}{w:World}
mutual
def port_rep(hg:G C σ loc a w){loc':Nat->Value}:∀{x:AV}{v:Value}{y:AV},RepA w (MM C σ.own loc) loc x v->x.port σ.own=some y->RepA w (MM C σ.own loc) loc' y v
 |.c d,v,y,h,hp=>by simp only[AV.port,Ya]at hp;subst hp;simpa only[RepA]using h
 |.gr n,v,y,h,hp=>by simp only[AV.port]at hp;split at hp;{rename_i e sz es hn;simp only[Ya]at hp;subst hp;simp only[RepA]at h|-;rw[h.1];exact hg.grow_data hn};{cases hp}
 |.agg cs,v,y,h,hp=>by simp only[AV.port,Yh]at hp;obtain⟨ys,hp,rfl⟩:=hp;simp only[RepA]at h|-;obtain⟨l,rfl,hr⟩:=h;exact⟨l,rfl,ports_rep hg hr hp⟩
 |.tup cs,v,y,h,hp=>by simp only[AV.port,Yh]at hp;obtain⟨ys,hp,rfl⟩:=hp;simp only[RepA]at h|-;obtain⟨l,rfl,hr⟩:=h;exact⟨l,rfl,ports_rep hg hr hp⟩
 |.fn f cs,v,y,h,hp=>by simp only[AV.port,Yh]at hp;obtain⟨ys,hp,rfl⟩:=hp;simp only[RepA]at h|-;obtain⟨l,rfl,hr⟩:=h;exact⟨l,rfl,ports_rep hg hr hp⟩
 |.non,v,y,h,hp=>by simp[AV.port]at hp
 |.bp _ _,v,y,h,hp=>by simp[AV.port]at hp
 |.vw _ _ _ _ _,v,y,h,hp=>by simp[AV.port]at hp
 |.opt _ _,v,y,h,hp=>by simp[AV.port]at hp
def ports_rep(hg:G C σ loc a w){loc':Nat->Value}:∀{xs:List AV}{l:List Value}{ys:List AV},RepAs w (MM C σ.own loc) loc xs l->AV.portL σ.own xs=some ys->RepAs w (MM C σ.own loc) loc' ys l
 |[],l,ys,h,hp=>by simp only[AV.portL,Ya]at hp;subst hp;simpa only[RepAs]using h
 |x::xs,l,ys,h,hp=>by simp only[AV.portL]at hp;split at hp;{rename_i y ys' h1 h2;simp only[Ya]at hp;subst hp;simp only[RepAs]at h|-;obtain⟨v,vs,rfl,k1,k2⟩:=h;exact⟨v,vs,rfl,port_rep hg k1 h1,ports_rep hg k2 h2⟩};{cases hp}
end
mutual
def pure_loc{M:Cells}{loc':Nat->Value}:∀{x:AV}{v:Value},x.pureB=true->RepA w M loc x v->RepA w M loc' x v
 |.c d,v,_,h=>by simpa only[RepA]using h
 |.non,v,_,h=>by simp only[RepA]
 |.gr n,v,hp,h=>by simp[AV.pureB]at hp
 |.bp _ _,v,hp,h=>by simp[AV.pureB]at hp
 |.vw _ _ _ _ _,v,hp,h=>by simp[AV.pureB]at hp
 |.agg cs,v,hp,h=>by simp only[AV.pureB]at hp;simp only[RepA]at h|-;obtain⟨l,rfl,hr⟩:=h;exact⟨l,rfl,pures_loc hp hr⟩
 |.tup cs,v,hp,h=>by simp only[AV.pureB]at hp;simp only[RepA]at h|-;obtain⟨l,rfl,hr⟩:=h;exact⟨l,rfl,pures_loc hp hr⟩
 |.fn f cs,v,hp,h=>by simp only[AV.pureB]at hp;simp only[RepA]at h|-;obtain⟨l,rfl,hr⟩:=h;exact⟨l,rfl,pures_loc hp hr⟩
 |.opt g x,v,hp,h=>by simp only[AV.pureB]at hp;simp only[RepA]at h|-;exact⟨fun hg=>pure_loc hp (h.1 hg),h.2⟩
def pures_loc{M:Cells}{loc':Nat->Value}:∀{xs:List AV}{l:List Value},AV.pureL xs=true->RepAs w M loc xs l->RepAs w M loc' xs l
 |[],l,_,h=>by simpa only[RepAs]using h
 |x::xs,l,hp,h=>by simp only[AV.pureL,Yf]at hp;simp only[RepAs]at h|-;obtain⟨v,vs,rfl,k1,k2⟩:=h;exact⟨v,vs,rfl,pure_loc hp.1 k1,pures_loc hp.2 k2⟩
end
def G.below(hg:G C σ loc a w){w':World}(hb:RowKit.Below w.heap.size w w'):Keeps w w' (MM C σ.own loc) (MM C σ.own loc)/\G C σ loc a w':=by
 have hk:Keeps w w' (MM C σ.own loc) (MM C σ.own loc):=⟨fun p hp _=>World.cell?_of_block (hb.block _ (Zbx hp)),fun p _ h=>h⟩;refine⟨hk,⟨⟨hb.os.trans hg.fr.os,hb.tape.trans hg.fr.tape,hb.output.trans hg.fr.output,YaP hg.fr.size hb.size,fun k hk' hx => (hb.block k (YaR hk' hg.fr.size)).trans (hg.fr.block k hk' hx)⟩,hg.m0,hg.kp.trans hk,fun x hx =>?_,hg.mnd,hg.pin,hg.size,
  fun t=>RepA.keep hk _ _ (hg.slots t),fun n=>ObOk.keep' hk hb.size (fun b hbb=>hb.block b ((hg.objs n).lt hbb)) (hg.objs n),hg.disj⟩⟩
 obtain⟨D,e1,e2,e3,e4⟩:=hg.marks x hx;exact⟨D,e1,e2,(hb.block D (YK.1 e3).1).trans e3,e4⟩
def ZpT(hg:G C σ loc a w):∀b o,MM C σ.own loc b o->b<w.heap.size:=by rintro b o (h|⟨n,h⟩);{exact YaR (hg.m0 b o h).1 hg.fr.size};{exact(hg.objs n).lt (Ob.has_of_mut h)}
def G.drew(hg:G C σ loc a w):G C σ loc a {w with drawn:=w.drawn+1}:=(hg.below (w':={w with drawn:=w.drawn+1}) ⟨rfl,rfl,rfl,Yi _,fun _ _=>rfl⟩).2
end
section
variable{C:Ctx}{σ:St}{loc:Nat->Value}{a:Act}{w:World}
def ZsR(hg:G C σ loc a w){o:Oper}{i:I}(hc:cI C.P o.op=some i)(hd:o.dst.all (·<C.N)=true){q:Prop}{σ':St}(hm:mev σ o.dst i=some (q,σ'))(hq:q):Mnd C σ' a w o:=by
 generalize hod:o.dst=dst at hm hd;generalize ho:o.op=op at hc;have hd':∀d,dst=some d->d<C.N:=fun d h=>by subst h;simpa using hd
 cases Zcd hc with
 |alloc hz=>cases dst<;>simp only[mev,Ya,Yj,reduceCtorEq]at hm;obtain⟨rfl,rfl⟩:=hm;exact ZsQ hg ho hod (hd' _ rfl) hz hq
 |mks ht hi hz hpos hzl hx hy=>(cases dst with|none=>simp[mev]at hm|some d=>exact ZyL hg ho hod (hd' _ rfl) ht hi hz hpos hzl hx hy hm hq)
 |box hs hx=>(cases dst with|none=>simp[mev]at hm|some d=>simp only[mev]at hm;split at hm;{rename_i cs hcs;simp only[Ya,Yj]at hm;obtain⟨rfl,rfl⟩:=hm;exact ZyJ hg ho hod (hd' _ rfl) hx hq.2.1 hcs hq.1};{cases hm})
 |store hs hx hy=>(cases dst with|some d=>simp[mev]at hm|none=>simp only[mev]at hm;split at hm;{rename_i n off vs ex ey;split at hm;{rename_i cs hown;simp only[Ya,Yj]at hm;obtain⟨rfl,rfl⟩:=hm;obtain⟨q1,q2,q3,q4,q5⟩:=hq;exact ZCo hg ho hod hs hx hy q1 q2 ex ey hown q3 q4 q5};{cases hm}};{cases hm})
 |bsl ht hs hz hpr hpos hlim hzl hxs=>(cases dst with|none=>simp[mev]at hm|some d=>simp only[mev]at hm;split at hm;{rename_i es hes;simp only[Ya,Yj]at hm;obtain⟨rfl,rfl⟩:=hm;obtain⟨q1,q2,q3⟩:=hq;exact ZyK hg ho hod (hd' _ rfl) ht hs hz hpr hpos hlim hzl hxs hes q1 q2 q3};{cases hm})
 |app ht hinf hz hzs hpos h2 h3=>
  cases dst with
  |none=>simp[mev]at hm
  |some d=>
   simp only[mev]at hm;split at hm;{rename_i n ys es_ ey;split at hm;{rename_i e' sz' es hown;split at hm;{rename_i hee;obtain⟨rfl,rfl⟩:=hee;simp only[Ya,Yj]at hm;obtain⟨rfl,rfl⟩:=hm;obtain⟨q1,q2,q3,q4,q5,q6⟩:=hq;have hrs:=ZaJ hg h2 q1;rw[es_]at hrs;simp only[RepA]at hrs;have hob:=hg.objs n;rw[hown]at hob;obtain⟨xs,hor,hA,hrg,_⟩:=hob;(have hob1:∀b,(loc n).ownBlock=some b->(σ.own n).has (loc n) b:=by intro b hb;rw[hown];exact Ob.has_own.2 hb);refine Zox (own1:=upd σ.own n .none) hg ho hod (hd' _ rfl) ht hinf hz hzs hpos hrs.1 h3 q2 ey hor hA hrg (fun m=>?_) ?_ (fun b k hb hk=>⟨n,?_⟩) (fun m b hm hb=>?_) q4 q5 q6;{by_cases hmn:m=n;{subst hmn;right;simp[upd]};{left;simp[upd,hmn]}};{cases hx:upd σ.own n .none d<;>simp_all [Ob.isNone]};{rw[hown];cases hl:loc n<;>rw[hl]at hb<;>simp only[Value.ownBlock,reduceCtorEq]at hb;rename_i A _ _;cases A<;>simp only[reduceCtorEq]at hb;simp only[Ya]at hb;exact⟨hb,hk⟩};{by_cases hmn:m=n;{subst hmn;simp only[upd,YJ]at hm;exact Ob.has_none _ _ hm};{simp only[upd,hmn,YA]at hm;exact hg.disj m n b hmn hm (hob1 b hb)}}};{cases hm}};{cases hm}}
   ·rename_i ys es_ ey;simp only[Ya,Yj]at hm;obtain⟨rfl,rfl⟩:=hm;obtain⟨q1,q2,q3,q4,q5,q6⟩:=hq;have hrs:=ZaJ hg h2 q1;rw[es_]at hrs;simp only[RepA,RepC]at hrs;have hnone:σ.own d= .none:=by cases h:σ.own d<;>simp_all [Ob.isNone]
    exact Zox (es:=[]) (xs:=[]) (own1:=σ.own) hg ho hod (hd' _ rfl) ht hinf hz hzs hpos hrs.1 h3 q2 ey (World.ownsRow_nil w _ _ _) (fun b hb=>by simp[Value.ownBlock]at hb) ⟨Kd,by simp[RepAs]⟩
     (fun m=> .inl rfl) hnone (fun b k hb _=>by simp[Value.ownBlock]at hb) (fun m b _ hb=>by simp[Value.ownBlock]at hb) q4 (by simpa using q5) (by simpa using q6)
   ·cases hm
 |_=>cases dst<;>simp[mev]at hm
def Zfl(hg:G C σ loc a w){ops:Array Oper}{j t:Nat}{want:Bool}(hj:(ops[j]?).bind (·.dst)=some t){Gd:Bool}(h:σ.guard (t,want)=some Gd):(yielded ops a.tmps j==some want)=Gd:=by have hs:=hg.slots t;(have hget:∀b,a.tmps.getD t undef= .bool b->a.tmps[t]? =some (.bool b):=by(intro b hb;rw[YZ]at hb;cases h:a.tmps[t]? with|none=>rw[h]at hb;simp[undef]at hb|some v=>rw[h]at hb;simp at hb;rw[hb]));unfold St.guard at h;split at h;{rename_i b hb;simp only[Ya]at h;subst h;dsimp only at hb;rw[hb]at hs;simp only[RepA,RepC]at hs;simp[yielded,hj,hget b hs]};{(rename_i q b hb;simp only[Ya]at h;subst h;dsimp only at hb;rw[hb]at hs;simp only[RepA,RepC]at hs;cases q with|true=>simp[yielded,hj,hget b (hs.1 rfl)]|false=>have hu:=hs.2 rfl;(have:∀b,a.tmps[t]?≠some (.bool b):=by intro b hb;rw[YZ,hb]at hu;simp[undef]at hu);(simp only[yielded,hj,Ya8,Y9];cases h:a.tmps[t]? with|none=>simp|some v=>cases v<;>simp<;>exact(this _ h).elim))};{cases h}
end
end Go.V
namespace Go.V
variable{C:Ctx}{σ:St}{loc:Nat->Value}{a:Act}{w:World}
mutual
def RepA.reloc{M:Cells}{loc':Nat->Value}(hl:∀n,(loc n).oneCell'=true->loc' n=loc n):∀{x:AV}{v:Value},RepA w M loc x v->RepA w M loc' x v
 |.non,v,_=>by simp only[RepA]
 |.c d,v,h=>by simpa only[RepA]using h
 |.bp n off,v,h=>by simp only[RepA]at h|-;obtain⟨b,e1,e2⟩:=h;exact⟨b,by rw[hl n (by rw[e1];rfl)];exact e1,e2⟩
 |.gr n,v,h=>by simp only[RepA]at h|-;rw[hl n (by rw[<-h.1];exact h.2)];exact h
 |.vw sz n off len cap,v,h=>by simp only[RepA]at h|-;obtain⟨b,o,e1,e2⟩:=h;exact⟨b,o,by rw[hl n (by rw[e1];rfl)];exact e1,e2⟩
 |.agg cs,v,h=>by simp only[RepA]at h|-;obtain⟨l,rfl,hr⟩:=h;exact⟨l,rfl,RepAs.reloc hl hr⟩
 |.tup cs,v,h=>by simp only[RepA]at h|-;obtain⟨l,rfl,hr⟩:=h;exact⟨l,rfl,RepAs.reloc hl hr⟩
 |.fn f cs,v,h=>by simp only[RepA]at h|-;obtain⟨l,rfl,hr⟩:=h;exact⟨l,rfl,RepAs.reloc hl hr⟩
 |.opt g x,v,h=>by simp only[RepA]at h|-;exact⟨fun hg=>RepA.reloc hl (h.1 hg),h.2⟩
def RepAs.reloc{M:Cells}{loc':Nat->Value}(hl:∀n,(loc n).oneCell'=true->loc' n=loc n):∀{xs:List AV}{l:List Value},RepAs w M loc xs l->RepAs w M loc' xs l
 |[],l,h=>by simpa only[RepAs]using h
 |x::xs,l,h=>by simp only[RepAs]at h|-;obtain⟨v,vs,rfl,h1,h2⟩:=h;exact⟨v,vs,rfl,RepA.reloc hl h1,RepAs.reloc hl h2⟩
end
def ObOk.reloc{P:Program}{A:Nat->Prop}{M:Cells}{v:Value}{loc':Nat->Value}(hl:∀n,(loc n).oneCell'=true->loc' n=loc n){o:Ob}(h:ObOk P A w M loc v o):ObOk P A w M loc' v o:=by(cases o with|none=>trivial|box cs=>obtain⟨b,l,e,h1,h2,h3,h4⟩:=h;exact⟨b,l,e,h1,h2,h3,h4.reloc hl⟩|win cs=>obtain⟨b,l,rest,e,h1,h3,h4⟩:=h;exact⟨b,l,rest,e,h1,h3,h4.reloc hl⟩|grow e sz es=>exact h|guest g rem=>exact h|mp kk ek l=>exact h)
mutual
def back_rep{M:Cells}{L:List Nat}{loc':Nat->Value}(hl:∀(i n:Nat),L[i]? =some n->loc' n=loc (1000+i)):∀{x y:AV}{v:Value},RepA w M loc x v->x.back L=some y->RepA w M loc' y v
 |.c d,y,v,h,hb=>by simp only[AV.back,Ya]at hb;subst hb;simpa only[RepA]using h
 |.non,y,v,h,hb=>by simp only[AV.back,Ya]at hb;subst hb;simp only[RepA]
 |.opt g x,y,v,h,hb=>by simp only[AV.back,Yh]at hb;obtain⟨z,hb,rfl⟩:=hb;simp only[RepA]at h|-;exact⟨fun hg=>back_rep hl (h.1 hg) hb,h.2⟩
 |.bp n off,y,v,h,hb=>by simp only[AV.back]at hb;split at hb;{rename_i hn;simp only[Yh]at hb;obtain⟨m,hm,rfl⟩:=hb;simp only[RepA]at h|-;have:=hl _ _ hm;rw[show 1000+(n -1000)=n from by omega]at this;rwa [this]};{cases hb}
 |.gr n,y,v,h,hb=>by simp only[AV.back]at hb;split at hb;{rename_i hn;simp only[Yh]at hb;obtain⟨m,hm,rfl⟩:=hb;simp only[RepA]at h|-;have:=hl _ _ hm;rw[show 1000+(n -1000)=n from by omega]at this;rwa [this]};{cases hb}
 |.vw sz n off len cap,y,v,h,hb=>by simp only[AV.back]at hb;split at hb;{rename_i hn;simp only[Yh]at hb;obtain⟨m,hm,rfl⟩:=hb;simp only[RepA]at h|-;have:=hl _ _ hm;rw[show 1000+(n -1000)=n from by omega]at this;rwa [this]};{cases hb}
 |.agg cs,y,v,h,hb=>by simp only[AV.back,Yh]at hb;obtain⟨ys,hb,rfl⟩:=hb;simp only[RepA]at h|-;obtain⟨l,rfl,hr⟩:=h;exact⟨l,rfl,backs_rep hl hr hb⟩
 |.tup cs,y,v,h,hb=>by simp only[AV.back,Yh]at hb;obtain⟨ys,hb,rfl⟩:=hb;simp only[RepA]at h|-;obtain⟨l,rfl,hr⟩:=h;exact⟨l,rfl,backs_rep hl hr hb⟩
 |.fn f cs,y,v,h,hb=>by simp only[AV.back,Yh]at hb;obtain⟨ys,hb,rfl⟩:=hb;simp only[RepA]at h|-;obtain⟨l,rfl,hr⟩:=h;exact⟨l,rfl,backs_rep hl hr hb⟩
def backs_rep{M:Cells}{L:List Nat}{loc':Nat->Value}(hl:∀(i n:Nat),L[i]? =some n->loc' n=loc (1000+i)):∀{xs ys:List AV}{l:List Value},RepAs w M loc xs l->AV.backL L xs=some ys->RepAs w M loc' ys l
 |[],ys,l,h,hb=>by simp only[AV.backL,Ya]at hb;subst hb;simpa only[RepAs]using h
 |x::xs,ys,l,h,hb=>by simp only[AV.backL]at hb;split at hb;{rename_i y ys' h1 h2;simp only[Ya]at hb;subst hb;simp only[RepAs]at h|-;obtain⟨v,vs,rfl,k1,k2⟩:=h;exact⟨v,vs,rfl,back_rep hl k1 h1,backs_rep hl k2 h2⟩};{cases hb}
end
mutual
def back_pure{L:List Nat}:∀{x:AV},x.pureB=true->x.back L=some x
 |.c _,_=>rfl
 |.non,_=>rfl
 |.bp _ _,h=>by simp[AV.pureB]at h
 |.gr _,h=>by simp[AV.pureB]at h
 |.vw _ _ _ _ _,h=>by simp[AV.pureB]at h
 |.agg cs,h=>by simp only[AV.pureB]at h;simp[AV.back,backs_pure h]
 |.tup cs,h=>by simp only[AV.pureB]at h;simp[AV.back,backs_pure h]
 |.fn f cs,h=>by simp only[AV.pureB]at h;simp[AV.back,backs_pure h]
 |.opt g x,h=>by simp only[AV.pureB]at h;simp[AV.back,back_pure h]
def backs_pure{L:List Nat}:∀{xs:List AV},AV.pureL xs=true->AV.backL L xs=some xs
 |[],_=>rfl
 |x::xs,h=>by simp only[AV.pureL,Yf]at h;simp[AV.backL,back_pure h.1,backs_pure h.2]
end
def Ob.back_has{L:List Nat}{o o':Ob}(h:o.back L=some o')(v:Value)(b:Nat):o'.has v b↔o.has v b:=by cases o<;>simp only[Ob.back,Yh,Ya]at h;{subst h;exact YaK};{obtain⟨cs,_,rfl⟩:=h;cases v<;>first|exact YaK|(rename_i p;cases p<;>exact YaK)};{subst h;exact YaK};{obtain⟨cs,_,rfl⟩:=h;cases v<;>first|exact YaK|(rename_i p;cases p<;>exact YaK)};{subst h;exact YaK};{subst h;exact YaK}
def Ob.back_mut{L:List Nat}{o o':Ob}(h:o.back L=some o')(v:Value):o'.mut v=o.mut v:=by cases o<;>simp only[Ob.back,Yh,Ya]at h;{subst h;rfl};{obtain⟨cs,_,rfl⟩:=h;cases v<;>first|rfl|(rename_i p;cases p<;>rfl)};{subst h;rfl};{obtain⟨cs,_,rfl⟩:=h;cases v<;>first|rfl|(rename_i p;cases p<;>rfl)};{subst h;rfl};{subst h;rfl}
def ObOk.back{P:Program}{A A':Nat->Prop}{M:Cells}{L:List Nat}{loc':Nat->Value}{v:Value}(hl:∀(i n:Nat),L[i]? =some n->loc' n=loc (1000+i)){o o':Ob}(hb:o.back L=some o')(hA:∀b,o.has v b->A' b)(h:ObOk P A w M loc v o):ObOk P A' w M loc' v o':=by cases o<;>simp only[Ob.back,Yh,Ya]at hb;{subst hb;trivial};{obtain⟨cs,hcs,rfl⟩:=hb;obtain⟨b,l,e,rfl,h2,h3,h4⟩:=h;exact⟨b,l,e,rfl,hA b rfl,h3,backs_rep hl h4 hcs⟩};{subst hb;obtain⟨xs,h1,h2,h3⟩:=h;exact⟨xs,h1,fun b hb=>hA b (Ob.has_own.2 hb),h3⟩};{obtain⟨cs,hcs,rfl⟩:=hb;obtain⟨b,l,rest,e,rfl,h3,h4⟩:=h;exact⟨b,l,rest,e,rfl,h3,backs_rep hl h4 hcs⟩};{subst hb;obtain⟨h1,Lg,rfl,h2,h3⟩:=h;exact⟨h1,Lg,rfl,h2,fun b hb=>⟨(h3 b hb).1,hA b ((Zan Lg b).2 hb)⟩⟩};{subst hb;obtain⟨b,es,clock,rfl,_,h3,h4⟩:=h;exact⟨b,es,clock,rfl,hA b rfl,h3,h4⟩}
def ZiH{L:List Nat}:∀{l os:List Ob}{i:Nat}{o:Ob},Zap L l=some os->l[i]? =some o->∃o',os[i]? =some o'/\o.back L=some o'
 |[],_,_,_,_,h=>by simp at h
 |x::l,os,i,o,hb,h=>by simp only[Zap]at hb;split at hb;{(rename_i o1 os1 h1 h2;simp only[Ya]at hb;subst hb;match i,h with|0,h=>simp at h;subst h;exact⟨o1,rfl,h1⟩|i+1,h=>simpa using ZiH h2 (by simpa using h))};{cases hb}
def ZeO:∀{own:Nat->Ob}{L:List Nat}{os:List Ob}{i n:Nat}{o:Ob},L.Nodup->L[i]? =some n->os[i]? =some o->Zae own L os n=o
 |own,m::L,p::os,0,n,o,_,h,ho=>by simp at h ho;subst h;subst ho;simp[Zae,upd]
 |own,m::L,p::os,i+1,n,o,hn,h,ho=>by simp only[YbN]at hn;(have hne:n≠m:=by rintro rfl;exact hn.1 (Yu (by simpa using h)));simp only[Zae,upd,hne,YA];exact ZeO hn.2 (by simpa using h) (by simpa using ho)
 |own,[],os,i,n,o,_,h,_=>by simp at h
 |own,m::L,[],i,n,o,_,_,ho=>by simp at ho
def ZdT:∀{own:Nat->Ob}{L:List Nat}{os:List Ob}{n:Nat},n∉L->Zae own L os n=own n
 |own,[],os,n,_=>by cases os<;>rfl
 |own,m::L,[],n,_=>rfl
 |own,m::L,p::os,n,h=>by simp only[YF,Ydb]at h;simp only[Zae,upd,h.1,YA];exact ZdT h.2
def Zdn(own:Nat->Ob)(loc:Nat->Value)(L:List Nat)(b:Nat):Prop:=∃n∈L,(own n).has (loc n) b
def ZmH{M:Cells}{f:Nat->AV}{t:Nat}{v:Value}:∀{gs:List Nat}{loc':Nat->Value},(∀n,n∉gs->(loc n).oneCell'=true->loc' n=loc n)->RepA w M loc (f t) v->RepA w M loc' (Zhg gs f t) v
 |[],loc',hl,h=>RepA.reloc (fun n hn=>hl n Kd hn) h
 |m::gs,loc',hl,h=>by
  have ih:RepA w M (fun n =>if n = m then loc m else loc' n) (Zhg gs f t) v:=ZmH (fun n hn hone =>by
   by_cases e:n=m
   ·subst e;simp
   ·simp only[e,YA];exact hl n (by simp[e,hn]) hone) h
  exact RepA.prg (fun n hn=>by simp[hn]) ih
def Ztd{gs:List Nat}{own:Nat->Ob}{n:Nat}{v:Value}{b:Nat}:(Zbr gs own n).has v b↔(own n).has v b:=by(induction gs with|nil=>exact YaK|cons m gs ih=>exact(Ob.has_prg m _ v b).trans ih)
def Zte{gs:List Nat}{own:Nat->Ob}{n:Nat}{v:Value}:(Zbr gs own n).mut v=(own n).mut v:=by(induction gs with|nil=>rfl|cons m gs ih=>exact(Ob.mut_prg m _ v).trans ih)
def ObOk.prg1{P:Program}{A:Nat->Prop}{M:Cells}{v:Value}{loc':Nat->Value}{m:Nat}(hl:∀n,n≠m->loc' n=loc n){o:Ob}(h:ObOk P A w M loc v o):ObOk P A w M loc' v (o.prg m):=by(cases o with|none=>trivial|box cs=>obtain⟨b,l,e,h1,h2,h3,h4⟩:=h;exact⟨b,l,e,h1,h2,h3,h4.prg hl⟩|win cs=>obtain⟨b,l,rest,e,h1,h3,h4⟩:=h;exact⟨b,l,rest,e,h1,h3,h4.prg hl⟩|grow e sz es=>exact h|guest g rem=>exact h|mp kk ek l=>exact h)
def Zpn{P:Program}{A:Nat->Prop}{M:Cells}{own:Nat->Ob}{n:Nat}{v:Value}:∀{gs:List Nat}{loc':Nat->Value},(∀n,n∉gs->(loc n).oneCell'=true->loc' n=loc n)->ObOk P A w M loc v (own n)->ObOk P A w M loc' v (Zbr gs own n)
 |[],loc',hl,h=>ObOk.reloc (fun n hn=>hl n Kd hn) h
 |m::gs,loc',hl,h=>by
  have ih:ObOk P A w M (fun n =>if n = m then loc m else loc' n) v (Zbr gs own n):=Zpn (fun n hn hone =>by
   by_cases e:n=m
   ·subst e;simp
   ·simp only[e,YA];exact hl n (by simp[e,hn]) hone) h
  exact ObOk.prg1 (fun n hn=>by simp[hn]) ih
def G.lentG(hg:G C σ loc a w)(gs:List Nat){L:List Nat}{l' os:List Ob}{loc':Nat->Value}{w':World}{M':Cells}(hL:L.Nodup)(hlen:l'.length=L.length)(hA:∀n∈L,∀b,(σ.own n).has (loc n) b->C.A b)(fx:Fx w w' (Zdn σ.own loc L))(kp:∀p:Addr,(w.cell? p).isSome=true->¬MM C σ.own loc p.block p.off->w'.cell? p=w.cell? p/\¬M' p.block p.off)(sub:∀b o,(MM C σ.own loc b o/\¬Zdn σ.own loc L b)\/(∃(i:Nat)(ob:Ob),l'[i]? =some ob/\ob.mut (loc' (1000+i)) b o)->M' b o)(objs:∀(i:Nat)(o:Ob),l'[i]? =some o->ObOk C.P (fun _=>True) w' M' loc' (loc' (1000+i)) o)(disj:∀(i j:Nat)(o o':Ob)(b:Nat),i≠j->l'[i]? =some o->l'[j]? =some o'->o.has (loc' (1000+i)) b->o'.has (loc' (1000+j)) b->False)(has:∀(i:Nat)(o:Ob)(b:Nat),l'[i]? =some o->o.has (loc' (1000+i)) b->Zdn σ.own loc L b\/w.heap.size<=b)(plc:∀(i n:Nat),L[i]? =some n->n∉gs->(loc n).oneCell'=true->loc' (1000+i)=loc n)(hgs:∀n∈gs,placeV (loc n)=false)(bk:Zap L l'=some os):
  ∃loc'',G C ⟨Zhg gs σ.env,Zae (Zbr gs σ.own) L os⟩ loc'' a w'/\∀r r' v,r.back L=some r'->RepA w' M' loc' r v->RepA w' (MM C (Zae (Zbr gs σ.own) L os) loc'') loc'' r' v:=by
 obtain⟨loc'',hloc''⟩:∃loc'':Nat->Value,loc''=fun n=>if n∈L then loc' (1000+L.idxOf n)else loc n:=⟨_,rfl⟩;(have hin:∀(i n:Nat),L[i]? =some n->loc'' n=loc' (1000+i):=by intro i n h;have hlt:=(Ym.1 h).1;have he:L[i]=n:=(Ym.1 h).2;have hm:n∈L:=Yu h;rw[hloc''];simp only[hm,YJ];rw[<-he,hL.idxOf_getElem i hlt]);(have hout:∀n,n∉L->loc'' n=loc n:=fun n h=>by rw[hloc''];simp[h]);(have hget:∀n,n∈L->∃(i:Nat)(o o':Ob),L[i]? =some n/\l'[i]? =some o/\os[i]? =some o'/\o.back L=some o':=by intro n hn;obtain⟨i,hi⟩:=Ybf.1 hn;have hlt:=(Ym.1 hi).1;have h1:l'[i]? =some (l'[i]'Kc):=Yd _;obtain⟨o',h2,h3⟩:=ZiH bk h1;exact⟨i,_,o',hi,h1,h2,h3⟩);(have hre:∀n,n∉gs->(loc n).oneCell'=true->loc'' n=loc n:=by intro n hng h;by_cases hn:n∈L;{obtain⟨i,hi⟩:=Ybf.1 hn;rw[hin i n hi];exact plc i n hi hng h};{exact hout n hn});(have hhas:∀n b,(Zae (Zbr gs σ.own) L os n).has (loc'' n) b->(n∈L/\∃(i:Nat)(o:Ob),L[i]? =some n/\l'[i]? =some o/\o.has (loc' (1000+i)) b)\/(n∉L/\(σ.own n).has (loc n) b):=by intro n b h;by_cases hn:n∈L;{obtain⟨i,o,o',h1,h2,h3,h4⟩:=hget n hn;rw[ZeO hL h1 h3,hin i n h1,Ob.back_has h4]at h;exact .inl ⟨hn,i,o,h1,h2,h⟩};{rw[ZdT hn,hout n hn,Ztd]at h;exact .inr ⟨hn,h⟩});(have hmut:∀b k,Mut (Zae (Zbr gs σ.own) L os) loc'' b k->(∃(i:Nat)(ob:Ob),l'[i]? =some ob/\ob.mut (loc' (1000+i)) b k)\/(∃n,n∉L/\(σ.own n).mut (loc n) b k):=by rintro b k ⟨n,h⟩;by_cases hn:n∈L;{obtain⟨i,o,o',h1,h2,h3,h4⟩:=hget n hn;rw[ZeO hL h1 h3,hin i n h1,Ob.back_mut h4]at h;exact .inl ⟨i,o,h2,h⟩};{rw[ZdT hn,hout n hn,Zte]at h;exact .inr ⟨n,hn,h⟩});have hsub:∀b k,MM C (Zae (Zbr gs σ.own) L os) loc'' b k->M' b k:=by rintro b k (h|h);{refine sub b k (.inl ⟨.inl h,?_⟩);rintro⟨n,hn,hb⟩;have h1:=hg.m0 b k h;rcases hA n hn b hb with h2|h2;{omega};{exact h1.2 h2}};{rcases hmut b k h with h1|⟨n,hn,h1⟩;{exact sub b k (.inr h1)};{refine sub b k (.inl ⟨.inr ⟨n,h1⟩,?_⟩);rintro⟨m,hm,hb⟩;exact hg.disj n m b (fun e=>hn (e▸hm)) (Ob.has_of_mut h1) hb}}
 have hk:Keeps w w' (MM C σ.own loc) (MM C (Zae (Zbr gs σ.own) L os) loc''):=
  ⟨fun p hp hm=>(kp p hp hm).1,fun p hp hm h=>(kp p hp hm).2 (hsub _ _ h)⟩
 have hless:Keeps w' w' M' (MM C (Zae (Zbr gs σ.own) L os) loc''):=Keeps.less hsub;refine⟨loc'',⟨⟨fx.os.trans hg.fr.os,fx.tape.trans hg.fr.tape,fx.output.trans hg.fr.output,YaP hg.fr.size fx.size,fun k hk hx=>?_⟩,hg.m0,hg.kp.trans hk,fun x hx=>?_,hg.mnd,fun n hn=>?_,hg.size,fun t=>?_,fun n=>?_,fun n m b hnm hn hm=>?_⟩,fun r r' v hb hr=>?_⟩;{refine(fx.block k (YaR hk hg.fr.size) ?_).trans (hg.fr.block k hk hx);rintro⟨n,hn,hb⟩;rcases hA n hn k hb with h2|h2;{exact absurd hk Kc};{exact hx h2}};{obtain⟨D,e1,e2,e3,e4⟩:=hg.marks x hx;have hlt:=(YK.1 e3).1;refine⟨D,e1,e2,(fx.block D hlt (fun⟨n,_,hb⟩=>e4 ⟨n,hb⟩)).trans e3,?_⟩;rintro⟨n,hn⟩;rcases hhas n D hn with⟨_,i,o,_,h2,h3⟩|⟨_,h⟩;{rcases has i o D h2 h3 with⟨m,_,hm⟩|h;{exact e4 ⟨m,hm⟩};{omega}};{exact e4 ⟨n,h⟩}};{obtain⟨p1,p2,p3⟩:=hg.pin n hn;exact⟨p1,(hre n (fun hm=>by have:=hgs n hm;rw[p2,p3]at this;cases this) (by rw[p2];exact Zj8 p3)).trans p2,p3⟩};{exact RepA.keep hk _ _ (ZmH hre (hg.slots t))};{(show ObOk C.P C.A w' (MM C (Zae (Zbr gs σ.own) L os) loc'') loc'' (loc'' n) (Zae (Zbr gs σ.own) L os n);by_cases hn:n∈L);{obtain⟨i,o,o',h1,h2,h3,h4⟩:=hget n hn;rw[ZeO hL h1 h3,hin i n h1];have:=(objs i o h2).keep' hless (Yi _) (fun _ _=>rfl);refine this.back hin h4 (fun b hb=>?_);rcases has i o b h2 hb with⟨m,hm,hb'⟩|h;{exact hA m hm b hb'};{exact .inl (YaP hg.fr.size h)}};{rw[ZdT hn,hout n hn];refine Zpn hre (ObOk.keep' hk fx.size (fun b hb=>fx.block b ((hg.objs n).lt hb) ?_) (hg.objs n));rintro⟨m,hm,hb'⟩;exact hg.disj n m b (fun e=>hn (e▸hm)) hb hb'}};{rcases hhas n b hn with⟨h1,i,o,hi,ho,hb⟩|⟨h1,hb⟩<;>rcases hhas m b hm with⟨k1,j,o',hj,ho',hb'⟩|⟨k1,hb'⟩;{refine disj i j o o' b ?_ ho ho' hb hb';rintro rfl;rw[hi]at hj;exact hnm (by simpa using hj)};{rcases has i o b ho hb with⟨p,hp,hpb⟩|h;{exact hg.disj p m b (fun e=>k1 (e▸hp)) hpb hb'};{have:=(hg.objs m).lt hb';omega}};{rcases has j o' b ho' hb' with⟨p,hp,hpb⟩|h;{exact hg.disj p n b (fun e=>h1 (e▸hp)) hpb hb};{have:=(hg.objs n).lt hb;omega}};{exact hg.disj n m b hnm hb hb'}};{exact back_rep hin (RepA.keep hless _ _ hr) hb}
def G.lent(hg:G C σ loc a w){L:List Nat}{l' os:List Ob}{loc':Nat->Value}{w':World}{M':Cells}(hL:L.Nodup)(hlen:l'.length=L.length)(hA:∀n∈L,∀b,(σ.own n).has (loc n) b->C.A b)(fx:Fx w w' (Zdn σ.own loc L))(kp:∀p:Addr,(w.cell? p).isSome=true->¬MM C σ.own loc p.block p.off->w'.cell? p=w.cell? p/\¬M' p.block p.off)(sub:∀b o,(MM C σ.own loc b o/\¬Zdn σ.own loc L b)\/(∃(i:Nat)(ob:Ob),l'[i]? =some ob/\ob.mut (loc' (1000+i)) b o)->M' b o)(objs:∀(i:Nat)(o:Ob),l'[i]? =some o->ObOk C.P (fun _=>True) w' M' loc' (loc' (1000+i)) o)(disj:∀(i j:Nat)(o o':Ob)(b:Nat),i≠j->l'[i]? =some o->l'[j]? =some o'->o.has (loc' (1000+i)) b->o'.has (loc' (1000+j)) b->False)(has:∀(i:Nat)(o:Ob)(b:Nat),l'[i]? =some o->o.has (loc' (1000+i)) b->Zdn σ.own loc L b\/w.heap.size<=b)(plc:∀(i n:Nat),L[i]? =some n->(loc n).oneCell'=true->loc' (1000+i)=loc n)(bk:Zap L l'=some os):
  ∃loc'',G C ⟨σ.env,Zae σ.own L os⟩ loc'' a w'/\∀r r' v,r.back L=some r'->RepA w' M' loc' r v->RepA w' (MM C (Zae σ.own L os) loc'') loc'' r' v:=hg.lentG [] hL hlen hA fx kp sub objs disj has (fun i n h1 _ h2=>plc i n h1 h2) (fun n h=>by cases h) bk
end Go.V
namespace Go.V
variable{C:Ctx}{σ:St}{loc:Nat->Value}{a:Act}{w:World}
def locL(b:Nat)(loc:Nat->Value)(L:List Nat):Nat->Value:=fun n=>if b<=n then(match L[n -b]? with|some m=>loc m|none=>undef)else undef
def locL_at{b:Nat}{L:List Nat}{i n:Nat}(h:L[i]? =some n):locL b loc L (b+i)=loc n:=by simp only[locL,Nat.le_add_right,YJ];rw[show b+i -b=i from by omega,h]
def Zf0{L:List Nat}(hL:L.Nodup){i j p:Nat}(hi:L[i]? =some p)(hj:L[j]? =some p):i=j:=by obtain⟨h1,e1⟩:=Ym.1 hi;obtain⟨h2,e2⟩:=Ym.1 hj;have k1:=hL.idxOf_getElem i h1;have k2:=hL.idxOf_getElem j h2;rw[e1]at k1;rw[e2]at k2;omega
def idxOf_get{L:List Nat}{n:Nat}(h:n∈L):L[L.idxOf n]? =some n:=
 Ym.2 ⟨List.idxOf_lt_length_iff.2 h,List.getElem_idxOf _⟩
mutual
def lend_rep(hg:G C σ loc a w){b:Nat}{L:List Nat}:∀{x y:AV}{v:Value},RepA w (MM C σ.own loc) loc x v->x.lend b L σ.own=some y->RepA w (MM C σ.own loc) (locL b loc L) y v
 |.c d,y,v,h,hp=>by simp only[AV.lend,Ya]at hp;subst hp;simpa only[RepA]using h
 |.gr n,y,v,h,hp=>by simp only[AV.lend]at hp;split at hp;{rename_i e sz es hn;split at hp;{rename_i hm;simp only[Ya]at hp;subst hp;simp only[RepA]at h|-;rw[locL_at (idxOf_get hm)];exact h};{simp only[Ya]at hp;subst hp;simp only[RepA]at h|-;rw[h.1];exact hg.grow_data hn}};{split at hp;{rename_i hn;simp only[Ya]at hp;subst hp;simp only[RepA]at h|-;rw[locL_at (idxOf_get hn)];exact h};{cases hp}};{cases hp}
 |.bp n off,y,v,h,hp=>by simp only[AV.lend]at hp;split at hp;{rename_i hn;simp only[Ya]at hp;subst hp;simp only[RepA]at h|-;rw[locL_at (idxOf_get hn)];exact h};{cases hp}
 |.vw sz n off len cap,y,v,h,hp=>by simp only[AV.lend]at hp;split at hp;{rename_i hn;simp only[Ya]at hp;subst hp;simp only[RepA]at h|-;rw[locL_at (idxOf_get hn)];exact h};{cases hp}
 |.agg cs,y,v,h,hp=>by simp only[AV.lend,Yh]at hp;obtain⟨ys,hp,rfl⟩:=hp;simp only[RepA]at h|-;obtain⟨l,rfl,hr⟩:=h;exact⟨l,rfl,lends_rep hg hr hp⟩
 |.tup cs,y,v,h,hp=>by simp only[AV.lend,Yh]at hp;obtain⟨ys,hp,rfl⟩:=hp;simp only[RepA]at h|-;obtain⟨l,rfl,hr⟩:=h;exact⟨l,rfl,lends_rep hg hr hp⟩
 |.fn f cs,y,v,h,hp=>by simp only[AV.lend,Yh]at hp;obtain⟨ys,hp,rfl⟩:=hp;simp only[RepA]at h|-;obtain⟨l,rfl,hr⟩:=h;exact⟨l,rfl,lends_rep hg hr hp⟩
 |.non,y,v,h,hp=>by simp only[AV.lend,Ya]at hp;subst hp;simp only[RepA]
 |.opt _ _,y,v,h,hp=>by simp[AV.lend]at hp
def lends_rep(hg:G C σ loc a w){b:Nat}{L:List Nat}:∀{xs ys:List AV}{l:List Value},RepAs w (MM C σ.own loc) loc xs l->AV.lendL b L σ.own xs=some ys->RepAs w (MM C σ.own loc) (locL b loc L) ys l
 |[],ys,l,h,hp=>by simp only[AV.lendL,Ya]at hp;subst hp;simpa only[RepAs]using h
 |x::xs,ys,l,h,hp=>by simp only[AV.lendL]at hp;split at hp;{rename_i y ys' h1 h2;simp only[Ya]at hp;subst hp;simp only[RepAs]at h|-;obtain⟨v,vs,rfl,k1,k2⟩:=h;exact⟨v,vs,rfl,lend_rep hg k1 h1,lends_rep hg k2 h2⟩};{cases hp}
end
def Ob.lend_has{L:List Nat}{own:Nat->Ob}{o o':Ob}(h:o.lend L own=some o')(v:Value)(b:Nat):o'.has v b↔o.has v b:=by cases o<;>simp only[Ob.lend,Yh,Ya,reduceCtorEq]at h;{obtain⟨cs,_,rfl⟩:=h;cases v<;>first|exact YaK|(rename_i p;cases p<;>exact YaK)};all_goals(subst h;exact YaK)
def Ob.lend_mut{L:List Nat}{own:Nat->Ob}{o o':Ob}(h:o.lend L own=some o')(v:Value):o'.mut v=o.mut v:=by cases o<;>simp only[Ob.lend,Yh,Ya,reduceCtorEq]at h;{obtain⟨cs,_,rfl⟩:=h;cases v<;>first|rfl|(rename_i p;cases p<;>rfl)};all_goals(subst h;rfl)
def ObOk.lend(hg:G C σ loc a w){L:List Nat}{n:Nat}{o':Ob}(hb:(σ.own n).lend L σ.own=some o'):ObOk C.P (fun _=>True) w (MM C σ.own loc) (locL 1000 loc L) (loc n) o'/\∀b,(σ.own n).has (loc n) b->C.A b:=by have h:=hg.objs n;cases ho:σ.own n<;>rw[ho]at h hb<;>simp only[Ob.lend,Yh,Ya,reduceCtorEq]at hb;{obtain⟨cs,hcs,rfl⟩:=hb;obtain⟨b,l,e,h1,h2,h3,h4⟩:=h;refine⟨⟨b,l,e,h1,trivial,h3,lends_rep hg h4 hcs⟩,fun b' hb'=>?_⟩;rw[h1]at hb';simp only[Ob.has]at hb';subst hb';exact h2};{subst hb;obtain⟨xs,h1,h2,h3,h4⟩:=h;refine⟨⟨xs,h1,fun _ _=>trivial,h3,h4⟩,fun b' hb'=>h2 b' ?_⟩;generalize loc n=v at hb';(cases v<;>first|exact hb'.elim|skip);(rename_i A _ _;cases A with|none=>exact hb'.elim|some a=>simp only[Ob.has]at hb';subst hb';rfl)};{subst hb;obtain⟨h1,Lg,h0,h2,h3⟩:=h;refine⟨⟨h1,Lg,h0,h2,fun b hb=>⟨(h3 b hb).1,trivial⟩⟩,fun b hb=>?_⟩;rw[h0]at hb;simp only[Ob.has,Zan]at hb;exact(h3 b hb).2};{subst hb;obtain⟨b,es,clock,h1,h2,h3,h4⟩:=h;refine⟨⟨b,es,clock,h1,trivial,h3,h4⟩,fun b' hb'=>?_⟩;rw[h1]at hb';simp only[Ob.has]at hb';subst hb';exact h2}
def Zck{L:List Nat}{own:Nat->Ob}:∀{ns:List Nat}{l:List Ob},Zar L own ns=some l->l.length=ns.length/\(∀(i n:Nat),ns[i]? =some n->∃o,l[i]? =some o/\(own n).lend L own=some o)/\∀(i:Nat)(o:Ob),l[i]? =some o->∃n,ns[i]? =some n/\(own n).lend L own=some o
 |[],l,h=>by simp only[Zar,Ya]at h;subst h;simp
 |m::ns,l,h=>by simp only[Zar]at h;split at h;{rename_i o os h1 h2;simp only[Ya]at h;subst h;obtain⟨i1,i2,i3⟩:=Zck h2;refine⟨by simp[i1],fun i n hi=>?_,fun i o' hi=>?_⟩;{(match i,hi with|0,hi=>simp at hi;subst hi;exact⟨o,rfl,h1⟩|i+1,hi=>simpa using i2 i n (by simpa using hi))};{(match i,hi with|0,hi=>simp at hi;subst hi;exact⟨m,rfl,h1⟩|i+1,hi=>simpa using i3 i o' (by simpa using hi))}};{cases h}
def Zfq{l:List Ob}{wl:List (List AV)}{i:Nat}{o:Ob}(hl:l.length<=1000)(h:l[i]? =some o):ZaX l wl (1000+i)=o:=by have hlt:=(Ym.1 h).1;unfold ZaX ZbV;rw[Yx Kc,Yt Kc,show 1000+i -1000=i from by omega,Yb,h];rfl
def ZbW{l:List Ob}{i:Nat}{o:Ob}(h:l[i]? =some o):ZbV 1000 l (1000+i)=o:=by unfold ZbV;rw[Yt Kc,show 1000+i -1000=i from by omega,Yb,h];rfl
def ZaG(l:List Ob)(n:Nat):(∃i o,n=1000+i/\l[i]? =some o/\ZbV 1000 l n=o)\/ZbV 1000 l n= .none:=by unfold ZbV;split;{(rename_i h;cases ho:l[n -1000]? with|none=>right;rw[Yb,ho];rfl|some o=>exact .inl ⟨n -1000,o,Kc,ho,by rw[Yb,ho];rfl⟩)};{exact .inr rfl}
def Zcl(l:List Ob)(wl:List (List AV))(n:Nat):(∃i o,n=1000+i/\n<2000/\l[i]? =some o/\ZaX l wl n=o)\/(∃j cs,n=2000+j/\wl[j]? =some cs/\ZaX l wl n= .win cs)\/ZaX l wl n= .none:=by unfold ZaX;split;{(rename_i h;cases hw:wl[n -2000]? with|none=>exact .inr (.inr rfl)|some cs=>exact .inr (.inl ⟨n -2000,cs,Kc,hw,rfl⟩))};{rename_i h;rcases ZaG l n with⟨i,o,h1,h2,h3⟩|h1;{exact .inl ⟨i,o,h1,Kc,h2,h3⟩};{exact .inr (.inr h1)}}
def ZgC(hg:G C σ loc a w){L:List Nat}{l:List Ob}(hL:L.Nodup)(hlen:l.length<=1000)(hl:Zar L σ.own L=some l):
  (∀b k,((MM C σ.own loc b k/\¬Zdn σ.own loc L b)->b<w.heap.size/\¬Foot (ZaX l []) (locL 1000 loc L) b))/\
  (∀b k,AddM (fun b k=>MM C σ.own loc b k/\¬Zdn σ.own loc L b) (ZaX l []) (locL 1000 loc L) b k->MM C σ.own loc b k)/\
  LentOk C.P w (fun b k=>MM C σ.own loc b k/\¬Zdn σ.own loc L b) (locL 1000 loc L) (ZaX l [])/\
  (∀n∈L,∀b,(σ.own n).has (loc n) b->C.A b)/\
  (∀b,Foot (ZbV 1000 l) (locL 1000 loc L) b->Zdn σ.own loc L b)/\(∀b,Foot (ZaX l []) (locL 1000 loc L) b->Zdn σ.own loc L b):=by obtain⟨e1,e2,e3⟩:=Zck hl;(have hone:∀n b,(ZaX l [] n).has (locL 1000 loc L n) b->∃i m,n=1000+i/\L[i]? =some m/\(σ.own m).has (loc m) b:=by intro n b h;rcases Zcl l [] n with⟨i,o,rfl,_,h2,h3⟩|⟨j,cs,_,h2,_⟩|h3;{obtain⟨m,hm,hlm⟩:=e3 i o h2;rw[h3,locL_at hm,Ob.lend_has hlm]at h;exact⟨i,m,rfl,hm,h⟩};{simp at h2};{rw[h3]at h;exact(Ob.has_none _ _ h).elim});(have hfw:∀b,Foot (ZaX l []) (locL 1000 loc L) b->Zdn σ.own loc L b:=by rintro b ⟨n,h⟩;obtain⟨i,m,_,hm,hb⟩:=hone n b h;exact⟨m,Yu hm,hb⟩);(have hfl:∀b,Foot (ZbV 1000 l) (locL 1000 loc L) b->Zdn σ.own loc L b:=by rintro b ⟨n,h⟩;rcases ZaG l n with⟨i,o,rfl,h2,h3⟩|h3;{obtain⟨m,hm,hlm⟩:=e3 i o h2;rw[h3,locL_at hm,Ob.lend_has hlm]at h;exact⟨m,Yu hm,h⟩};{rw[h3]at h;exact(Ob.has_none _ _ h).elim});(have hsub:∀b k,AddM (fun b k=>MM C σ.own loc b k/\¬Zdn σ.own loc L b) (ZaX l []) (locL 1000 loc L) b k->MM C σ.own loc b k:=by rintro b k (⟨h,_⟩|⟨n,h⟩);{exact h};{rcases Zcl l [] n with⟨i,o,rfl,_,h2,h3⟩|⟨j,cs,_,h2,_⟩|h3;{obtain⟨m,hm,hlm⟩:=e3 i o h2;rw[h3,locL_at hm,Ob.lend_mut hlm]at h;exact .inr ⟨m,h⟩};{simp at h2};{rw[h3]at h;exact(Ob.has_none _ _ (Ob.has_of_mut h)).elim}});refine⟨fun b k ⟨h1,h2⟩=>⟨ZpT hg b k h1,fun h=>h2 (hfw b h)⟩,hsub,⟨fun n=>?_,fun n m b hnm h1 h2=>?_⟩,fun n hn b hb=>?_,hfl,hfw⟩;{rcases Zcl l [] n with⟨i,o,rfl,_,h2,h3⟩|⟨j,cs,_,h2,_⟩|h3;{obtain⟨m,hm,hlm⟩:=e3 i o h2;rw[h3,locL_at hm];exact(ObOk.lend hg hlm).1.keep' (Keeps.less hsub) (Yi _) (fun _ _=>rfl)};{simp at h2};{rw[h3];trivial}};{obtain⟨i,p,rfl,hp,hpb⟩:=hone n b h1;obtain⟨j,q,rfl,hq,hqb⟩:=hone m b h2;refine hg.disj p q b ?_ hpb hqb;rintro rfl;exact hnm (by rw[Zf0 hL hp hq])};{obtain⟨i,hi⟩:=Ybf.1 hn;obtain⟨o,_,ho⟩:=e2 i n hi;exact(ObOk.lend hg ho).2 b hb}
end Go.V
namespace Go.V
variable{C:Ctx}{σ:St}{loc:Nat->Value}{a:Act}{w:World}
def Ctx.F_fn(C:Ctx)(f:FuncId):C.F.fn f:=by unfold Ctx.F;cases C.rd<;>exact trivial
def Ctx.F_depth(C:Ctx):C.F.depth=none:=by unfold Ctx.F;cases C.rd<;>rfl
def ZrL{P:Program}{f:FuncId}{args:Array Value}{w:World}{R:Ending->World->Prop}(C:Ctx)(h:Calls P f args w R):CallsIn C.F 0 P f args w R:=by(unfold Ctx.F;cases C.rd with|none=>exact callsIn_wide.2 h|some l=>exact CallsIn.inRound l (callsIn_wide.2 h))
def ZtL{P:Program}{l:Nat}{f:FuncId}{tmps:Array Value}{assign body:Code}{w:World}{R:Ending->World->Prop}(C:Ctx)(h:RoundIn Fence.wide 0 P l f tmps assign body w R):RoundIn C.F 0 P l f tmps assign body w R:=by(unfold Ctx.F;cases C.rd with|none=>exact h|some l'=>exact h)
def ZuH{P:Program}{op:Op}{i:I}(h:CI P op i):∀c,op≠ .defer c:=by intro c;(cases h<;>first|(simp;done)|skip);{rename_i hr;rintro rfl;simp[rawB]at hr};{rename_i hc;rintro rfl;simp[cPrim]at hc}
def ZeE{o:Oper}{i:I}(hc:cI C.P o.op=some i){K:Act->World->Prop}{Q:Exit->Act->World->Prop}(hu:o.uponIn C.F 0 C.P a K Q ((execOp a.eval o).run C.P w)):o.wpIn C.F 0 C.P a w K Q:=
 ⟨fun f _=>C.F_fn f,by rw[Oper.semAt_eq _ _ _ (ZuH (Zcd hc))];exact hu⟩
def Zno{P:Program}{op:Op}{f:X}{xs:List X}(hc:cI P op=some (.call f xs)):∃c f',op= .call c/\c.callee= .value f'/\cX f'=some f/\cXs c.args.toList=some xs:=by(cases Zcd hc with|call hcal hf hxs=>exact⟨_,_,rfl,hcal,hf,hxs⟩)
def Zkz{o:Oper}{f:X}{xs:List X}(hc:cI C.P o.op=some (.call f xs)){fv:Value}{vs:List Value}(he:∀c f',o.op= .call c->c.callee= .value f'->cX f'=some f->cXs c.args.toList=some xs->a.eval f'=fv/\c.args.toList.map a.eval=vs){R:Ending->World->Prop}(h:CallsV C.P fv vs w R){K:Act->World->Prop}{Q:Exit->Act->World->Prop}(hR:∀e w',R e w'->∃v,e= .returned v/\K (a.put o.dst v) w'):o.wpIn C.F 0 C.P a w K Q:=by refine ZeE hc ?_;obtain⟨c,f',ho,hcal,hf',hxs⟩:=Zno hc;obtain⟨e1,e2⟩:=he c f' ho hcal hf' hxs;(have hargs:c.args.map a.eval=vs.toArray:=by apply YaS;rw[YbX,e2]);rcases h with⟨fid,ft,lc,rfl,⟨fn,hfn,hbody,hname⟩,hcall⟩|⟨l,rfl,fn,tmps,assign,body,hy,hround⟩;{obtain⟨bd,hbn⟩:=YaA.1 hbody;(have hrun:(execOp a.eval o).run C.P w= .ok (.enter fid (ft++vs.toArray++lc)) w:=by simp[execOp,ho,resolve,hcal,Deferred.ofValue,e1,invoke,callFunc,hfn,hname,hbn,hargs]);rw[hrun,Oper.uponIn_enter];refine⟨fun h=>(by rw[C.F_depth]at h;cases h),(ZrL C hcall).mono fun e w' hr=>?_⟩;obtain⟨v,rfl,hk⟩:=hR e w' hr;exact hk};{(have hrun:(execOp a.eval o).run C.P w= .ok (.round l fn tmps assign body) w:=by simp[execOp,ho,resolve,hcal,Deferred.ofValue,e1,invoke,hargs,hy]);rw[hrun,Oper.uponIn_round];refine⟨fun h=>(by rw[C.F_depth]at h;cases h),(ZtL C hround).mono fun e w' hr=>?_⟩;obtain⟨v,rfl,hk⟩:=hR e w' hr;exact hk}
section
variable{o:Oper}{f:X}{xs:List X}
def ZcQ(hg:G C σ loc a w)(hc:cI C.P o.op=some (.call f xs)){fid:FuncId}{caps:List AV}(hfd:(σ.val f).dg=true)(hxd:(xs.all fun x=>(σ.val x).dg)=true)(hf:(σ.val f).dv= .fn fid caps)(hcl:ZbF C.P fid){R:Ending->World->Prop}(h:∀vs,RepAs w (MM C σ.own loc) loc (xs.map (fun x=>(σ.val x).dv)++caps) vs->Calls C.P fid vs.toArray w R){K:Act->World->Prop}{Q:Exit->Act->World->Prop}(hR:∀e w',R e w'->∃v,e= .returned v/\K (a.put o.dst v) w'):o.wpIn C.F 0 C.P a w K Q:=by obtain⟨c,f',ho,hcal,hf',hxs⟩:=Zno hc;have hrf:=ZaJ hg hf' hfd;rw[hf]at hrf;simp only[RepA]at hrf;obtain⟨lc,hfv,hrc⟩:=hrf;have hrx:=Zgk hg c.args.toList xs hxs (fun x hx=>by have:=Yn.1 hxd x hx;simpa using this);refine Zkz hc (fv:=.func (.func fid) #[] lc.toArray) (vs:=c.args.toList.map a.eval) (fun c1 f1 h1 h2 _ _=>?_) (.inl ⟨fid,#[],lc.toArray,rfl,hcl,?_⟩) hR;{rw[ho]at h1;cases h1;rw[hcal]at h2;cases h2;exact⟨hfv,rfl⟩};{have:=h _ (hrx.append hrc);(have e1:#[]++(c.args.toList.map a.eval).toArray++lc.toArray=(c.args.toList.map a.eval++lc).toArray:=by apply YaS;simp);rw[e1];exact this}
def ZhZ(hg:G C σ loc a w)(hc:cI C.P o.op=some (.call f xs)){fid:FuncId}{caps args:List AV}{r:AV}(hfd:(σ.val f).dg=true)(hxd:(xs.all fun x=>(σ.val x).dg)=true)(hf:(σ.val f).dv= .fn fid caps)(hp:AV.portL σ.own (xs.map (fun x=>(σ.val x).dv)++caps)=some args)(hpure:r.pureB=true)(hs:FSpec C.P fid args r){K:Act->World->Prop}{Q:Exit->Act->World->Prop}(hK:∀v w',RepA w' (MM C σ.own loc) loc r v->G C σ loc a w'->K (a.put o.dst v) w'):o.wpIn C.F 0 C.P a w K Q:=by refine ZcQ hg hc hfd hxd hf hs.1 (fun vs hvs=>hs.2 w (MM C σ.own loc) vs (ZpT hg) (ports_rep hg hvs hp)) fun e w' h=>?_;obtain⟨v,rfl,hr,hb⟩:=h;exact⟨v,rfl,hK v w' (pure_loc hpure hr) (hg.below hb).2⟩
def grp_len{α:Type}(sz:Nat):∀(n:Nat)(l:List α),(grp sz n l).length=n
 |0,_=>rfl
 |n+1,l=>by simp[grp,grp_len sz n]
def grp_flat{α:Type}(sz:Nat):∀(n:Nat)(l:List α),l.length=n*sz->(grp sz n l).flatten=l
 |0,l,h=>by simp at h;subst h;rfl
 |n+1,l,h=>by(have hm:(n+1)*sz=n*sz+sz:=by rw[YX];omega);rw[hm]at h;simp only[grp,YaC];rw[grp_flat sz n _ (by simp;omega)];exact Yah sz l
def grp_sz{α:Type}(sz:Nat):∀(n:Nat)(l:List α),l.length=n*sz->∀e∈grp sz n l,e.length=sz
 |0,l,h,e,he=>by simp[grp]at he
 |n+1,l,h,e,he=>by(have hm:(n+1)*sz=n*sz+sz:=by rw[YX];omega);rw[hm]at h;simp only[grp,YF]at he;rcases he with rfl|he;{simp;omega};{exact grp_sz sz n _ (by simp;omega) e he}
def ZfK(hg:G C σ loc a w){n:Nat}{cs:List AV}(h:(σ.own n).cellsR=some cs):∃b l rest e,loc n= .pointer (some ⟨b,0,none⟩)/\AtC w b (l++rest) e/\RepAs w (MM C σ.own loc) loc cs l/\∀o,MM C σ.own loc b o:=by have hob:=hg.objs n;cases ho:σ.own n<;>rw[ho]at h hob<;>simp only[Ob.cellsR,Ya,reduceCtorEq]at h;{subst h;obtain⟨b,l,e,h1,_,h3,h4⟩:=hob;exact⟨b,l,[],e,h1,by simpa using h3,h4,fun o=> .inr ⟨n,by rw[ho,h1];rfl⟩⟩};{subst h;obtain⟨b,l,rest,e,h1,h3,h4⟩:=hob;exact⟨b,l,rest,e,h1,h3,h4,fun o=> .inr ⟨n,by rw[ho,h1];rfl⟩⟩}
def elemsV_rep(hg:G C σ loc a w){x:AV}{v:Value}{sz:Nat}{es:List (List CD)}(hr:RepA w (MM C σ.own loc) loc x v)(he:x.elemsV σ.own=some (sz,es)):RepC w (fun _ _=>False) (.sl sz es) v:=by cases x<;>simp only[AV.elemsV,reduceCtorEq]at he;rename_i sz' n off len cap;split at he;{rename_i cs hcs;split at he;{rename_i hfit;simp only[Yh,Yj]at he;obtain⟨ds,hds,rfl,rfl⟩:=he;obtain⟨b,l,rest,e,hl,hh,hrs,_⟩:=ZfK hg hcs;simp only[RepA]at hr;obtain⟨b',o',hl',rfl,hoff,hlc,hcm⟩:=hr;rw[hl]at hl';simp only[Value.pointer.injEq,Ya,Addr.mk.injEq,Ya2]at hl';subst hl';have hll:=hrs.length;have hrd:=toCDs_rep hg ((hrs.drop off).take (len*sz')) hds;have hdl:=hrd.length;simp only[Yc,Y4,Yac]at hdl;(have hdl':ds.length=len*sz':=by omega);simp only[RepC,grp_len];refine⟨_,cap,rfl,hlc,hcm,?_⟩;by_cases h0:len=0;{subst h0;exact .inl rfl};{right;have ho:o'=off:=hoff Kc;subst ho;refine⟨_,rfl,?_⟩;refine repE_of (grp sz' len ds) ((l.drop o').take (len*sz')) o' (grp_sz sz' len ds hdl') ?_ (fun j u hj=>?_) (fun _ _ h=>h);{rw[grp_flat sz' len ds hdl'];exact RepAs.keep (Keeps.less fun _ _ h=>h.elim) _ _ hrd};{rw[Y6]at hj;split at hj;{rw[Yaf]at hj;rw[cell_bp hh,Y3 (Ym.1 hj).1,hj]};{cases hj}}}};{cases he}};{cases he}
mutual
def vport_rep(hg:G C σ loc a w):∀{x:AV}{v:Value}{y:AV},RepA w (MM C σ.own loc) loc x v->x.vport σ.own=some y->RepA w (fun _ _=>False) (fun _=>undef) y v
 |.c d,v,y,h,hp=>by simp only[AV.vport,Ya]at hp;subst hp;simp only[RepA]at h|-;exact RepC.keeps (Keeps.less fun _ _ h=>h.elim) _ _ h
 |.gr n,v,y,h,hp=>by simp only[AV.vport]at hp;split at hp;{rename_i e sz es hn;simp only[Ya]at hp;subst hp;simp only[RepA]at h|-;rw[h.1];exact RepC.keeps (Keeps.less fun _ _ h=>h.elim) _ _ (hg.grow_data hn)};{cases hp}
 |.vw sz n off len cap,v,y,h,hp=>by simp only[AV.vport,Yh]at hp;obtain⟨⟨s,es⟩,he,rfl⟩:=hp;simp only[RepA];exact elemsV_rep hg h he
 |.agg cs,v,y,h,hp=>by simp only[AV.vport,Yh]at hp;obtain⟨ys,hp,rfl⟩:=hp;simp only[RepA]at h|-;obtain⟨l,rfl,hr⟩:=h;exact⟨l,rfl,vports_rep hg hr hp⟩
 |.tup cs,v,y,h,hp=>by simp only[AV.vport,Yh]at hp;obtain⟨ys,hp,rfl⟩:=hp;simp only[RepA]at h|-;obtain⟨l,rfl,hr⟩:=h;exact⟨l,rfl,vports_rep hg hr hp⟩
 |.fn f cs,v,y,h,hp=>by simp only[AV.vport,Yh]at hp;obtain⟨ys,hp,rfl⟩:=hp;simp only[RepA]at h|-;obtain⟨l,rfl,hr⟩:=h;exact⟨l,rfl,vports_rep hg hr hp⟩
 |.non,v,y,h,hp=>by simp[AV.vport]at hp
 |.bp _ _,v,y,h,hp=>by simp[AV.vport]at hp
 |.opt _ _,v,y,h,hp=>by simp[AV.vport]at hp
def vports_rep(hg:G C σ loc a w):∀{xs:List AV}{l:List Value}{ys:List AV},RepAs w (MM C σ.own loc) loc xs l->AV.vportL σ.own xs=some ys->RepAs w (fun _ _=>False) (fun _=>undef) ys l
 |[],l,ys,h,hp=>by simp only[AV.vportL,Ya]at hp;subst hp;simpa only[RepAs]using h
 |x::xs,l,ys,h,hp=>by simp only[AV.vportL]at hp;split at hp;{rename_i y ys' h1 h2;simp only[Ya]at hp;subst hp;simp only[RepAs]at h|-;obtain⟨v,vs,rfl,k1,k2⟩:=h;exact⟨v,vs,rfl,vport_rep hg k1 h1,vports_rep hg k2 h2⟩};{cases hp}
end
def scal_c{w':World}{M M':Cells}{d:CD}{v:Value}(hs:d.scal=true)(h:RepC w M d v):RepC w' M' d v:=by cases d<;>simp only[CD.scal,Yp]at hs<;>simpa only[RepC]using h
mutual
def scal_rep{w':World}{M M':Cells}{loc loc':Nat->Value}:∀{r:AV}{v:Value},r.scal=true->RepA w M loc r v->RepA w' M' loc' r v
 |.c d,v,hs,h=>by simp only[AV.scal]at hs;simp only[RepA]at h|-;exact scal_c hs h
 |.agg cs,v,hs,h=>by simp only[AV.scal]at hs;simp only[RepA]at h|-;obtain⟨l,rfl,hr⟩:=h;exact⟨l,rfl,scals_rep hs hr⟩
 |.tup cs,v,hs,h=>by simp only[AV.scal]at hs;simp only[RepA]at h|-;obtain⟨l,rfl,hr⟩:=h;exact⟨l,rfl,scals_rep hs hr⟩
 |.non,v,hs,h=>by simp[AV.scal]at hs
 |.bp _ _,v,hs,h=>by simp[AV.scal]at hs
 |.gr _,v,hs,h=>by simp[AV.scal]at hs
 |.vw _ _ _ _ _,v,hs,h=>by simp[AV.scal]at hs
 |.fn _ _,v,hs,h=>by simp[AV.scal]at hs
 |.opt _ _,v,hs,h=>by simp[AV.scal]at hs
def scals_rep{w':World}{M M':Cells}{loc loc':Nat->Value}:∀{rs:List AV}{l:List Value},AV.scalL rs=true->RepAs w M loc rs l->RepAs w' M' loc' rs l
 |[],l,_,h=>by simpa only[RepAs]using h
 |r::rs,l,hs,h=>by simp only[AV.scalL,Yf]at hs;simp only[RepAs]at h|-;obtain⟨v,vs,rfl,h1,h2⟩:=h;exact⟨v,vs,rfl,scal_rep hs.1 h1,scals_rep hs.2 h2⟩
end
def ZoB(hg:G C σ loc a w)(hc:cI C.P o.op=some (.call f xs)){fid:FuncId}{caps args:List AV}{r:AV}(hfd:(σ.val f).dg=true)(hxd:(xs.all fun x=>(σ.val x).dg)=true)(hf:(σ.val f).dv= .fn fid caps)(hp:AV.vportL σ.own (xs.map (fun x=>(σ.val x).dv)++caps)=some args)(hpure:r.pureB=true)(hs:ZhI C.P fid args r\/FSpec C.P fid args r/\r.scal=true){K:Act->World->Prop}{Q:Exit->Act->World->Prop}(hK:∀v w',RepA w' (MM C σ.own loc) loc r v->G C σ loc a w'->K (a.put o.dst v) w'):o.wpIn C.F 0 C.P a w K Q:=by rcases hs with hs|⟨hs,hsc⟩;{refine ZcQ hg hc hfd hxd hf hs.1 (fun vs hvs=>hs.2 w vs (vports_rep hg hvs hp)) fun e w' h=>?_;obtain⟨v,rfl,hr,hb⟩:=h;exact⟨v,rfl,hK v w' (pure_loc hpure (RepA.keep (Keeps.less fun b k h=>ZpT hg b k h) _ _ hr)) (hg.below hb).2⟩};{refine ZcQ hg hc hfd hxd hf hs.1 (fun vs hvs=>hs.2 w (fun _ _=>False) vs (fun _ _ h=>h.elim) (vports_rep hg hvs hp)) fun e w' h=>?_;obtain⟨v,rfl,hr,hb⟩:=h;exact⟨v,rfl,hK v w' (scal_rep hsc hr) (hg.below hb).2⟩}
end
end Go.V
namespace Go.V
variable{C:Ctx}{σ:St}{loc:Nat->Value}{a:Act}{w:World}
def McL(C:Ctx)(σ:St)(loc:Nat->Value)(L:List Nat):Cells:=fun b k=>MM C σ.own loc b k/\¬Zdn σ.own loc L b
def Zfk{own:Nat->Ob}{e:TypeId}{sz:Nat}{es:List (List CD)}{n:Nat}(ho:own n= .grow e sz es):∀{L:List Nat},n∈L->n∈ZbU own L
 |m::L,h=>by simp only[ZbU];rcases YF.1 h with rfl|h;{rw[ho];simp[Ob.isGrow]};{split;{exact Ya6 _ (Zfk ho h)};{exact Zfk ho h}}
def Zeo{own:Nat->Ob}{n:Nat}:∀{L:List Nat},n∈ZbU own L->∃e sz es,own n= .grow e sz es
 |[],h=>by cases h
 |m::L,h=>by simp only[ZbU]at h;split at h;{rename_i hm;rcases YF.1 h with rfl|h;{cases ho:own n<;>rw[ho]at hm<;>first|exact⟨_,_,_,rfl⟩|cases hm};{exact Zeo h}};{exact Zeo h}
def Zvz(hg:G C σ loc a w){L:List Nat}{l:List Ob}(hL:L.Nodup)(hlen:l.length<=1000)(hl:Zar L σ.own L=some l){w':World}{l' os:List Ob}{loc':Nat->Value}(hll:l'.length=l.length)(fx:Fx w w' (Foot (ZbV 1000 l) (locL 1000 loc L)))(kp:Keeps w w' (AddM (McL C σ loc L) (ZaX l []) (locL 1000 loc L)) (AddM (McL C σ loc L) (ZaX l' []) loc'))(ok:LentOk C.P w' (McL C σ loc L) loc' (ZaX l' []))(has:∀n b,(ZbV 1000 l' n).has (loc' n) b->Foot (ZbV 1000 l) (locL 1000 loc L) b\/w.heap.size<=b)(plc:∀n,(ZaX l [] n).isPlace=true->loc' n=locL 1000 loc L n)(bk:Zap L l'=some os):
  ∃loc'',G C ⟨Zhg (ZbU σ.own L) σ.env,Zae (Zbr (ZbU σ.own L) σ.own) L os⟩ loc'' a w'/\∀r r' v,r.back L=some r'->RepA w' (AddM (McL C σ loc L) (ZaX l' []) loc') loc' r v->RepA w' (MM C (Zae (Zbr (ZbU σ.own L) σ.own) L os) loc'') loc'' r' v:=by
 obtain⟨s1,s2,s3,s4,s5,s6⟩:=ZgC hg hL hlen hl;obtain⟨e1,e2,e3⟩:=Zck hl;have hlen':l'.length<=1000:=by omega
 refine hg.lentG (ZbU σ.own L) (M':=AddM (McL C σ loc L) (ZaX l' []) loc') hL Kc s4 ⟨fx.os,fx.tape,fx.output,fx.size,fun k hk hn=>fx.block k hk fun h=>hn (s5 k h)⟩
  (fun p hp hm=>⟨kp.cell p hp fun h=>hm (s2 _ _ h),kp.free p hp fun h=>hm (s2 _ _ h)⟩) ?_ ?_ ?_ ?_ ?_ ?_ bk
 {rintro b k (h|⟨i,ob,hi,hb⟩);{exact .inl h};{exact .inr ⟨1000+i,by rw[Zfq hlen' hi];exact hb⟩}};{intro i o hi;have:=ok.objs (1000+i);rwa [Zfq hlen' hi]at this};{intro i j o o' b hij hi hj hb hb';exact ok.disj (1000+i) (1000+j) b Kc (by rw[Zfq hlen' hi];exact hb) (by rw[Zfq hlen' hj];exact hb')};{intro i o b hi hb;rcases has (1000+i) b (by rw[ZbW hi];exact hb)with h|h;{exact .inl (s5 b h)};{exact .inr h}};{intro i n hi hng hone;obtain⟨o,ho,hlo⟩:=e2 i n hi;have hob:=hg.objs n;have hnm:n∈L:=Yu hi;(have:(ZaX l [] (1000+i)).isPlace=true:=by(rw[Zfq hlen ho];cases hx:σ.own n with|none=>rw[hx]at hlo;cases hlo|win cs=>rw[hx]at hlo;cases hlo|box cs=>rw[hx]at hlo;simp only[Ob.lend,Yh]at hlo;obtain⟨cs,_,rfl⟩:=hlo;rfl|grow e sz es=>exact absurd (Zfk hx hnm) hng|guest g rem=>rw[hx]at hob;obtain⟨_,Lg,h0,_⟩:=hob;rw[h0]at hone;cases hone|mp kk ek lm=>rw[hx]at hlo;simp only[Ob.lend,Ya]at hlo;subst hlo;rfl));rw[plc _ this,locL_at hi]};{intro n hn;obtain⟨e,sz,es,hx⟩:=Zeo hn;have hob:=hg.objs n;rw[hx]at hob;obtain⟨xs,h1,_⟩:=hob;rcases h1.2 with⟨hv,_⟩|⟨g,cap,cur,hv,_⟩<;>rw[hv]<;>rfl}
section
variable{o:Oper}{f:X}{xs:List X}
def ZrJ(hg:G C σ loc a w)(hc:cI C.P o.op=some (.call f xs))(hd:o.dst.all (·<C.N)=true){K':St->Prop}(h:ZwP C.P o.dst f xs K' σ){K:Act->World->Prop}{Q:Exit->Act->World->Prop}(hK:∀σ' a' w',Gam C σ' a' w'->K' σ'->K a' w'):o.wpIn C.F 0 C.P a w K Q:=by obtain⟨fid,caps,L,l,args,Post,hfd,hxd,hf,hL,hp,hl,hs,hpost⟩:=h;obtain⟨hcl,hlen,hs⟩:=hs;obtain⟨s1,s2,s3,s4,s5,s6⟩:=ZgC hg hL hlen hl;refine ZcQ hg hc hfd hxd hf hcl (fun vs hvs=>hs w (McL C σ loc L) (locL 1000 loc L) vs (fun b k hm=>s1 b k hm) s3 (RepAs.keep (Keeps.less s2) _ _ (lends_rep hg hvs hp))) fun e w' h=>?_;obtain⟨v,r,l',loc',rfl,hP,hll,fx,kp,ok,has,plc,hr⟩:=h;obtain⟨r',os,hb,hbk,hk'⟩:=hpost r l' hP;obtain⟨loc'',hg',hre⟩:=Zvz hg hL hlen hl hll fx kp ok has (fun n hn=>(plc n hn).2) hbk;exact⟨v,rfl,hK _ _ _ ⟨loc'',hg'.put hd (hre r r' v hb hr)⟩ hk'⟩
def G.guest(hg:G C σ loc a w){n:Nat}{g:Gst}{ent rem:List Ent}{Lg L':List Nat}{w':World}(hown:σ.own n= .guest g ent)(hloc:loc n=Zc6 Lg)(fx:Fx w w' (·∈Lg))(hL':∀b∈L',(b∈Lg\/w.heap.size<=b)/\b<w'.heap.size)(hJ:g.J rem L' (fun b o=>(MM C σ.own loc b o/\b∉Lg)\/b∈L') w'):G C ⟨σ.env,upd σ.own n (.guest g rem)⟩ (upd loc n (Zc6 L')) a w':=by have hob:=hg.objs n;rw[hown]at hob;obtain⟨hok,Lg0,h0,_,hA⟩:=hob;(have hfoot:∀b,b∈Lg↔(σ.own n).has (loc n) b:=fun b=>by rw[hown,hloc];simp only[Ob.has,Zan]);(have hA':∀b∈Lg,b<w.heap.size/\C.A b:=by intro b hb;rw[hfoot,hown,h0]at hb;simp only[Ob.has,Zan]at hb;exact hA b hb);(have hin:upd loc n (Zc6 L') n=Zc6 L':=by simp[upd]);(have hout:∀m,m≠n->upd loc n (Zc6 L') m=loc m:=fun m hm=>by simp[upd,hm]);(have hre:∀m,(loc m).oneCell'=true->upd loc n (Zc6 L') m=loc m:=by intro m hm;by_cases e:m=n;{subst e;rw[hloc]at hm;cases hm};{exact hout m e});(have hhas:∀m b,(upd σ.own n (.guest g rem) m).has (upd loc n (Zc6 L') m) b->(m=n/\b∈L')\/(m≠n/\(σ.own m).has (loc m) b):=by intro m b h;by_cases e:m=n;{subst e;rw[hin]at h;simp only[upd,YJ,Ob.has,Zan]at h;exact .inl ⟨rfl,h⟩};{rw[hout m e]at h;simp only[upd,e,YA]at h;exact .inr ⟨e,h⟩});(have hsub:∀b o,MM C (upd σ.own n (.guest g rem)) (upd loc n (Zc6 L')) b o->(MM C σ.own loc b o/\b∉Lg)\/b∈L':=by rintro b o (h|⟨m,h⟩);{refine .inl ⟨.inl h,fun hb=>?_⟩;have h1:=hg.m0 b o h;rcases(hA' b hb).2 with h2|h2;{omega};{exact h1.2 h2}};{by_cases e:m=n;{subst e;rw[hin]at h;simp only[upd,YJ,Ob.mut,Zan]at h;exact .inr h};{rw[hout m e]at h;simp only[upd,e,YA]at h;exact .inl ⟨.inr ⟨m,h⟩,fun hb=>hg.disj m n b e (Ob.has_of_mut h) ((hfoot b).1 hb)⟩}});(have hbar:∀b∈Lg,∀o,MM C σ.own loc b o:=by intro b hb o;refine .inr ⟨n,?_⟩;rw[hown,hloc];simp only[Ob.mut,Zan];exact hb);(have hk:Keeps w w' (MM C σ.own loc) (MM C (upd σ.own n (.guest g rem)) (upd loc n (Zc6 L'))):=by have hne:∀p:Addr,¬MM C σ.own loc p.block p.off->p.block∉Lg:=fun p hm hb=>hm (hbar _ hb _);refine⟨fun p hp hm=>World.cell?_of_block (fx.block _ (Zbx hp) (hne p hm)),fun p hp hm h=>?_⟩;rcases hsub _ _ h with⟨h1,_⟩|h1;{exact hm h1};{rcases(hL' _ h1).1 with h2|h2;{exact hne p hm h2};{have:=Zbx hp;omega}});refine⟨⟨fx.os.trans hg.fr.os,fx.tape.trans hg.fr.tape,fx.output.trans hg.fr.output,YaP hg.fr.size fx.size,fun k hk hx=>?_⟩,hg.m0,hg.kp.trans hk,fun x hx=>?_,hg.mnd,fun m hm=>?_,hg.size,fun t=>RepA.keep hk _ _ ((hg.slots t).reloc hre),fun m=>?_,fun m k b hmk hm hk'=>?_⟩;{refine(fx.block k (YaR hk hg.fr.size) fun hb=>?_).trans (hg.fr.block k hk hx);rcases(hA' k hb).2 with h2|h2;{exact absurd hk Kc};{exact hx h2}};{obtain⟨D,e1,e2,e3,e4⟩:=hg.marks x hx;have hlt:=(YK.1 e3).1;refine⟨D,e1,e2,(fx.block D hlt fun hb=>e4 ⟨n,(hfoot D).1 hb⟩).trans e3,?_⟩;rintro⟨m,hm⟩;rcases hhas m D hm with⟨_,h⟩|⟨_,h⟩;{rcases(hL' D h).1 with h2|h2;{exact e4 ⟨n,(hfoot D).1 h2⟩};{omega}};{exact e4 ⟨m,h⟩}};{obtain⟨p1,p2,p3⟩:=hg.pin m hm;exact⟨p1,(hre m (by rw[p2];exact Zj8 p3)).trans p2,p3⟩};{(show ObOk C.P C.A w' (MM C (upd σ.own n (.guest g rem)) (upd loc n (Zc6 L'))) (upd loc n (Zc6 L')) (upd loc n (Zc6 L') m) (upd σ.own n (.guest g rem) m);by_cases e:m=n);{subst e;rw[hin];simp only[upd,YJ];refine⟨hok,L',rfl,hok.keep hJ (Keeps.less hsub) (fun _ _=>rfl) (Yi _),fun b hb=>⟨(hL' b hb).2,?_⟩⟩;rcases(hL' b hb).1 with h|h;{exact(hA' b h).2};{exact .inl (YaP hg.fr.size h)}};{rw[hout m e];(have:upd σ.own n (.guest g rem) m=σ.own m:=by simp[upd,e]);rw[this];exact(ObOk.keep' hk fx.size (fun b hb=>fx.block b ((hg.objs m).lt hb) fun h=>hg.disj m n b e hb ((hfoot b).1 h)) (hg.objs m)).reloc hre}};{rcases hhas m b hm with⟨e1,h1⟩|⟨e1,h1⟩<;>rcases hhas k b hk' with⟨e2,h2⟩|⟨e2,h2⟩;{exact hmk (e1.trans e2.symm)};{rcases(hL' b h1).1 with h|h;{exact hg.disj k n b e2 h2 ((hfoot b).1 h)};{have:=(hg.objs k).lt h2;omega}};{rcases(hL' b h2).1 with h|h;{exact hg.disj m n b e1 h1 ((hfoot b).1 h)};{have:=(hg.objs m).lt h1;omega}};{exact hg.disj m k b hmk h1 h2}}
def Zkw{own:Nat->Ob}:∀{L:List Nat}{ws:List (List AV)},ZpK own L ws->ws.length=L.length/\∀(j:Nat)(cs:List AV),ws[j]? =some cs->∃(n:Nat)(ds:List AV),L[j]? =some n/\(own n).cellsR=some ds/\cs<+:ds/\AV.pureL cs=true
 |[],[],_=>⟨rfl,fun j cs h=>by simp at h⟩
 |n::L,w::ws,h=>by(obtain⟨⟨⟨ds,h1,h2⟩,hp⟩,h3⟩:=h;obtain⟨i1,i2⟩:=Zkw h3;refine⟨by simp[i1],fun j cs hj=>?_⟩;match j,hj with|0,hj=>simp at hj;subst hj;exact⟨n,ds,rfl,h1,h2,hp⟩|j+1,hj=>simpa using i2 j cs (by simpa using hj))
 |[],_::_,h=>h.elim
 |_::_,[],h=>h.elim
def Zp4(hg:G C σ loc a w)(hc:cI C.P o.op=some (.call f xs))(hd:o.dst.all (·<C.N)=true){K':St->Prop}(h:ZwO o.dst f xs K' σ){K:Act->World->Prop}{Q:Exit->Act->World->Prop}(hK:∀σ' a' w',Gam C σ' a' w'->K' σ'->K a' w'):o.wpIn C.F 0 C.P a w K Q:=by
 obtain⟨n,g,⟨args,wins,r⟩,rem,L,hown,hfd,hxd,hf,hL,hp,hw,hk'⟩:=h;simp only at hp hw hk';have hob:=hg.objs n;rw[hown]at hob;obtain⟨hok,Lg,hloc,hJ,hA⟩:=hob;obtain⟨c,f',ho,hcal,hf',hxs⟩:=Zno hc;have hrf:=ZaJ hg hf' hfd;rw[hf]at hrf;simp only[RepA,RepC]at hrf;have hrx:=Zgk hg c.args.toList xs hxs (fun x hx=>by have:=Yn.1 hxd x hx;simpa using this);obtain⟨w1,w2⟩:=Zkw hw;have hbar:∀b∈Lg,b<w.heap.size/\∀o,MM C σ.own loc b o:=by
  intro b hb;refine⟨(hA b hb).1,fun o=> .inr ⟨n,?_⟩⟩;rw[hown,hloc];simp only[Ob.mut,Zan];exact hb
 obtain⟨hsc,hcall⟩:=hok.call hJ (ZpT hg) hbar (lends_rep hg hrx hp) (fun m hm =>by unfold locL; rw [Yx Kc]) (fun j cs hj =>by
   obtain⟨m,ds,hm,hcs,⟨t,rfl⟩,hpu⟩:=w2 j cs hj;obtain⟨b,l,rest,e,h1,h2,h3,h4⟩:=ZfK hg hcs;rw[locL_at hm];have hlen:=h3.length;refine⟨b,l.take cs.length,l.drop cs.length++rest,e,h1,by rw[<-YO,Yah];exact h2,?_,hpu,fun hb=>?_,h4⟩
   ·have:=RepAs.take cs.length h3;rw[Ybg rfl]at this;exact pures_loc hpu this
   ·have hmn:m≠n:=by rintro rfl;rw[hown]at hcs;cases hcs
    refine hg.disj m n b hmn ?_ (by rw[hown,hloc];simp only[Ob.has,Zan];exact hb);cases hx:σ.own m<;>rw[hx]at hcs<;>simp only[Ob.cellsR,reduceCtorEq]at hcs<;>rw[h1]<;>rfl)
  (fun i j hi hj he =>by
   obtain⟨m1,ds1,e1,f1,_⟩:=w2 i _ (Yd hi);obtain⟨m2,ds2,e2,f2,_⟩:=w2 j _ (Yd hj);rw[locL_at e1,locL_at e2]at he;obtain⟨b1,_,_,_,g1,_⟩:=ZfK hg f1;obtain⟨b2,_,_,_,g2,_⟩:=ZfK hg f2;by_cases hm:m1=m2
   ·subst hm;exact Zf0 hL e1 e2
   ·exfalso;rw[g1,g2]at he;simp only[Value.pointer.injEq,Ya,Addr.mk.injEq,Ya2]at he;subst he;refine hg.disj m1 m2 b1 hm ?_ ?_
    ·cases hx:σ.own m1<;>rw[hx]at f1<;>simp only[Ob.cellsR,reduceCtorEq]at f1<;>rw[g1]<;>rfl
    ·cases hx:σ.own m2<;>rw[hx]at f2<;>simp only[Ob.cellsR,reduceCtorEq]at f2<;>rw[g2]<;>rfl)
 refine Zkz hc (fv:=g.fv) (vs:=c.args.toList.map a.eval) (fun c1 f1 h1 h2 _ _=>?_) hcall fun e w' h=>?_
 ·rw[ho]at h1;cases h1;rw[hcal]at h2;cases h2;exact⟨hrf.1,rfl⟩
 ·obtain⟨v,L',rfl,hr,fx,hL',hJ'⟩:=h;have hg':=hg.guest hown hloc fx hL' hJ';exact⟨v,rfl,hK _ _ _ ⟨_,hg'.put hd (scal_rep hsc hr)⟩ hk'⟩
end
def G.forget(hg:G C σ loc a w){n:Nat}(hn:σ.own n= .none)(hlt:¬C.pin n):G C ⟨ZdI n σ.env,ZbE n σ.own⟩ (upd loc n undef) a w:=by(have hl:∀m,m≠n->upd loc n undef m=loc m:=fun m hm=>by simp[upd,hm]);(have hhas:∀m b,(ZbE n σ.own m).has (upd loc n undef m) b->(σ.own m).has (loc m) b:=by intro m b h;simp only[ZbE,Ob.has_prg]at h;by_cases hm:m=n;{subst hm;rw[hn]at h;exact(Ob.has_none _ _ h).elim};{rwa [hl m hm]at h});(have hsub:∀b o,MM C (ZbE n σ.own) (upd loc n undef) b o->MM C σ.own loc b o:=by rintro b o (h|⟨m,h⟩);{exact .inl h};{simp only[ZbE,Ob.mut_prg]at h;by_cases hm:m=n;{subst hm;rw[hn]at h;exact(Ob.has_none _ _ (Ob.has_of_mut h)).elim};{rw[hl m hm]at h;exact .inr ⟨m,h⟩}});have hk:Keeps w w (MM C σ.own loc) (MM C (ZbE n σ.own) (upd loc n undef)):=Keeps.less hsub;refine⟨hg.fr,hg.m0,hg.kp.trans hk,fun x hx=>?_,hg.mnd,fun m hm=>?_,hg.size,fun t=>RepA.keep hk _ _ (RepA.prg hl (hg.slots t)),fun m=>?_,fun m k b hmk h1 h2=>hg.disj m k b hmk (hhas m b h1) (hhas k b h2)⟩;{obtain⟨D,e1,e2,e3,e4⟩:=hg.marks x hx;exact⟨D,e1,e2,e3,fun⟨m,hm⟩=>e4 ⟨m,hhas m D hm⟩⟩};{obtain⟨p1,p2,p3⟩:=hg.pin m hm;exact⟨p1,(hl m (fun e=>hlt (e▸hm))).trans p2,p3⟩};{by_cases hm:m=n;{subst hm;show ObOk C.P C.A w _ _ _ ((σ.own m).prg m);rw[hn];trivial};{rw[hl m hm];exact ObOk.keep hl hk (Yi _) (fun _ _=>rfl) (hg.objs m)}}
def Zoc:List Nat->(Nat->Value)->Nat->Value
 |[],l=>l
 |n::L,l=>upd (Zoc L l) n undef
def Zub:∀{L:List Nat}{l:Nat->Value}{n:Nat},n∈L->Zoc L l n=undef
 |m::L,l,n,h=>by simp only[Zoc,upd];split;{rfl};{rename_i hne;exact Zub (by simpa [hne]using h)}
def ZgJ:∀{L:List Nat}{own:Nat->Ob}{n:Nat},own n= .none->Zbr L own n= .none
 |[],own,n,h=>h
 |m::L,own,n,h=>by simp only[Zbr,ZbE];rw[ZgJ h];rfl
def G.forgets:∀{L:List Nat}{σ:St}{loc:Nat->Value},G C σ loc a w->(∀n∈L,¬C.pin n/\(σ.own n).isNone=true)->G C ⟨Zhg L σ.env,Zbr L σ.own⟩ (Zoc L loc) a w
 |[],σ,loc,hg,_=>hg
 |n::L,σ,loc,hg,h=>by have h1:=h n Kd;(have h0:σ.own n= .none:=by cases hx:σ.own n<;>simp_all [Ob.isNone]);have hg':=G.forgets (L:=L) hg (fun m hm=>h m (by simp[hm]));exact hg'.forget (ZgJ h0) h1.1
section
variable{o:Oper}{f:X}{xs:List X}
def ZAc(C:Ctx)(d:Option Nat)(f:X)(xs:List X)(K:St->Prop)(σ:St):Prop:=
 ∃fid caps args Post,(σ.val f).dg=true/\(xs.all fun x=>(σ.val x).dg)=true/\(σ.val f).dv= .fn fid caps/\AV.portL σ.own (xs.map (fun x=>(σ.val x).dv)++caps)=some args/\ZfB C.P fid args Post/\
  ∀r os,Post r os->∃L r' os',L.Nodup/\L.length=os.length/\(∀n∈L,¬C.pin n/\(σ.own n).isNone=true)/\r.back L=some r'/\Zap L os=some os'/\
   K (St.put ⟨Zhg L σ.env,Zae (Zbr L σ.own) L os'⟩ d r')
def ZrK(hg:G C σ loc a w)(hc:cI C.P o.op=some (.call f xs))(hd:o.dst.all (·<C.N)=true){K':St->Prop}(h:ZAc C o.dst f xs K' σ){K:Act->World->Prop}{Q:Exit->Act->World->Prop}(hK:∀σ' a' w',Gam C σ' a' w'->K' σ'->K a' w'):o.wpIn C.F 0 C.P a w K Q:=by
 obtain⟨fid,caps,args,Post,hfd,hxd,hf,hp,hs,hpost⟩:=h;obtain⟨hcl,hs⟩:=hs;refine ZcQ hg hc hfd hxd hf hcl (fun vs hvs=>hs w (MM C σ.own loc) vs (ZpT hg) (ports_rep hg hvs hp)) fun e w' h=>?_;obtain⟨v,r,os,loc',rfl,hP,hlen,hb,ok,has,hr⟩:=h;obtain⟨L,r',os',hL,hll,hall,hbr,hbk,hk'⟩:=hpost r os hP;have hgF:=G.forgets hg hall;(have hnone:∀n∈L,Zbr L σ.own n= .none:=fun n hn=>by have:=hall n hn;exact ZgJ (by cases hx:σ.own n<;>simp_all [Ob.isNone]));(have hnf:∀b,¬Zdn (Zbr L σ.own) (Zoc L loc) L b:=by rintro b ⟨n,hn,hb⟩;rw[hnone n hn]at hb;exact Ob.has_none _ _ hb);(have hsubF:∀b k,MM C (Zbr L σ.own) (Zoc L loc) b k->MM C σ.own loc b k:=by(have:∀(L:List Nat)(σ:St),(∀n∈L,¬C.pin n/\(σ.own n).isNone=true)->∀b k,MM C (Zbr L σ.own) (Zoc L loc) b k->MM C σ.own loc b k:=by intro L σ hall b k hm;rcases hm with h|⟨n,h⟩;{exact .inl h};{(have hkey:∀(L:List Nat)(n:Nat),(n∉L->Zoc L loc n=loc n)/\(∀v,(Zbr L σ.own n).mut v=(σ.own n).mut v):=by(intro L;induction L with|nil=>exact fun n=>⟨fun _=>rfl,fun _=>rfl⟩|cons m L ih=>intro n;refine⟨fun hn=>?_,fun v=>?_⟩;{simp only[YF,Ydb]at hn;simp only[Zoc,upd,hn.1,YA];exact(ih n).1 hn.2};{simp only[Zbr,ZbE,Ob.mut_prg];exact(ih n).2 v}));rw[(hkey L n).2]at h;by_cases hn:n∈L;{have:=hall n hn;(have h0:σ.own n= .none:=by cases hx:σ.own n<;>simp_all [Ob.isNone]);rw[h0]at h;exact(Ob.has_none _ _ (Ob.has_of_mut h)).elim};{rw[(hkey L n).1 hn]at h;exact .inr ⟨n,h⟩}});exact this L σ hall);have howl:∀(i:Nat)(o:Ob),os[i]? =some o->ZbV 1000 os (1000+i)=o:=fun i o hi=>ZbW hi;(have kp:∀p:Addr,(w.cell? p).isSome=true->¬MM C (Zbr L σ.own) (Zoc L loc) p.block p.off->w'.cell? p=w.cell? p/\¬AddM (MM C σ.own loc) (ZbV 1000 os) loc' p.block p.off:=by intro p hp hm;have hlt:=Zbx hp;refine⟨World.cell?_of_block (hb.block _ hlt),?_⟩;rintro(h0|⟨n,h0⟩);{refine hm ?_;rcases h0 with h0|⟨n,h0⟩;{exact .inl h0};{(have hkey:∀(L:List Nat)(n:Nat),(n∉L->Zoc L loc n=loc n)/\(∀v,(Zbr L σ.own n).mut v=(σ.own n).mut v):=by(intro L;induction L with|nil=>exact fun n=>⟨fun _=>rfl,fun _=>rfl⟩|cons m L ih=>intro n;refine⟨fun hn=>?_,fun v=>?_⟩;{simp only[YF,Ydb]at hn;simp only[Zoc,upd,hn.1,YA];exact(ih n).1 hn.2};{simp only[Zbr,ZbE,Ob.mut_prg];exact(ih n).2 v}));by_cases hn:n∈L;{have:=hall n hn;(have hx0:σ.own n= .none:=by cases hx:σ.own n<;>simp_all [Ob.isNone]);rw[hx0]at h0;exact(Ob.has_none _ _ (Ob.has_of_mut h0)).elim};{refine .inr ⟨n,?_⟩;show(Zbr L σ.own n).mut (Zoc L loc n) _ _;rw[(hkey L n).2,(hkey L n).1 hn];exact h0}}};{have:=has n p.block (Ob.has_of_mut h0);omega});have sub:∀b k,(MM C (Zbr L σ.own) (Zoc L loc) b k/\¬Zdn (Zbr L σ.own) (Zoc L loc) L b)\/(∃(i:Nat)(ob:Ob),os[i]? =some ob/\ob.mut (loc' (1000+i)) b k)->AddM (MM C σ.own loc) (ZbV 1000 os) loc' b k:=by rintro b k (⟨h,_⟩|⟨i,ob,hi,hb'⟩);{exact .inl (hsubF b k h)};{exact .inr ⟨1000+i,by rw[howl i ob hi];exact hb'⟩}
 obtain⟨loc'',hg',hre⟩:=hgF.lent (M':=AddM (MM C σ.own loc) (ZbV 1000 os) loc') (l':=os) (loc':=loc') (w':=w') hL hll.symm (fun n hn b hb=>(hnf b ⟨n,hn,hb⟩).elim)
  ⟨hb.os,hb.tape,hb.output,hb.size,fun k hk _=>hb.block k hk⟩ kp sub (fun i o hi=>by have:=ok.objs (1000+i);rwa [howl i o hi]at this)
  (fun i j o o' b hij hi hj h1 h2=>ok.disj (1000+i) (1000+j) b Kc (by rw[howl i o hi];exact h1) (by rw[howl j o' hj];exact h2))
  (fun i o b hi hb'=> .inr (has (1000+i) b (by rw[howl i o hi];exact hb')))
  (fun i n hi hone=>by rw[Zub (Yu hi)]at hone;cases hone) hbk
 exact⟨v,rfl,hK _ _ _ ⟨loc'',hg'.put hd (hre r r' v hbr hr)⟩ hk'⟩
def ZuI(hg:G C σ loc a w)(hc:cI C.P o.op=some (.call f xs))(hd:o.dst.all (·<C.N)=true){K':St->Prop}(h:ZwQ C.P o.dst f xs K' σ){K:Act->World->Prop}{Q:Exit->Act->World->Prop}(hK:∀σ' a' w',Gam C σ' a' w'->K' σ'->K a' w'):o.wpIn C.F 0 C.P a w K Q:=by obtain⟨fid,caps,args,Post,h1,h2,h3,h4,h5,h6⟩:=h;refine ZrK hg hc hd ⟨fid,caps,args,Post,h1,h2,h3,h4,h5,fun r os hp=>?_⟩ hK;obtain⟨L,r',os',k1,k2,k3,k4,k5,k6⟩:=h6 r os hp;refine⟨L,r',os',k1,k2,fun n hn=>?_,k4,k5,k6⟩;have:=Yn.1 k3 n hn;simp only[Yf,Yl]at this;refine⟨fun hp=>?_,this.2⟩;have:=(hg.pin n hp).1;omega
end
end Go.V
namespace Go.V
def Ob.blocks:Ob->Value->List Nat
 |.box _,.pointer (some a)=>[a.block]
 |.win _,.pointer (some a)=>[a.block]
 |.grow ..,.slice (some a) _ _=>[a.block]
 |.guest _ _,.tuple l=>l.toList.filterMap fun v=>match v with|.int .u64 k=>if 0<=k then some k.toNat else Option.none|_=>Option.none
 |.mp _ _ _,.map (some a)=>[a]
 |_,_=>[]
def Zp1(o:Ob)(v:Value)(b:Nat):b∈o.blocks v↔o.has v b:=by(cases o with|none=>cases v<;>simp[Ob.blocks,Ob.has]|box cs=>(cases v<;>first|(simp[Ob.blocks,Ob.has];done)|skip);rename_i p;cases p<;>simp[Ob.blocks,Ob.has,eq_comm]|win cs=>(cases v<;>first|(simp[Ob.blocks,Ob.has];done)|skip);rename_i p;cases p<;>simp[Ob.blocks,Ob.has,eq_comm]|grow e sz es=>(cases v<;>first|(simp[Ob.blocks,Ob.has];done)|skip);rename_i A _ _;cases A<;>simp[Ob.blocks,Ob.has,eq_comm]|guest g rem=>(cases v<;>first|(simp[Ob.blocks,Ob.has,Zmj];done)|skip);rename_i l;simp only[Ob.blocks,Ob.has,Zmj,List.mem_filterMap];constructor;{rintro⟨v,hv,h⟩;split at h;{rename_i k;split at h;{rename_i hk;simp only[Ya]at h;subst h;have:Int.ofNat k.toNat=k:=Ybi hk;rw[this];exact hv};{cases h}};{cases h}};{intro h;exact⟨_,h,Kd⟩}|mp kk ek l=>(cases v<;>first|(simp[Ob.blocks,Ob.has];done)|skip);rename_i p;cases p<;>simp[Ob.blocks,Ob.has,eq_comm])
def Zb5(l:List Ob)(loc:Nat->Value):List Nat:=(List.range l.length).flatMap fun i=>(l.getD i .none).blocks (loc (1000+i))
def ZbH{l:List Ob}{loc:Nat->Value}{b:Nat}:b∈Zb5 l loc↔Foot (ZbV 1000 l) loc b:=by simp only[Zb5,Ya7,Yaj,Zp1,Foot];constructor;{rintro⟨i,hi,h⟩;exact⟨1000+i,by rw[ZbW (Yd hi)];simpa [hi]using h⟩};{rintro⟨n,h⟩;rcases ZaG l n with⟨i,o,rfl,h2,h3⟩|h3;{rw[h3]at h;exact⟨i,(Ym.1 h2).1,by rw[Yb,h2];exact h⟩};{rw[h3]at h;exact(Ob.has_none _ _ h).elim}}
mutual
def RepA.refs{w:World}{M:Cells}{loc loc':Nat->Value}{k:Nat}(hl:∀n,1000<=n->n<1000+k->loc' n=loc n):∀{x:AV}{v:Value},x.refs k=true->RepA w M loc x v->RepA w M loc' x v
 |.c d,v,_,h=>by simpa only[RepA]using h
 |.non,v,_,h=>by simp only[RepA]
 |.bp n off,v,hp,h=>by simp only[AV.refs,Yl]at hp;simp only[RepA]at h|-;rwa [hl n hp.1 hp.2]
 |.gr n,v,hp,h=>by simp only[AV.refs,Yl]at hp;simp only[RepA]at h|-;rwa [hl n hp.1 hp.2]
 |.vw sz n off len cap,v,hp,h=>by simp only[AV.refs,Yl]at hp;simp only[RepA]at h|-;rwa [hl n hp.1 hp.2]
 |.agg cs,v,hp,h=>by simp only[AV.refs]at hp;simp only[RepA]at h|-;obtain⟨l,rfl,hr⟩:=h;exact⟨l,rfl,RepAs.refs hl hp hr⟩
 |.tup cs,v,hp,h=>by simp only[AV.refs]at hp;simp only[RepA]at h|-;obtain⟨l,rfl,hr⟩:=h;exact⟨l,rfl,RepAs.refs hl hp hr⟩
 |.fn f cs,v,hp,h=>by simp only[AV.refs]at hp;simp only[RepA]at h|-;obtain⟨l,rfl,hr⟩:=h;exact⟨l,rfl,RepAs.refs hl hp hr⟩
 |.opt g x,v,hp,h=>by simp only[AV.refs]at hp;simp only[RepA]at h|-;exact⟨fun hg=>RepA.refs hl hp (h.1 hg),h.2⟩
def RepAs.refs{w:World}{M:Cells}{loc loc':Nat->Value}{k:Nat}(hl:∀n,1000<=n->n<1000+k->loc' n=loc n):∀{xs:List AV}{l:List Value},AV.refsL k xs=true->RepAs w M loc xs l->RepAs w M loc' xs l
 |[],l,_,h=>by simpa only[RepAs]using h
 |x::xs,l,hp,h=>by simp only[AV.refsL,Yf]at hp;simp only[RepAs]at h|-;obtain⟨v,vs,rfl,k1,k2⟩:=h;exact⟨v,vs,rfl,RepA.refs hl hp.1 k1,RepAs.refs hl hp.2 k2⟩
end
def ObOk.refs{P:Program}{A:Nat->Prop}{w:World}{M:Cells}{loc loc':Nat->Value}{k:Nat}(hl:∀n,1000<=n->n<1000+k->loc' n=loc n){v:Value}{o:Ob}(hs:o.solid k=true)(h:ObOk P A w M loc v o):ObOk P A w M loc' v o:=by(cases o with|none=>trivial|box cs=>obtain⟨b,l,e,h1,h2,h3,h4⟩:=h;exact⟨b,l,e,h1,h2,h3,h4.refs hl hs⟩|win cs=>cases hs|grow e sz es=>cases hs|guest g rem=>exact h|mp kk ek l=>exact h)
def ZmY{k:Nat}{o:Ob}(hs:o.solid k=true){v:Value}{b:Nat}(h:o.has v b)(j:Nat):o.mut v b j:=by(cases o with|none=>cases hs|box cs=>(cases v<;>first|exact h|skip);rename_i p;cases p<;>exact h|win cs=>cases hs|grow e sz es=>cases hs|guest g rem=>exact h|mp kk ek l=>(cases v<;>first|exact h|skip);rename_i p;cases p<;>exact h)
def ZxG(P:Program)(fc:FuncId)(lc:List Value)(caps:List AV)(Fin:List Ob->Prop)(loc0:Nat->Value)(rem:List Ent)(Lg:List Nat)(M:Nat->Nat->Prop)(w:World):Prop:=
 ∃(l:List Ob)(loc:Nat->Value),Run P fc caps Fin rem l/\l.length<=1000/\(∀n,n<1000\/1000+l.length<=n->loc n=undef)/\(∀n,ObOk P (fun _=>True) w M loc (loc n) (ZbV 1000 l n))/\
  (∀n m b,n≠m->(ZbV 1000 l n).has (loc n) b->(ZbV 1000 l m).has (loc m) b->False)/\RepAs w M loc caps lc/\(∀b,Foot (ZbV 1000 l) loc b->b∈Lg)/\(∀n,(loc0 n).oneCell'=true->(ZbV 1000 l n).isPlace=true/\loc n=loc0 n)
def ZA1(P:Program)(fc:FuncId)(lc:List Value)(caps:List AV)(Fin:List Ob->Prop)(loc0:Nat->Value):Gst:=⟨.func (.func fc) #[] lc.toArray,ZxG P fc lc caps Fin loc0⟩
def Run.solid{P:Program}{fc:FuncId}{caps:List AV}{Fin:List Ob->Prop}{rem:List Ent}{l:List Ob}(h:Run P fc caps Fin rem l):l.all (Ob.solid l.length)=true:=by cases rem<;>exact h.1
def ZbI{l:List Ob}{wl:List (List AV)}{n:Nat}(h:n<2000):ZaX l wl n=ZbV 1000 l n:=by unfold ZaX;rw[Yx Kc]
def Zhy{l:List Ob}{wl:List (List AV)}{j:Nat}{cs:List AV}(h:wl[j]? =some cs):ZaX l wl (2000+j)= .win cs:=by unfold ZaX;rw[Yt Kc,show 2000+j -2000=j from by omega,h]
def Zdh{l:List Ob}{n:Nat}(h:n<1000\/1000+l.length<=n):ZbV 1000 l n= .none:=by rcases ZaG l n with⟨i,o,rfl,h2,_⟩|h3;{have:=(Ym.1 h2).1;omega};{exact h3}
def ZuP{P:Program}{fc:FuncId}{lc:List Value}{caps:List AV}{Fin:List Ob->Prop}{loc0:Nat->Value}(hcl:ZbF P fc):(ZA1 P fc lc caps Fin loc0).Ok P:=by
  refine⟨rfl,?_,?_⟩
  · rintro rem L M w M' w' ⟨l,loc,h1,h2,h3,h4,h5,h6,h7,h8⟩ hk hb hs
    exact⟨l,loc,h1,h2,h3,fun n=>(h4 n).keep' hk hs fun b hbn=>hb b (h7 b ⟨n,hbn⟩),h5,RepAs.keep hk _ _ h6,h7,h8⟩
  · rintro args wins r rem L M w loc2 vs ⟨l,loc,h1,h2,h3,h4,h5,h6,h7,h8⟩ hMlt hbar hargs hl2 hwin hdis
    obtain⟨hsol,hsc,_,_,hspec⟩:=h1;refine⟨hsc,.inl ⟨fc,#[],lc.toArray,rfl,hcl,?_⟩⟩;rw[Array.empty_append];obtain⟨locx,hlocx⟩:∃locx:Nat->Value,locx=fun n=>if 2000<=n then loc2 n else loc n:=⟨_,rfl⟩
    have hx1:∀n,n<2000->locx n=loc n:=fun n h=>by rw[hlocx];simp only;rw[Yx Kc]
    have hx2:∀n,2000<=n->locx n=loc2 n:=fun n h=>by rw[hlocx];simp only;rw[Yt h]
    have hundef:Value.oneCell' undef=false:=rfl;have hre1:∀n,(loc n).oneCell'=true->locx n=loc n:=by
      intro n h;by_cases hn:n<2000
      · exact hx1 n hn
      · rw[h3 n (.inr Kc),hundef]at h;cases h
    have hre2:∀n,(loc2 n).oneCell'=true->locx n=loc2 n:=by
      intro n h;by_cases hn:n<2000
      · rw[hl2 n hn,hundef]at h;cases h
      · exact hx2 n Kc
    have hfoot:∀n b,(ZaX l wins n).has (locx n) b->(n<2000/\(ZbV 1000 l n).has (loc n) b)\/(∃j cs,n=2000+j/\wins[j]? =some cs/\loc2 (2000+j)= .pointer (some ⟨b,0,none⟩)):=by
      intro n b h;by_cases hn:n<2000
      · rw[ZbI hn,hx1 n hn]at h
        exact .inl ⟨hn,h⟩
      · rcases Zcl l wins n with⟨i,o,_,hlt,_⟩|⟨j,cs,rfl,hj,hw⟩|hw
        · omega
        · rw[hw,hx2 _ Kc]at h
          obtain⟨b',_,_,_,e1,_⟩:=hwin j cs hj;rw[e1]at h;simp only[Ob.has]at h;subst h;exact .inr ⟨j,cs,rfl,hj,e1⟩
        · rw[hw]at h;exact(Ob.has_none _ _ h).elim
    have hall:∀b,Foot (ZaX l wins) locx b->∀o,M b o:=by
      rintro b ⟨n,h⟩ o;rcases hfoot n b h with⟨_,h'⟩|⟨j,cs,_,hj,e1⟩
      · exact(hbar b (h7 b ⟨n,h'⟩)).2 o
      · obtain⟨b',_,_,_,e2,_,_,_,_,hM⟩:=hwin j cs hj
        rw[e1]at e2;simp only[Value.pointer.injEq,Ya,Addr.mk.injEq,Ya2]at e2;subst e2;exact hM o
    have hsub:∀b o,AddM (fun b o=>M b o/\¬Foot (ZaX l wins) locx b) (ZaX l wins) locx b o->M b o:=by
      rintro b o (⟨h,_⟩|⟨n,h⟩)
      · exact h
      · exact hall b ⟨n,Ob.has_of_mut h⟩ o
    have hless:=Keeps.less (w:=w) hsub;have hcall:=hspec w (fun b o=>M b o/\¬Foot (ZaX l wins) locx b) locx (vs++lc) (fun b o h=>⟨hMlt b o h.1,h.2⟩)
      ⟨fun n =>by
        rcases Zcl l wins n with⟨i,o,rfl,hlt,ho,hw⟩|⟨j,cs,rfl,hj,hw⟩|hw
        · have h:=h4 (1000+i)
          rw[ZbW ho]at h;rw[hw,hx1 _ hlt];exact(h.keep' hless (Yi _) fun _ _=>rfl).reloc hre1
        · rw[hw,hx2 _ Kc]
          obtain⟨b,u,rest,e,e1,e2,e3,e4,_⟩:=hwin j cs hj;exact⟨b,u,rest,e,e1,e2,RepAs.keep hless _ _ (pures_loc e4 e3)⟩
        · rw[hw];trivial,
       fun n m b hnm hn hm=>by
        rcases hfoot n b hn with⟨_,k1⟩|⟨j,cs,rfl,hj,e1⟩<;>rcases hfoot m b hm with⟨_,k2⟩|⟨j',cs',rfl,hj',e2⟩
        · exact h5 n m b hnm k1 k2
        · obtain⟨b',_,_,_,e3,_,_,_,hnb,_⟩:=hwin j' cs' hj'
          rw[e2]at e3;simp only[Value.pointer.injEq,Ya,Addr.mk.injEq,Ya2]at e3;subst e3;exact hnb (h7 b ⟨n,k1⟩)
        · obtain⟨b',_,_,_,e3,_,_,_,hnb,_⟩:=hwin j cs hj
          rw[e1]at e3;simp only[Value.pointer.injEq,Ya,Addr.mk.injEq,Ya2]at e3;subst e3;exact hnb (h7 b ⟨m,k2⟩)
        · refine hnm ?_
          rw[hdis j j' (Ym.1 hj).1 (Ym.1 hj').1 (e1.trans e2.symm)]⟩
      ((RepAs.keep hless _ _ (hargs.reloc hre2)).append (RepAs.keep hless _ _ (h6.reloc hre1)))
    have e0:vs.toArray++lc.toArray=(vs++lc).toArray:=by apply YaS;simp
    rw[e0];refine hcall.mono fun e w' h=>?_
    obtain⟨v,r',l',loc',rfl,⟨rfl,hrun⟩,hll,fx,kp,ok,has,plc,hr⟩:=h;have hsol':=hrun.solid;have hlen':l'.length<=1000:=by omega
    obtain⟨locn,hlocn⟩:∃locn:Nat->Value,locn=fun n=>if 1000<=n/\n<1000+l'.length then loc' n else undef:=⟨_,rfl⟩
    have hn1:∀n,1000<=n->n<1000+l'.length->locn n=loc' n:=fun n a b=>by rw[hlocn];simp only;rw[Yt ⟨a,b⟩]
    have hn2:∀n,n<1000\/1000+l'.length<=n->locn n=undef:=fun n a=>by rw[hlocn];simp only;rw[Yx Kc]
    have hrange:∀n b,(ZbV 1000 l' n).has (locn n) b->1000<=n/\n<1000+l'.length/\(ZbV 1000 l' n).has (loc' n) b:=by
      intro n b h;by_cases hr:n<1000\/1000+l'.length<=n
      · rw[Zdh hr]at h;exact(Ob.has_none _ _ h).elim
      · refine⟨Kc,Kc,?_⟩
        rwa [hn1 n Kc Kc]at h
    have hfb:∀b,Foot (ZbV 1000 l') locn b↔b∈Zb5 l' loc':=by
      intro b;rw[ZbH];constructor
      · rintro⟨n,h⟩;exact⟨n,(hrange n b h).2.2⟩
      · rintro⟨n,h⟩
        refine⟨n,?_⟩;by_cases hr:n<1000\/1000+l'.length<=n
        · rw[Zdh hr]at h;exact(Ob.has_none _ _ h).elim
        · rwa [hn1 n Kc Kc]
    have hblk:∀b∈Zb5 l' loc',(b∈L\/w.heap.size<=b)/\b<w'.heap.size:=by
      intro b hb;obtain⟨n,hn⟩:=ZbH.1 hb;refine⟨?_,?_⟩
      · rcases has n b hn with⟨m,hm⟩|h
        · by_cases hm2:m<2000
          · rw[hx1 m hm2]at hm
            exact .inl (h7 b ⟨m,hm⟩)
          · rw[Zdh Kc]at hm;exact(Ob.has_none _ _ hm).elim
        · exact .inr h
      · by_cases hr:n<1000\/1000+l'.length<=n
        · rw[Zdh hr]at hn;exact(Ob.has_none _ _ hn).elim
        · have:=ok.objs n
          rw[ZbI Kc]at this;exact this.lt hn
    have hM2:∀b o,((M b o/\b∉L)\/b∈Zb5 l' loc')->AddM (fun b o=>M b o/\¬Foot (ZaX l wins) locx b) (ZaX l' wins) loc' b o:=by
      rintro b o (⟨h,hb⟩|hb)
      · by_cases hf:Foot (ZaX l wins) locx b
        · obtain⟨n,hn⟩:=hf
          rcases hfoot n b hn with⟨_,h'⟩|⟨j,cs,rfl,hj,e1⟩
          · exact(hb (h7 b ⟨n,h'⟩)).elim
          · refine .inr ⟨2000+j,?_⟩
            have hp:=(plc (2000+j) (by rw[Zhy hj];rfl)).2;rw[Zhy hj,hp,hx2 _ Kc,e1];rfl
        · exact .inl ⟨h,hf⟩
      · obtain⟨n,hn⟩:=ZbH.1 hb
        refine .inr ⟨n,?_⟩;rcases ZaG l' n with⟨i,ob,rfl,ho,hw⟩|hw
        · rw[hw]at hn
          rw[Zfq hlen' ho];exact ZmY (Yn.1 hsol' ob (Yu ho)) hn o
        · rw[hw]at hn;exact(Ob.has_none _ _ hn).elim
    have hless':=Keeps.less (w:=w') hM2;have hplace:∀n,(ZbV 1000 l n).isPlace=true->1000<=n/\n<1000+l'.length/\(ZbV 1000 l' n).isPlace=true/\loc' n=loc n:=by
      intro n h;by_cases hr:n<1000\/1000+l.length<=n
      · rw[Zdh hr]at h;cases h
      · have hn:n<2000:=by omega
        have:=plc n (by rw[ZbI hn];exact h);rw[ZbI hn,hx1 n hn]at this;exact⟨Kc,Kc,this.1,this.2⟩
    refine⟨v,Zb5 l' loc',rfl,scal_rep hsc hr,⟨fx.os,fx.tape,fx.output,fx.size,fun k hk hn=>fx.block k hk ?_⟩,hblk,l',locn,hrun,hlen',hn2,fun n=>?_,fun n m b hnm hn hm=>?_,?_,fun b hb=>(hfb b).1 hb,fun n hn=>?_⟩
    · rintro⟨m,hm⟩
      by_cases hm2:m<2000
      · rw[hx1 m hm2]at hm
        exact hn (h7 k ⟨m,hm⟩)
      · rw[Zdh Kc]at hm;exact(Ob.has_none _ _ hm).elim
    · rcases ZaG l' n with⟨i,ob,rfl,ho,hw⟩|hw
      · have hlt:=(Ym.1 ho).1
        rw[hw,hn1 _ Kc Kc];have h:=ok.objs (1000+i);rw[Zfq hlen' ho]at h;exact(h.keep' hless' (Yi _) fun _ _=>rfl).refs hn1 (Yn.1 hsol' ob (Yu ho))
      · rw[hw];trivial
    · obtain⟨a1,a2,a3⟩:=hrange n b hn
      obtain⟨b1,b2,b3⟩:=hrange m b hm;exact ok.disj n m b hnm (by rw[ZbI Kc];exact a3) (by rw[ZbI Kc];exact b3)
    · have hk:Keeps w w' M (fun b o=>(M b o/\b∉L)\/b∈Zb5 l' loc'):=
        ⟨fun p hp hm=>kp.cell p hp fun h=>hm (hsub _ _ h),fun p hp hm h=>kp.free p hp (fun h=>hm (hsub _ _ h)) (hM2 _ _ h)⟩
      refine RepAs.keep hk _ _ (h6.reloc fun n hn=>?_);have hr:¬(n<1000\/1000+l.length<=n):=fun hr=>by rw[h3 n hr,hundef]at hn;cases hn
      have hpl:(ZbV 1000 l n).isPlace=true:=by
        have hob:=h4 n;rcases ZaG l n with⟨i,ob,rfl,ho,hw⟩|hw
        · have hso:=Yn.1 hsol ob (Yu ho)
          rw[hw]at hob|-;cases ob<;>first|rfl|cases hso|skip
          obtain⟨_,Lq,e1,_⟩:=hob;rw[e1]at hn;cases hn
        · exfalso
          have:l[n -1000]? =none:=by
            cases hq:l[n -1000]? with
            |none=>rfl
            |some ob=>
              exfalso;have hq':=ZbW hq;rw[show 1000+(n -1000)=n from by omega,hw]at hq';have hso:=Yn.1 hsol ob (Yu hq);rw[<-hq']at hso;cases hso
          rw[List.getElem?_eq_none_iff]at this;omega
      obtain⟨a1,a2,a3,a4⟩:=hplace n hpl;rw[hn1 n a1 a2];exact a4
    · obtain⟨a1,a2⟩:=h8 n hn
      obtain⟨b1,b2,b3,b4⟩:=hplace n a1;exact⟨b3,by rw[hn1 n b1 b2,b4];exact a2⟩
end Go.V
namespace Go.V
variable{C:Ctx}{σ:St}{loc:Nat->Value}{a:Act}{w:World}
def RepAs.split{M:Cells}:∀{as bs:List AV}{l:List Value},RepAs w M loc (as++bs) l->∃l1 l2,l=l1++l2/\RepAs w M loc as l1/\RepAs w M loc bs l2
 |[],bs,l,h=>⟨[],l,rfl,by simp[RepAs],by simpa using h⟩
 |x::as,bs,l,h=>by simp only[YH,RepAs]at h;obtain⟨v,vs,rfl,h1,h2⟩:=h;obtain⟨l1,l2,rfl,k1,k2⟩:=h2.split;exact⟨v::l1,l2,rfl,by simp only[RepAs];exact⟨v,l1,rfl,h1,k1⟩,k2⟩
def ZrI(hg:G C σ loc a w){o:Oper}{f:X}{xs:List X}(hc:cI C.P o.op=some (.call f xs))(hd:o.dst.all (·<C.N)=true){K':St->Prop}(h:ZwN C.P o.dst f xs K' σ){K:Act->World->Prop}{Q:Exit->Act->World->Prop}(hK:∀σ' a' w',Gam C σ' a' w'->K' σ'->K a' w'):o.wpIn C.F 0 C.P a w K Q:=by
  obtain⟨fid,caps,L,l,pre,fc,fcaps,post,fcaps',pre',post',rem,Fin,r,hfd,hxd,hf,hL,hLl,hsplit,hlf,hpre,hpost,hl,hclc,hrun,hpure,hspec,hend⟩:=h;obtain⟨e1,e2,e3⟩:=Zck hl;have hlen:l.length<=1000:=by omega
  have hsol:l.all (Ob.solid l.length)=true:=by cases rem<;>exact hrun.1
  obtain⟨s1,s2,s3,s4,s5,s6⟩:=ZgC hg hL hlen hl;have hcl:ZbF C.P fid:=(hspec ⟨undef,fun _ _ _ _=>False⟩).1;refine ZcQ (R:=fun e w'=>∃v l' os loc'',e= .returned v/\Fin l'/\Zap L l'=some os/\G C ⟨σ.env,Zae σ.own L os⟩ loc'' a w'/\K' (St.put ⟨σ.env,Zae σ.own L os⟩ o.dst r)/\RepA w' (MM C (Zae σ.own L os) loc'') loc'' r v)
    hg hc hfd hxd hf hcl (fun vs hvs=>?_) fun e w' h=>?_
  · rw[hsplit]at hvs
    obtain⟨l1,l2,rfl,r1,r2⟩:=hvs.split;simp only[RepAs]at r2;obtain⟨fv,l3,rfl,r2,r3⟩:=r2;simp only[RepA]at r2;obtain⟨lc,rfl,r2⟩:=r2
    have hundef:Value.oneCell' undef=false:=rfl;have hloc1:∀n,(locL 1000 loc L n).oneCell'=true->(ZbV 1000 l n).isPlace=true/\n<2000:=by
      intro n hn;unfold locL at hn;split at hn
      · rename_i hge
        cases hm:L[n -1000]? with
        |none=>rw[hm,hundef]at hn;cases hn
        |some m=>
          rw[hm]at hn;simp only at hn;obtain⟨ob,ho,hlo⟩:=e2 _ _ hm;have hlt:=(Ym.1 hm).1;have:=ZbW ho;rw[show 1000+(n -1000)=n from by omega]at this;rw[this];refine⟨?_,Kc⟩;have hob:=hg.objs m;cases hx:σ.own m<;>rw[hx]at hlo hob<;>simp only[Ob.lend,Yh,Ya,reduceCtorEq]at hlo
          · obtain⟨cs,_,rfl⟩:=hlo;rfl
          · subst hlo;have:=Yn.1 hsol _ (Yu ho);cases this
          · obtain⟨_,Lg,h0,_⟩:=hob
            rw[h0]at hn;cases hn
          · subst hlo;rfl
      · rw[hundef]at hn;cases hn
    have hout:∀n,n<1000\/1000+l.length<=n->locL 1000 loc L n=undef:=by
      intro n hn;unfold locL;split
      · rw[YW Kc]
      · rfl
    have hfl:∀b,Foot (ZbV 1000 l) (locL 1000 loc L) b↔Zdn σ.own loc L b:=by
      intro b;refine⟨s5 b,?_⟩;rintro⟨m,hm,hb⟩;obtain⟨i,hi⟩:=Ybf.1 hm;obtain⟨ob,ho,hlo⟩:=e2 i m hi;exact⟨1000+i,by rw[ZbW ho,locL_at hi,Ob.lend_has hlo];exact hb⟩
    have hobj:∀n,ObOk C.P (fun _=>True) w (MM C σ.own loc) (locL 1000 loc L) (locL 1000 loc L n) (ZbV 1000 l n):=by
      intro n;rcases ZaG l n with⟨i,ob,rfl,ho,hw⟩|hw
      · obtain⟨m,hm,hlo⟩:=e3 i ob ho
        rw[hw,locL_at hm];exact(ObOk.lend hg hlo).1
      · rw[hw];trivial
    have hJ:ZxG C.P fc lc fcaps' Fin (locL 1000 loc L) rem (Zb5 l (locL 1000 loc L)) (MM C σ.own loc) w:=by
      refine⟨l,locL 1000 loc L,hrun,hlen,hout,hobj,fun n m b hnm hn hm=>?_,lends_rep hg r2 hlf,fun b hb=>ZbH.2 hb,fun n hn=>⟨(hloc1 n hn).1,rfl⟩⟩;have hs:∀n,(ZbV 1000 l n).has (locL 1000 loc L n) b->n<2000:=by
        intro n h;rcases YaG n 2000 with h'|h'
        · exact h'
        · rw[Zdh Kc]at h;exact(Ob.has_none _ _ h).elim
      exact s3.disj n m b hnm (by rw[ZbI (hs n hn)];exact hn) (by rw[ZbI (hs m hm)];exact hm)
    obtain⟨g,hgd⟩:∃g,g=ZA1 C.P fc lc fcaps' Fin (locL 1000 loc L):=⟨_,rfl⟩;have hgok:g.Ok C.P:=by rw[hgd];exact ZuP hclc
    have hgfv:g.fv= .func (.func fc) #[] lc.toArray:=by rw[hgd];rfl
    have hgJ:g.J=ZxG C.P fc lc fcaps' Fin (locL 1000 loc L):=by rw[hgd];rfl
    obtain⟨Lg,hLg⟩:∃Lg,Lg=Zb5 l (locL 1000 loc L):=⟨_,rfl⟩;have hLgf:∀b,b∈Lg↔Zdn σ.own loc L b:=fun b=>by rw[hLg,ZbH];exact hfl b
    obtain⟨lh,hlh⟩:∃lh:Nat->Value,lh=fun n=>if n=1000 then Zc6 Lg else undef:=⟨_,rfl⟩
    have hlh1:lh 1000=Zc6 Lg:=by rw[hlh];rfl
    have how:∀(rm:List Ent)(n:Nat),ZaX [.guest g rm] [] n=if n=1000 then .guest g rm else .none:=by
      intro rm n;rcases Zcl [.guest g rm] [] n with⟨i,ob,rfl,_,ho,hw⟩|⟨j,cs,_,hj,_⟩|hw
      · have:i=0:=by have:=(Ym.1 ho).1;simp at this;exact this
        subst this;simp at ho;rw[hw,<-ho];simp
      · simp at hj
      · by_cases hn:n=1000
        · subst hn;simp[ZaX,ZbV]at hw
        · rw[hw,Yx hn]
    have hol:∀(rm:List Ent)(n:Nat),ZbV 1000 [.guest g rm] n=if n=1000 then .guest g rm else .none:=by
      intro rm n;rcases ZaG [.guest g rm] n with⟨i,ob,rfl,ho,hw⟩|hw
      · have:i=0:=by have:=(Ym.1 ho).1;simp at this;exact this
        subst this;simp at ho;rw[hw,<-ho];simp
      · by_cases hn:n=1000
        · subst hn;simp[ZbV]at hw
        · rw[hw,Yx hn]
    have hfootg:∀(rm:List Ent)(lx:Nat->Value)(b:Nat),Foot (ZaX [.guest g rm] []) lx b↔Zmj (lx 1000) b:=by
      intro rm lx b;constructor
      · rintro⟨n,h⟩
        rw[how]at h;by_cases hn:n=1000
        · subst hn;rw[Yt rfl]at h;exact h
        · rw[Yx hn]at h;exact(Ob.has_none _ _ h).elim
      · intro h;exact⟨1000,by rw[how,Yt rfl];exact h⟩
    have hfootl:∀(rm:List Ent)(lx:Nat->Value)(b:Nat),Foot (ZbV 1000 [.guest g rm]) lx b↔Zmj (lx 1000) b:=by
      intro rm lx b;constructor
      · rintro⟨n,h⟩
        rw[hol]at h;by_cases hn:n=1000
        · subst hn;rw[Yt rfl]at h;exact h
        · rw[Yx hn]at h;exact(Ob.has_none _ _ h).elim
      · intro h;exact⟨1000,by rw[hol,Yt rfl];exact h⟩
    have hbar:∀b∈Lg,∀k,MM C σ.own loc b k:=by
      intro b hb k;rw[hLg]at hb;obtain⟨n,hn⟩:=ZbH.1 hb;rcases ZaG l n with⟨i,ob,rfl,ho,hw⟩|hw
      · obtain⟨m,hm,hlo⟩:=e3 i ob ho
        rw[hw]at hn;have:=ZmY (Yn.1 hrun.solid ob (Yu ho)) hn k;rw[locL_at hm,Ob.lend_mut hlo]at this;exact .inr ⟨m,this⟩
      · rw[hw]at hn;exact(Ob.has_none _ _ hn).elim
    have hsubg:∀b k,AddM (McL C σ loc L) (ZaX [.guest g rem] []) lh b k->MM C σ.own loc b k:=by
      rintro b k (h|h)
      · exact h.1
      · obtain⟨n,h⟩:=h
        have:Foot (ZaX [.guest g rem] []) lh b:=⟨n,Ob.has_of_mut h⟩;rw[hfootg,hlh1,Zan]at this;exact hbar b this k
    have hless:=Keeps.less (w:=w) hsubg;have hspec1:=(hspec g).2.2 w (McL C σ loc L) lh (l1++ .func (.func fc) #[] lc.toArray::l3)
      (fun b k hm=>⟨ZpT hg b k hm.1,fun h=>by rw[hfootg,hlh1,Zan]at h;exact hm.2 ((hLgf b).1 h)⟩)
      ⟨fun n =>by
        rw[how];by_cases hn:n=1000
        · subst hn
          rw[Yt rfl,hlh1];refine⟨hgok,Lg,rfl,hgok.keep (by rw[hgJ,hLg];exact hJ) hless (fun _ _=>rfl) (Yi _),fun b hb=>⟨?_,trivial⟩⟩;obtain⟨m,hm,hb'⟩:=(hLgf b).1 hb;exact(hg.objs m).lt hb'
        · rw[Yx hn];trivial,
       fun n m b hnm hn hm=>by
        rw[how]at hn hm;by_cases h1:n=1000
        · by_cases h2:m=1000
          · exact hnm (h1.trans h2.symm)
          · rw[Yx h2]at hm;exact Ob.has_none _ _ hm
        · rw[Yx h1]at hn;exact Ob.has_none _ _ hn⟩
      (by
        refine RepAs.keep hless _ _ ((ports_rep hg r1 hpre).append ?_);simp only[RepAs];exact⟨_,l3,rfl,by simp only[RepA,RepC];exact⟨hgfv.symm,by rw[hgfv];rfl⟩,ports_rep hg r3 hpost⟩)
    refine hspec1.mono fun e w' h=>?_
    obtain⟨v,r',l',loc',rfl,⟨rfl,rfl⟩,hll,fx,kp,ok,has,plc,hr⟩:=h;have hob:=ok.objs 1000;rw[how,Yt rfl]at hob;obtain⟨_,Lq,hq,hJ',hLq⟩:=hob;rw[hgJ]at hJ';obtain⟨lf,lx,k1,k2,k3,k4,k5,k6,k7,k8⟩:=hJ';obtain⟨hsolf,hfin⟩:=k1;obtain⟨os,hbk,hlfl,hk'⟩:=hend lf hfin;have hfx:Fx w w' (Zdn σ.own loc L):=⟨fx.os,fx.tape,fx.output,fx.size,fun k hk hn=>fx.block k hk fun h=>hn (by rw[hfootl,hlh1,Zan]at h;exact(hLgf k).1 h)⟩;have hqin:∀b,b∈Lq->Zdn σ.own loc L b\/w.heap.size<=b:=by
      intro b hb;rcases has 1000 b (by rw[hol,Yt rfl,hq];simp only[Ob.has,Zan];exact hb)with h|h
      · rw[hfootl,hlh1,Zan]at h;exact .inl ((hLgf b).1 h)
      · exact .inr h
    obtain⟨loc'',hg',hre⟩:=hg.lent (M':=AddM (McL C σ loc L) (ZaX [.guest g []] []) loc') (l':=lf) (loc':=lx) hL hlfl s4 hfx
      (fun p hp hm=>⟨kp.cell p hp fun h=>hm (hsubg _ _ h),kp.free p hp fun h=>hm (hsubg _ _ h)⟩)
      (by
        rintro b k (h|⟨i,ob,hi,hb⟩)
        · exact .inl h
        · refine .inr ⟨1000,?_⟩
          rw[how,Yt rfl,hq];simp only[Ob.mut,Zan];exact k7 b ⟨1000+i,by rw[ZbW hi];exact Ob.has_of_mut hb⟩)
      (fun i ob hi=>by have:=k4 (1000+i);rwa [ZbW hi]at this)
      (fun i j o o' b hij hi hj hb hb'=>k5 (1000+i) (1000+j) b Kc (by rw[ZbW hi];exact hb) (by rw[ZbW hj];exact hb'))
      (fun i ob b hi hb=>hqin b (k7 b ⟨1000+i,by rw[ZbW hi];exact hb⟩))
      (fun i n hi hone =>by
        have:=(k8 (1000+i) (by rw[locL_at hi];exact hone)).2;rw[this,locL_at hi]) hbk
    refine⟨v,lf,os,loc'',rfl,hfin,hbk,hg',hk',?_⟩;exact hre _ _ v (back_pure hpure) (pure_loc hpure hr)
  · obtain⟨v,l',os,loc'',rfl,h1,h2,h3,h4,h5⟩:=h
    exact⟨v,rfl,hK _ _ _ ⟨loc'',h3.put hd h5⟩ h4⟩
def Zbz(hg:G C σ loc a w){o:Oper}{i:I}(hc:cI C.P o.op=some i)(hd:o.dst.all (·<C.N)=true){K':St->Prop}(h:Zcn C.P o.dst i K' σ){K:Act->World->Prop}{Q:Exit->Act->World->Prop}(hK:∀σ' a' w',Gam C σ' a' w'->K' σ'->K a' w'):o.wpIn C.F 0 C.P a w K Q:=by obtain⟨σ',⟨w',loc',h1⟩,h2⟩:=h C loc a w o rfl hc rfl hd hg;refine ZeE hc ?_;rcases h1 with⟨u,hrun,hg'⟩|⟨hrun,hg'⟩;{rw[hrun,Oper.uponIn_value];exact hK _ _ _ ⟨loc',hg'⟩ h2};{rw[hrun,Oper.uponIn_skip];exact hK _ _ _ ⟨loc',hg'⟩ h2}
def Zgu(hg:G C σ loc a w){o:Oper}{f:X}{xs:List X}(hc:cI C.P o.op=some (.call f xs))(hd:o.dst.all (·<C.N)=true){K':St->Prop}(h:Zc7 C.P o.dst f xs K' σ){K:Act->World->Prop}{Q:Exit->Act->World->Prop}(hK:∀σ' a' w',Gam C σ' a' w'->K' σ'->K a' w'):o.wpIn C.F 0 C.P a w K Q:=by rcases h with h|h|h|h|h|h|h;{obtain⟨fid,caps,args,r,h1,h2,h3,h4,h5,h6,h7⟩:=h;exact ZhZ hg hc h1 h2 h3 h4 h5 h6 fun v w' hr hg'=>hK _ _ _ ⟨loc,hg'.put hd hr⟩ h7};{obtain⟨fid,caps,args,r,h1,h2,h3,h4,h5,h6,h7⟩:=h;exact ZoB hg hc h1 h2 h3 h4 h5 h6 fun v w' hr hg'=>hK _ _ _ ⟨loc,hg'.put hd hr⟩ h7};{exact ZrJ hg hc hd h hK};{exact Zp4 hg hc hd h hK};{exact ZrI hg hc hd h hK};{exact ZuI hg hc hd h hK};{exact Zbz hg hc hd h hK}
def Zej(hg:Gam C σ a w){ops:Array Oper}{o:Oper}{i:Ins}(hc:∃s,cOp C.P C.N ops o=some {i with s:=s}){K:St->Prop}(h:AStep C.P i K σ){K':Act->World->Prop}{Q:Exit->Act->World->Prop}(hK:∀σ' a' w',Gam C σ' a' w'->K σ'->K' a' w'):
  if Region.wanted o (yielded ops a.tmps)=true then o.wpIn C.F 0 C.P a w K' Q else(∀f,o.about C.P w a.eval=some f->C.F.fn f)/\K' (a.put o.dst undef) w:=by obtain⟨loc,hg⟩:=hg;obtain⟨di,ii,gi,si⟩:=i;obtain⟨s,hc⟩:=hc;unfold cOp at hc;split at hc;(case h_2=>cases hc);rename_i ins g hi hgd;split at hc;(case isFalse=>cases hc);rename_i hd;simp only[Ya,Ins.mk.injEq]at hc;obtain⟨rfl,rfl,rfl,_⟩:=hc;unfold ZhY at hgd;(have pure_case:∀{q:Prop}{v x:AV},(pev σ ins=some (q,v)\/pvw σ ins=some (q,v))->q->(∀u,RepA w (MM C σ.own loc) loc v u->RepA w (MM C σ.own loc) loc x u)->K (σ.put o.dst x)->o.wpIn C.F 0 C.P a w K' Q:=by intro q v x hp hq hx hk;obtain⟨u,hrun,hr⟩:Snd C σ loc a w o v:=hp.elim (fun h=>Zs4 hg hi h hq) (fun h=>ZmK hg hi h hq);refine ZeE hi ?_;rw[hrun,Oper.uponIn_value];exact hK _ _ _ ⟨loc,hg.put hd (hx u hr)⟩ hk);(have mut_case:∀{q:Prop}{σ':St},(mev σ o.dst ins=some (q,σ')\/mvw σ o.dst ins=some (q,σ'))->q->K σ'->o.wpIn C.F 0 C.P a w K' Q:=by intro q σ' hm hq hk;obtain⟨w',loc',h⟩:Mnd C σ' a w o:=hm.elim (fun h=>ZsR hg hi hd h hq) (fun h=>ZsX hg hi hd h hq);refine ZeE hi ?_;rcases h with⟨u,hrun,hg'⟩|⟨hrun,hg'⟩;{rw[hrun,Oper.uponIn_value];exact hK _ _ _ ⟨loc',hg'⟩ hk};{rw[hrun,Oper.uponIn_skip];exact hK _ _ _ ⟨loc',hg'⟩ hk});(cases hog:o.guard with|none=>rw[hog]at hgd;simp only[Ya]at hgd;subst hgd;rw[Yt (by simp[Region.wanted,hog])];unfold AStep at h;split at h;{simp only[Zb0]at h;split at h;{exact Zgu hg hi hd h hK};{exfalso;generalize o.op=op at hi;cases Zcd hi};{split at h;{rename_i q v hp;exact pure_case (.inl hp) h.1 (fun _ h=>h) h.2};{split at h;{rename_i q σ' hm;exact mut_case (.inl hm) h.1 h.2};{split at h;{rename_i q v hp;exact pure_case (.inr hp) h.1 (fun _ h=>h) h.2};{split at h;{rename_i q σ' hm;exact mut_case (.inr hm) h.1 h.2};{unfold nvw at h;split at h;{exact Zbz hg hi hd h hK};{rename_i ne x' _ _ _ _ _ _ _;split at h;{(rename_i ex;generalize hop:o.op=op at hi;cases Zcd hi with|nils ne ht hx=>have rx:=ZaJ hg hx h.1;rw[ex]at rx;simp only[RepA,RepC]at rx;obtain⟨A,cap,ev,_⟩:=rx;have hrun:=ZvO hop ht ev (C:=C) (w:=w);refine ZeE (by rw[hop];exact hi) ?_;rw[hrun,Oper.uponIn_value];exact hK _ _ _ ⟨loc,hg.put hd (x:=.c (.bool (bif ne then !A.isNone else A.isNone))) (by simp only[RepA,RepC])⟩ (h.2 _))};{exact h.elim}};{exfalso;generalize o.op=op at hi;cases Zcd hi};{exact Zbz hg hi hd h hK};{exact Zbz hg hi hd h hK};{exact Zbz hg hi hd h hK};{exact Zbz hg hi hd h hK};{exact Zbz hg hi hd h hK};{exact Zbz hg hi hd h hK};{exact h.elim}}}}}}};{simp only[ZaQ]at h;split at h;{exact Zgu hg hi hd (.inl h) hK};{split at h;{rename_i q v hp;exact pure_case (.inl hp) h.1 (fun _ h=>h) h.2};{split at h;{rename_i q σ' hm;exact mut_case (.inl hm) h.1 h.2};{exact h.elim}}}}|some jw=>obtain⟨j,want⟩:=jw;rw[hog]at hgd;simp only at hgd;split at hgd;(case h_2=>cases hgd);rename_i t hj;simp only[Ya]at hgd;subst hgd;(have skip:∀{Gd:Bool}{v:AV},Gd=false->K (σ.put o.dst (.opt Gd v))->K' (a.put o.dst undef) w:=by intro Gd v hfalse hk;refine hK _ _ _ ⟨loc,hg.put hd ?_⟩ hk;simp only[RepA];exact⟨fun h=>(by rw[hfalse]at h;cases h),fun _=>trivial⟩);(have wanted:∀{Gd:Bool},σ.guard (t,want)=some Gd->Region.wanted o (yielded ops a.tmps)=Gd:=by intro Gd hGd;unfold Region.wanted;rw[hog];exact Zfl hg hj hGd);have habout:∀f,o.about C.P w a.eval=some f->C.F.fn f:=fun f _=>C.F_fn f;unfold AStep at h;split at h;{simp only[Zb0]at h;split at h;{exact h.elim};{rename_i Gd hGd;rw[wanted hGd];split at h;{rcases h with h|h|h;{(obtain⟨r,h1,h2,h3⟩:=h;cases hb:Gd with|true=>rw[Yt rfl];obtain⟨fid,caps,args,k1,k2,k3,k4,k5⟩:=h2 hb;refine ZhZ hg hi k1 k2 k3 k4 h1 k5 fun v w' hr hg'=>hK _ _ _ ⟨loc,hg'.put hd ?_⟩ h3;simp only[RepA];exact⟨fun _=>hr,fun h=>by rw[hb]at h;cases h⟩|false=>rw[Yx Kd];exact⟨habout,skip hb h3⟩)};{(obtain⟨r,h1,h2,h3⟩:=h;cases hb:Gd with|true=>rw[Yt rfl];obtain⟨fid,caps,args,k1,k2,k3,k4,k5⟩:=h2 hb;refine ZoB hg hi k1 k2 k3 k4 h1 k5 fun v w' hr hg'=>hK _ _ _ ⟨loc,hg'.put hd ?_⟩ h3;simp only[RepA];exact⟨fun _=>hr,fun h=>by rw[hb]at h;cases h⟩|false=>rw[Yx Kd];exact⟨habout,skip hb h3⟩)};{(cases hb:Gd with|true=>rw[Yt rfl];exact Zgu hg hi hd (h.1 hb) hK|false=>rw[Yx Kd];exact⟨habout,skip rfl (h.2 hb)⟩)}};{split at h;{(rename_i q v hp;cases hb:Gd with|true=>rw[Yt rfl];refine pure_case (.inl hp) (h.1 hb) (fun u hu=>?_) h.2;simp only[RepA];exact⟨fun _=>hu,fun h=>by rw[hb]at h;cases h⟩|false=>rw[Yx Kd];exact⟨habout,skip hb h.2⟩)};{split at h;{(rename_i q σ' hm;cases hb:Gd with|true=>rw[Yt rfl];exact mut_case (.inl hm) (h.1 hb).1 (h.1 hb).2|false=>rw[Yx Kd];exact⟨habout,skip rfl (h.2 hb)⟩)};{split at h;{(rename_i q v hp;cases hb:Gd with|true=>rw[Yt rfl];refine pure_case (.inr hp) (h.1 hb) (fun u hu=>?_) h.2;simp only[RepA];exact⟨fun _=>hu,fun h=>by rw[hb]at h;cases h⟩|false=>rw[Yx Kd];exact⟨habout,skip hb h.2⟩)};{split at h;{(rename_i q σ' hm;cases hb:Gd with|true=>rw[Yt rfl];exact mut_case (.inr hm) (h.1 hb).1 (h.1 hb).2|false=>rw[Yx Kd];exact⟨habout,skip rfl (h.2 hb)⟩)};{unfold Zz7 at h;split at h;{(cases hb:Gd with|true=>rw[Yt rfl];exact Zbz hg hi hd (h.1 hb) hK|false=>rw[Yx Kd];exact⟨habout,skip rfl (h.2 hb)⟩)};{rw[h.1,Yx Kd];exact⟨habout,skip rfl h.2⟩}}}}}}}};{simp only[ZaQ]at h;split at h;{exact h.elim};{rename_i Gd hGd;rw[wanted hGd];split at h;{(obtain⟨r,h1,h2,h3⟩:=h;cases hb:Gd with|true=>rw[Yt rfl];obtain⟨fid,caps,args,k1,k2,k3,k4,k5⟩:=h2 hb;refine ZhZ hg hi k1 k2 k3 k4 h1 k5 fun v w' hr hg'=>hK _ _ _ ⟨loc,hg'.put hd ?_⟩ h3;simp only[RepA];exact⟨fun _=>hr,fun h=>by rw[hb]at h;cases h⟩|false=>rw[Yx Kd];exact⟨habout,skip hb h3⟩)};{split at h;{(rename_i q v hp;cases hb:Gd with|true=>rw[Yt rfl];refine pure_case (.inl hp) (h.1 hb) (fun u hu=>?_) h.2;simp only[RepA];exact⟨fun _=>hu,fun h=>by rw[hb]at h;cases h⟩|false=>rw[Yx Kd];exact⟨habout,skip hb h.2⟩)};{rcases h with h|⟨_,h1,h2⟩;{split at h;{rename_i q σ' hm;obtain⟨h1,h2,h3⟩:=h;subst h1;rw[Yt rfl];exact mut_case (.inl hm) h2 h3};{exact h.elim}};{rw[h1,Yx Kd];exact⟨habout,skip rfl h2⟩}}}}})
def INS(P:Program)(N:Nat)(ops:Array Oper)(o:Oper)(i:Ins):Prop:=∃s ii,cOp P N ops o=some {i with s:=s,i:=ii} /\Vw ii i.i
def ZEW{P:Program}{di:Option Nat}{iv:I}{si:Bool}{K:St->Prop}(hiv:(∃e sz b s x,iv= .appv e sz b s x)\/∃e sz xs,iv= .bslv e sz xs)(h:AStep P ⟨di,iv,none,si⟩ K σ):
  match mvw σ di iv with|some (q,σ')=>q/\K σ'|none=>nvw P σ di iv K:=by unfold AStep at h;split at h;{rcases hiv with⟨e,sz,b,s,x,rfl⟩|⟨e,sz,xs,rfl⟩<;>cases di<;>(simp only[Zb0,pev,vwp,pevO,mev,pvw]at h;exact h)};{rcases hiv with⟨e,sz,b,s,x,rfl⟩|⟨e,sz,xs,rfl⟩<;>cases di<;>simp only[ZaQ,pev,vwp,pevO,mev]at h}
def ZEV{P:Program}{di:Option Nat}{iv:I}{g:Nat×Bool}{si:Bool}{K:St->Prop}(hiv:(∃e sz b s x,iv= .appv e sz b s x)\/∃e sz xs,iv= .bslv e sz xs)(h:AStep P ⟨di,iv,some g,si⟩ K σ):
  ∃Gd,σ.guard g=some Gd/\(match mvw σ di iv with|some (q,σ')=>(Gd=true->q/\K σ')/\(Gd=false->K (σ.put di (.opt false .non)))|none=>Gd=false/\K (σ.put di (.opt false .non))):=by
 unfold AStep at h;split at h
 ·cases hg:σ.guard g with
  |none=>simp only[Zb0,hg]at h
  |some Gd=>refine⟨Gd,rfl,?_⟩;rcases hiv with⟨e,sz,b,s,x,rfl⟩|⟨e,sz,xs,rfl⟩<;>cases di<;>(simp only[Zb0,hg,pev,vwp,pevO,mev,pvw]at h;exact h)
 ·cases hg:σ.guard g with
  |none=>simp only[ZaQ,hg]at h
  |some Gd=>rcases hiv with⟨e,sz,b,s,x,rfl⟩|⟨e,sz,xs,rfl⟩<;>cases di<;>simp only[ZaQ,hg,pev,vwp,pevO,mev,I.putsB,Yc4,reduceCtorEq,Ycu,Yb7]at h
def Zm5(hg:Gam C σ a w){ops:Array Oper}{o:Oper}{di:Option Nat}{ii iv:I}{gi:Option (Nat×Bool)}{s si:Bool}(hc:cOp C.P C.N ops o=some ⟨di,ii,gi,s⟩)(hiv:(∃e sz b s x,iv= .appv e sz b s x)\/∃e sz xs,iv= .bslv e sz xs){K:St->Prop}(h:AStep C.P ⟨di,iv,gi,si⟩ K σ){K':Act->World->Prop}{Q:Exit->Act->World->Prop}(hK:∀σ' a' w',Gam C σ' a' w'->K σ'->K' a' w')(hm:∀q σ',mvw σ o.dst iv=some (q,σ')->q->K σ'->o.wpIn C.F 0 C.P a w K' Q)(hn:mvw σ o.dst iv=none->nvw C.P σ o.dst iv K->o.wpIn C.F 0 C.P a w K' Q):
  if Region.wanted o (yielded ops a.tmps)=true then o.wpIn C.F 0 C.P a w K' Q else(∀f,o.about C.P w a.eval=some f->C.F.fn f)/\K' (a.put o.dst undef) w:=by obtain⟨loc,hg⟩:=hg;unfold cOp at hc;split at hc;(case h_2=>cases hc);rename_i ins g hi hgd;split at hc;(case isFalse=>cases hc);(rename_i hd;simp only[Ya,Ins.mk.injEq]at hc;obtain⟨rfl,rfl,rfl,_⟩:=hc;unfold ZhY at hgd;cases hog:o.guard with|none=>rw[hog]at hgd;simp only[Ya]at hgd;subst hgd;rw[Yt (by simp[Region.wanted,hog])];have h:=ZEW hiv h;split at h;{rename_i q σ' hmm;exact hm q σ' hmm h.1 h.2};{rename_i hmm;exact hn hmm h}|some jw=>obtain⟨j,want⟩:=jw;rw[hog]at hgd;simp only at hgd;split at hgd;(case h_2=>cases hgd);rename_i t hj;simp only[Ya]at hgd;subst hgd;(have skip:∀{Gd:Bool}{v:AV},Gd=false->K (σ.put o.dst (.opt Gd v))->K' (a.put o.dst undef) w:=by intro Gd v hfalse hk;refine hK _ _ _ ⟨loc,hg.put hd ?_⟩ hk;simp only[RepA];exact⟨fun h=>(by rw[hfalse]at h;cases h),fun _=>trivial⟩);have habout:∀f,o.about C.P w a.eval=some f->C.F.fn f:=fun f _=>C.F_fn f;obtain⟨Gd,hGd,h⟩:=ZEV hiv h;(have wanted:Region.wanted o (yielded ops a.tmps)=Gd:=by unfold Region.wanted;rw[hog];exact Zfl hg hj hGd);rw[wanted];split at h;{(rename_i q σ' hmm;cases hb:Gd with|true=>rw[Yt rfl];exact hm q σ' hmm (h.1 hb).1 (h.1 hb).2|false=>rw[Yx Kd];exact⟨habout,skip rfl (h.2 hb)⟩)};{rw[h.1,Yx Kd];exact⟨habout,skip rfl h.2⟩})
def Zy4{σ:St}{one:Bool}{sz:Nat}{x:X}{r:Prop×AV}(h:pev σ (.ldd one sz x)=some r):pev σ (.ld one sz x)=some r:=by simp only[pev,vwp,pevO]at h|-;split at h;{rename_i cs hx;rw[hx];exact h};{cases h}
def Zvy{P:Program}{di:Option Nat}{one:Bool}{sz:Nat}{x:X}{gi:Option (Nat×Bool)}{si:Bool}{K:St->Prop}(h:AStep P ⟨di,.ldd one sz x,gi,si⟩ K σ):
  AStep P ⟨di,.ld one sz x,gi,si⟩ K σ\/∃g,gi=some g/\σ.guard g=some false/\K (σ.put di (.opt false .non)):=by
 unfold AStep at h|-;cases hp:pev σ (.ldd one sz x)with
 |some r=>
  left
  have hp':=Zy4 hp;cases gi with
  |none=>split at h<;>(rename_i hs;first|rw[Yt hs]|rw[Yx hs])<;>simp only[Zb0,ZaQ,hp,hp']at h|-<;>exact h
  |some g=>
   cases hg:σ.guard g with
   |none=>split at h<;>simp only[Zb0,ZaQ,hg]at h
   |some Gd=>split at h<;>(rename_i hs;first|rw[Yt hs]|rw[Yx hs])<;>simp only[Zb0,ZaQ,hg,hp,hp']at h|-<;>exact h
 |none=>(cases gi with|none=>exfalso;cases di<;>(split at h<;>simp only[Zb0,ZaQ,hp,mev,pvw,mvw,nvw]at h)|some g=>right;(refine⟨g,rfl,?_⟩;cases hg:σ.guard g with|none=>exfalso;split at h<;>simp only[Zb0,ZaQ,hg]at h|some Gd=>cases di<;>(split at h<;>simp only[Zb0,ZaQ,hg,hp,mev,pvw,mvw,nvw,Zz7,I.putsB,Yb7,Ycu,Ydd,Yc4,reduceCtorEq]at h)<;>exact⟨by rw[h.1],h.2⟩))
def Zuv{P:Program}{d:Option Nat}{f:X}{xs:List X}{K:St->Prop}{σ:St}(h:Zog P d f xs K σ):Zc7 P d f xs K σ:=by obtain⟨dd,fid,caps,args,Post,rfl,h1,h2,h3,h4,h5,h6,h7,h8⟩:=h;refine .inr (.inr (.inr (.inr (.inr (.inl ⟨fid,caps,args,Post,h3,h4,h5,h6,h7,fun r os hp=>?_⟩)))));obtain⟨o,r',o',rfl,k1,k2,k3⟩:=h8 r os hp;refine⟨[dd],r',[o'],Kd,rfl,by simp[h1,h2],k1,by simp only[Zap,k2],?_⟩;exact k3
def Zp5{P:Program}{di:Option Nat}{f:X}{xs:List X}{gi:Option (Nat×Bool)}{si:Bool}{K:St->Prop}(h:AStep P ⟨di,.calln f xs,gi,si⟩ K σ):
  AStep P ⟨di,.call f xs,gi,true⟩ K σ\/∃g,gi=some g/\σ.guard g=some false/\K (σ.put di (.opt false .non)):=by(unfold AStep at h|-;cases gi with|none=>left;rw[Yt rfl];split at h;{simp only[Zb0]at h|-;exact Zuv h};{exfalso;cases di<;>simp only[ZaQ,pev,vwp,pevO,mev]at h}|some g=>right;(refine⟨g,rfl,?_⟩;cases hg:σ.guard g with|none=>exfalso;split at h<;>simp only[Zb0,ZaQ,hg]at h|some Gd=>cases di<;>(split at h<;>simp only[Zb0,ZaQ,hg,pev,vwp,pevO,mev,pvw,mvw,nvw,Zz7,I.putsB,Yb7,Ycu,Ydd,Yc4,reduceCtorEq]at h)<;>exact⟨by rw[h.1],h.2⟩))
def Zkj(hg:Gam C σ a w){ops:Array Oper}{o:Oper}{di:Option Nat}{ii:I}{g:Nat×Bool}{s:Bool}(hc:cOp C.P C.N ops o=some ⟨di,ii,some g,s⟩)(hgd:σ.guard g=some false){K:St->Prop}(hk:K (σ.put di (.opt false .non))){K':Act->World->Prop}{Q:Exit->Act->World->Prop}(hK:∀σ' a' w',Gam C σ' a' w'->K σ'->K' a' w'):
  if Region.wanted o (yielded ops a.tmps)=true then o.wpIn C.F 0 C.P a w K' Q else(∀f,o.about C.P w a.eval=some f->C.F.fn f)/\K' (a.put o.dst undef) w:=by obtain⟨loc,hg1⟩:=hg;unfold cOp at hc;split at hc;(case h_2=>cases hc);rename_i ins g' hi hgd';split at hc;(case isFalse=>cases hc);(rename_i hd;simp only[Ya,Ins.mk.injEq]at hc;obtain⟨rfl,rfl,rfl,_⟩:=hc;unfold ZhY at hgd';cases hog:o.guard with|none=>rw[hog]at hgd';simp at hgd'|some jw=>obtain⟨j,want⟩:=jw;rw[hog]at hgd';simp only at hgd';split at hgd';(case h_2=>cases hgd');rename_i t hj;simp only[Ya]at hgd';subst hgd';(have wanted:Region.wanted o (yielded ops a.tmps)=false:=by unfold Region.wanted;rw[hog];exact Zfl hg1 hj hgd);rw[wanted,Yx Kd];refine⟨fun f _=>C.F_fn f,hK _ _ _ ⟨loc,hg1.put hd ?_⟩ hk⟩;simp only[RepA];exact⟨fun h=>(by cases h),fun _=>trivial⟩)
def ZdN(hg:Gam C σ a w){ops:Array Oper}{o:Oper}{i:Ins}(hc:INS C.P C.N ops o i){K:St->Prop}(h:AStep C.P i K σ){K':Act->World->Prop}{Q:Exit->Act->World->Prop}(hK:∀σ' a' w',Gam C σ' a' w'->K σ'->K' a' w'):
  if Region.wanted o (yielded ops a.tmps)=true then o.wpIn C.F 0 C.P a w K' Q else(∀f,o.about C.P w a.eval=some f->C.F.fn f)/\K' (a.put o.dst undef) w:=by
 obtain⟨s,ii,hc,hvw⟩:=hc;obtain⟨di,iv,gi,si⟩:=i;simp only at hc hvw;(have hci:cI C.P o.op=some ii/\o.dst.all (·<C.N)=true:=by unfold cOp at hc;split at hc;{rename_i ins g hi hgd;split at hc;{rename_i hd;simp only[Ya,Ins.mk.injEq]at hc;obtain⟨_,rfl,_⟩:=hc;exact⟨hi,hd⟩};{cases hc}};{cases hc});obtain⟨loc,hg1⟩:=id hg;rcases hvw with rfl|⟨e,sz,b,sx,x,rfl,rfl⟩|⟨e,sz,xs,rfl,rfl⟩|⟨one,sz,x,rfl,rfl⟩|⟨f,xs,rfl,rfl⟩;{exact Zej hg ⟨s,hc⟩ h hK};{refine Zm5 hg hc (.inl ⟨_,_,_,_,_,rfl⟩) h hK (fun q σ' hm=>by cases hd:o.dst<;>rw[hd]at hm<;>simp[mvw]at hm) (fun _ hn=>?_);obtain⟨hi,hd⟩:=hci;simp only[nvw]at hn;split at hn;{rename_i d n len cs q k ys p hod hvb hvc;obtain⟨q1,q2,q3,q4,q5,q6,q7,hrest⟩:=hn;(have hd':d<C.N:=by rw[hod]at hd;simpa using hd);(have hi0:=hi;generalize hop:o.op=op at hi;cases Zcd hi with|app ht hi' hz hzs hpos hs hx=>by_cases hk:k=0;{rw[Yt hk]at hrest;obtain⟨hl0,hkk⟩:=hrest;subst hk;subst hl0;obtain⟨u,hrun,hru⟩:=Zru hg1 hop ht hi' hs hx q2 q3 hvb hvc q4 q5;refine ZeE hi0 ?_;rw[hrun,Oper.uponIn_value];refine hK _ _ _ ⟨loc,?_⟩ hkk;rw[hod];exact hg1.put (d:=some d) (by simpa using hd') (by simp only[RepA];exact hru)};{rw[Yx hk]at hrest;obtain⟨g,w',cap,cur,e',xs,hrun⟩:=ZuC hg1 hop ht hi' hz hzs hpos hs hx q2 q3 hvb hvc q4 q5 q6 q7 hk;obtain⟨j,hj,w2,loc2,hmn⟩:=ZuB hg1 hod hd' q1 hrun;have hkk:=hrest cap j hrun.hcap.1 hrun.hcap.2 hj;refine ZeE hi0 ?_;rcases hmn with⟨u,hr,hg'⟩|⟨hr,hg'⟩;{rw[hr,Oper.uponIn_value];exact hK _ _ _ ⟨loc2,hg'⟩ hkk};{rw[hr,Oper.uponIn_skip];exact hK _ _ _ ⟨loc2,hg'⟩ hkk}})};{exact hn.elim}}
 ·refine Zm5 hg hc (.inr ⟨_,_,_,rfl⟩) h hK (fun q σ' hm hq hkk=>?_) (fun _ hn=>hn.elim);obtain⟨hi,hd⟩:=hci;cases hod:o.dst with
  |none=>rw[hod]at hm;simp[mvw]at hm
  |some d=>
   rw[hod]at hm hd;(have hd':d<C.N:=by simpa using hd);simp only[mvw]at hm;split at hm
   ·rename_i p cs hgo;simp only[Ya,Yj]at hm;obtain⟨rfl,rfl⟩:=hm;have hi0:=hi;generalize hop:o.op=op at hi;cases Zcd hi with
    |bsl ht hs hz hpr hpos hlim hzl hxs=>obtain⟨w2,loc2,hmn⟩:=Zp2 hg1 hop hod hd' ht hs hz hpr hpos hlim hzl hxs hgo hq.1 hq.2;refine ZeE hi0 ?_;rcases hmn with⟨u,hr,hg'⟩|⟨hr,hg'⟩;{rw[hr,Oper.uponIn_value];exact hK _ _ _ ⟨loc2,hg'⟩ hkk};{rw[hr,Oper.uponIn_skip];exact hK _ _ _ ⟨loc2,hg'⟩ hkk}
   ·cases hm
 {rcases Zvy h with h|⟨g,rfl,hgd,hk⟩;{exact Zej hg ⟨s,hc⟩ h hK};{exact Zkj hg hc hgd hk hK}};{rcases Zp5 h with h|⟨g,rfl,hgd,hk⟩;{exact Zej hg ⟨s,hc⟩ h hK};{exact Zkj hg hc hgd hk hK}}
end Go.V
namespace Go.V
inductive Eff where
 |put (v:AV)
 |new (r:AV) (o:Ob) (rm:Option Nat)
 |set (n:Nat) (o:Ob)
def rmO(own:Nat->Ob):Option Nat->Nat->Ob
 |some n=>upd own n .none
 |none=>own
def Eff.app(ε:Eff)(d:Option Nat)(σ:St):St:=
 match ε,d with
 |.put v,d=>σ.put d v
 |.new r o rm,some d=>St.new ⟨σ.env,rmO σ.own rm⟩ d r o
 |.new _ _ _,none=>σ
 |.set n o,_=>⟨σ.env,upd σ.own n o⟩
def ZeZ(σ:St)(d:Option Nat)(i:I):Option (Prop×Eff):=
 match d,i with
 |some d,.alloc cs=>some ((σ.own d).isNone=true,.new (.bp d 0) (.box cs) none)
 |some d,.box sz x=>
  match(σ.val x).dv.cellsA σ.own with
  |some cs=>some ((σ.own d).isNone=true/\(σ.val x).dg=true/\cs.length=sz,.new (.bp d 0) (.box cs) none)
  |none=>none
 |none,.st sz x y=>
  match(σ.val x).dv,(σ.val y).dv.cellsA σ.own with
  |.bp n o,some vs=>
   match σ.own n with
   |.box cs=>some ((σ.val x).dg=true/\(σ.val y).dg=true/\vs.length=sz/\o+sz<=cs.length/\vs.all AV.oneB=true,.set n (.box (ZmT cs o vs)))
   |_=>none
  |_,_=>none
 |some d,.mks _ sz bytes z x y=>
  match(σ.val x).dv.asC,(σ.val y).dv.asC with
  |some (.int _ l),some (.int _ c)=>
   some ((σ.own d).isNone = true /\ (σ.val x).dg = true /\ (σ.val y).dg = true /\ 0 <= l /\ l <= c /\ bytes * c.toNat <= 281474976710656 /\ c.toNat <= maxLen,
    .new (.vw sz d 0 l.toNat c.toNat) (.box (List.replicate c.toNat z).flatten) none)
  |_,_=>none
 |some d,.bsl e sz parts=>
  match parts.mapM fun x=>(σ.val x).dv.cds σ.own with
  |some es=>some ((σ.own d).isNone=true/\(parts.all fun x=>(σ.val x).dg)=true/\(es.all fun e=>e.length==sz)=true,.new (.gr d) (.grow e sz es) none)
  |none=>none
 |some d,.app e sz bytes s x=>
  match(σ.val s).dv,(σ.val x).dv.elems σ.own with
  |.gr n,some ys=>
   match σ.own n with
   |.grow e' sz' es=>
    if e'=e/\sz'=sz then
     some ((σ.val s).dg = true /\ (σ.val x).dg = true /\ (upd σ.own n .none d).isNone = true /\ (ys.all fun e =>e.length == sz) = true /\ es.length + ys.length <= maxLen /\ (es.length + ys.length) * bytes <= 140737488355328,
      .new (.gr d) (.grow e sz (es++ys)) (some n))
    else none
   |_=>none
  |.c (.raw (.slice none 0 0)),some ys=>
   some ((σ.val s).dg = true /\ (σ.val x).dg = true /\ (σ.own d).isNone = true /\ (ys.all fun e =>e.length == sz) = true /\ ys.length <= maxLen /\ ys.length * bytes <= 140737488355328,
    .new (.gr d) (.grow e sz ys) none)
  |_,_=>none
 |_,_=>none
def Zxh(σ:St)(d:Option Nat)(i:I):mev σ d i=(ZeZ σ d i).map fun p=>(p.1,p.2.app d σ):=by
 (cases i<;>cases d<;>try rfl);case box.some sz x d=>simp only[mev,ZeZ];cases hc:(σ.val x).dv.cellsA σ.own<;>rfl
 case st.none sz x y=>
  simp only[mev,ZeZ];cases h1:(σ.val x).dv<;>cases h2:(σ.val y).dv.cellsA σ.own<;>try rfl
  rename_i n o vs;dsimp only;cases h3:σ.own n<;>rfl
 case mks.some e sz bytes z x y d=>
  simp only[mev,ZeZ];cases h1:(σ.val x).dv.asC with
  |none=>rfl
  |some c1=>
   cases h2:(σ.val y).dv.asC with
   |none=>cases c1<;>rfl
   |some c2=>cases c1<;>cases c2<;>rfl
 case bsl.some e sz parts d=>simp only[mev,ZeZ];cases hc:(parts.mapM fun x=>(σ.val x).dv.cds σ.own)<;>rfl
 case app.some e sz bytes s x d=>
  simp only[mev,ZeZ];cases h2:(σ.val x).dv.elems σ.own with
  |none=>
   cases h1:(σ.val s).dv<;>try rfl
   rename_i c;cases c<;>try rfl
   rename_i v;cases v<;>try rfl
   rename_i A l c;cases A<;>cases l<;>cases c<;>rfl
  |some ys=>
   cases h1:(σ.val s).dv<;>try rfl
   ·rename_i c;cases c<;>try rfl
    rename_i v;cases v<;>try rfl
    rename_i A l c;cases A<;>cases l<;>cases c<;>rfl
   ·rename_i n;dsimp only;cases h3:σ.own n<;>try rfl
    rename_i e' sz' es;dsimp only;by_cases hh:e'=e/\sz'=sz
    ·simp only[Yt hh];rfl
    ·simp only[Yx hh];rfl
def ZA7(d:Nat)(x:AV):(x.prg d).dg=x.dg:=by cases x<;>simp only[AV.prg]<;>first|rfl|(rename_i n _ _ _;by_cases h:n=d<;>simp[h,AV.dg])|(rename_i n o;by_cases h:n=d<;>simp[h,AV.dg])|(rename_i n;by_cases h:n=d<;>simp[h,AV.dg])
def ZA8(d:Nat)(x:AV):(x.prg d).dv=x.dv.prg d:=by cases x<;>simp only[AV.prg]<;>first|rfl|(rename_i n _ _ _;by_cases h:n=d<;>simp[h,AV.dv,AV.prg];done)|(rename_i n o;by_cases h:n=d<;>simp[h,AV.dv,AV.prg])|(rename_i n;by_cases h:n=d<;>simp[h,AV.dv,AV.prg])
def ZdW(d:Nat):∀l:List AV,AV.prgL d l=l.map (AV.prg d)
 |[]=>rfl
 |a::l=>by simp[AV.prgL,ZdW d l]
mutual
def prg_pure(d:Nat):∀{x:AV},x.pureB=true->x.prg d=x
 |.c _,_=>rfl
 |.non,_=>rfl
 |.bp _ _,h=>by simp[AV.pureB]at h
 |.gr _,h=>by simp[AV.pureB]at h
 |.vw _ _ _ _ _,h=>by simp[AV.pureB]at h
 |.agg cs,h=>by simp only[AV.pureB]at h;simp only[AV.prg,prgL_pure d h]
 |.tup cs,h=>by simp only[AV.pureB]at h;simp only[AV.prg,prgL_pure d h]
 |.fn f cs,h=>by simp only[AV.pureB]at h;simp only[AV.prg,prgL_pure d h]
 |.opt g x,h=>by simp only[AV.pureB]at h;simp only[AV.prg,prg_pure d h]
def prgL_pure(d:Nat):∀{l:List AV},AV.pureL l=true->AV.prgL d l=l
 |[],_=>rfl
 |a::l,h=>by simp only[AV.pureL,Yf]at h;simp only[AV.prgL,prg_pure d h.1,prgL_pure d h.2]
end
mutual
def prg_comm(d e:Nat):∀(x:AV),(x.prg d).prg e=(x.prg e).prg d
 |.c _=>rfl
 |.non=>rfl
 |.bp n o=>by simp only[AV.prg];split<;>split<;>simp_all [AV.prg]
 |.gr n=>by simp only[AV.prg];split<;>split<;>simp_all [AV.prg]
 |.vw sz n off len cap=>by simp only[AV.prg];split<;>split<;>simp_all [AV.prg]
 |.agg cs=>by simp only[AV.prg,prgL_comm d e cs]
 |.tup cs=>by simp only[AV.prg,prgL_comm d e cs]
 |.fn f cs=>by simp only[AV.prg,prgL_comm d e cs]
 |.opt g x=>by simp only[AV.prg,prg_comm d e x]
def prgL_comm(d e:Nat):∀(l:List AV),AV.prgL e (AV.prgL d l)=AV.prgL d (AV.prgL e l)
 |[]=>rfl
 |a::l=>by simp only[AV.prgL,prg_comm d e a,prgL_comm d e l]
end
def Ob.prg_comm(d e:Nat)(o:Ob):(o.prg d).prg e=(o.prg e).prg d:=by cases o<;>simp only[Ob.prg,prgL_comm d e]
section
variable{σ σ':St}
def ZhT(ho:σ'.own=σ.own):∀(ps:List (Nat×Nat×X))(cs:List AV),(∀p∈ps,σ'.val p.2.2=σ.val p.2.2)->bldGo σ' ps cs=bldGo σ ps cs
 |[],_,_=>rfl
 |(off,sz,x)::ps,cs,h=>by(have hx:σ'.val x=σ.val x:=h (off,sz,x) Kd;simp only[bldGo,hx,ho];cases(σ.val x).dv.cellsA σ.own with|none=>rfl|some vs=>simp only[ZhT ho ps _ (fun p hp=>h p (by simp[hp]))])
def ZdO{n:Nat}{x:Option X}(h:∀y,x=some y->σ'.val y=σ.val y):bound σ' n x=bound σ n x:=by(cases x with|none=>rfl|some y=>simp only[bound,h y rfl])
def ZqA{i:I}(h:∀x∈i.xs,σ'.val x=σ.val x)(ho:σ'.own=σ.own):pevO σ' i=pevO σ i:=by
 cases i<;>try rfl
 case slc sz x lo hi=>
  simp only[I.xs,YF,YD,Option.mem_toList]at h;simp only[pevO,h x (.inl rfl),ho,ZdO (x:=lo) (fun y hy=>h y (.inr (.inl hy))),ZdO (x:=hi) (fun y hy=>h y (.inr (.inr hy)))]
 case mkfn f caps=>
  simp only[I.xs]at h;have h1:(caps.map fun x=>(σ'.val x).dv)=caps.map fun x=>(σ.val x).dv:=Yal fun x hx=>by rw[h x hx]
  have h2:(caps.all fun x=>(σ'.val x).dg)=caps.all fun x=>(σ.val x).dg:=by
   rw[Yaq,Yn,Yn];exact⟨fun k x hx=>by rw[<-h x hx];exact k x hx,fun k x hx=>by rw[h x hx];exact k x hx⟩
  simp only[pevO,h1,h2]
 case prim p xs=>
  simp only[I.xs]at h;have h1:(xs.map fun x=>(σ'.val x).dv)=xs.map fun x=>(σ.val x).dv:=Yal fun x hx=>by rw[h x hx]
  have h2:(xs.all fun x=>(σ'.val x).dg)=xs.all fun x=>(σ.val x).dg:=by
   rw[Yaq,Yn,Yn];exact⟨fun k x hx=>by rw[<-h x hx];exact k x hx,fun k x hx=>by rw[h x hx];exact k x hx⟩
  simp only[pevO,h1,h2]
 case bld z ps=>
  simp only[I.xs,Ys]at h;simp only[pevO,ZhT ho ps z (fun p hp=>h _ ⟨p,hp,rfl⟩)]
 all_goals
  simp only[I.xs,YF,Yag,Ybt,YcW,forall_eq]at h;simp only[pevO,h,ho]
def Zue{i:I}(h:∀x∈i.xs,σ'.val x=σ.val x)(ho:σ'.own=σ.own):vwp σ' i=vwp σ i:=by
 cases i<;>try rfl
 case slc sz x lo hi=>
  simp only[I.xs,YF,YD,Option.mem_toList]at h;simp only[vwp,h x (.inl rfl),ho];split
  ·rw[ZdO (x:=lo) (fun y hy=>h y (.inr (.inl hy))),ZdO (x:=hi) (fun y hy=>h y (.inr (.inr hy)))]
  ·rfl
 all_goals
  simp only[I.xs,YF,Yag,Ybt,YcW,forall_eq]at h;simp only[vwp,h,ho]
def Zs3{i:I}(h:∀x∈i.xs,σ'.val x=σ.val x)(ho:σ'.own=σ.own):pev σ' i=pev σ i:=by unfold pev;rw[Zue h ho,ZqA h ho]
def Zjx{xs:List X}{own:Nat->Ob}(h:∀x∈xs,σ'.val x=σ.val x):(xs.mapM fun x=>(σ'.val x).dv.cds own)=xs.mapM fun x=>(σ.val x).dv.cds own:=by(induction xs with|nil=>rfl|cons x xs ih=>simp only[Yao,h x Kd,ih fun y hy=>h y (by simp[hy])])
def Zda{xs:List X}(h:∀x∈xs,σ'.val x=σ.val x):(xs.all fun x=>(σ'.val x).dg)=xs.all fun x=>(σ.val x).dg:=by(induction xs with|nil=>rfl|cons x xs ih=>simp only[YaE,h x Kd,ih fun y hy=>h y (by simp[hy])])
def Zet{xs:List X}(h:∀x∈xs,σ'.val x=σ.val x):(xs.map fun x=>(σ'.val x).dv)=xs.map fun x=>(σ.val x).dv:=Yal fun x hx=>by rw[h x hx]
def Zqv{d:Option Nat}{i:I}(h:∀x∈i.xs,σ'.val x=σ.val x)(ho:σ'.own=σ.own):ZeZ σ' d i=ZeZ σ d i:=by
 cases i<;>cases d<;>try rfl
 case bsl.some e sz xs d=>
  simp only[I.xs]at h;simp only[ZeZ,ho,Zjx h,Zda h]
 all_goals
  simp only[I.xs,YF,Yag,Ybt,YcW,forall_eq,false_implies,implies_true]at h;simp only[ZeZ,h,ho]
end
structure Newer(σ σ':St)(d:Nat)(xs:List X):Prop where
 val:∀x∈xs,σ'.val x=(σ.val x).prg d
 own:∀n,n≠d->σ'.own n=(σ.own n).prg d
 none:σ.own d= .none
section
variable{σ σ':St}{d:Nat}
def Newer.dg{xs:List X}(h:Newer σ σ' d xs){x:X}(hx:x∈xs):(σ'.val x).dg=(σ.val x).dg:=by rw[h.val x hx,ZA7]
def Newer.dv{xs:List X}(h:Newer σ σ' d xs){x:X}(hx:x∈xs):(σ'.val x).dv=(σ.val x).dv.prg d:=by rw[h.val x hx,ZA8]
def ZqG(d:Nat)(x:AV):(x.prg d).rawLen=x.rawLen:=by cases x<;>simp only[AV.prg]<;>(try split)<;>rfl
def ZcT(x:AV):(x.prg d).asC=x.asC:=by cases x;(case bp n o=>by_cases hn:n=d<;>simp[AV.prg,hn,AV.asC]);(case gr n=>by_cases hn:n=d<;>simp[AV.prg,hn,AV.asC]);(case vw sz n off len cap=>by_cases hn:n=d<;>simp[AV.prg,hn,AV.asC]);all_goals rfl
def Zvw(x:AV):(x.prg d).isBo=x.isBo:=by cases x<;>simp only[AV.prg]<;>(try split)<;>rfl
def ZAQ(x:AV):(x.prg d).bo=x.bo:=by cases x<;>simp only[AV.prg]<;>(try split)<;>rfl
def Zr1{o1 o2:Nat->Ob}(c:CD):(AV.c c).elems o1=(AV.c c).elems o2:=by(cases c<;>try rfl);rename_i v;(cases v<;>try rfl);rename_i A l c;cases A<;>cases l<;>cases c<;>rfl
def ZoM{o1 o2:Nat->Ob}(c:CD):(AV.c c).elemsZ o1=(AV.c c).elemsZ o2:=by cases c<;>rfl
def Newer.elems{xs:List X}(h:Newer σ σ' d xs)(x:AV):(x.prg d).elems σ'.own=x.elems σ.own:=by
 cases x<;>simp only[AV.prg];(case c c=>exact Zr1 c);(case bp n o=>by_cases hn:n=d<;>simp[hn,AV.elems]);case vw sz n off len cap=>by_cases hn:n=d<;>simp[hn,AV.elems]
 case gr n=>
  by_cases hn:n=d
  ·subst hn;simp[AV.elems,h.none]
  ·simp only[hn,YA,AV.elems,h.own n hn];cases σ.own n<;>rfl
 all_goals rfl
def Newer.elemsZ{xs:List X}(h:Newer σ σ' d xs)(x:AV):(x.prg d).elemsZ σ'.own=x.elemsZ σ.own:=by
 cases x<;>simp only[AV.prg];(case c c=>exact ZoM c);(case bp n o=>by_cases hn:n=d<;>simp[hn,AV.elemsZ]);case vw sz n off len cap=>by_cases hn:n=d<;>simp[hn,AV.elemsZ]
 case gr n=>
  by_cases hn:n=d
  ·subst hn;simp[AV.elemsZ,h.none]
  ·simp only[hn,YA,AV.elemsZ,h.own n hn];cases σ.own n<;>rfl
 all_goals rfl
mutual
def Newer.port{xs:List X}(h:Newer σ σ' d xs):∀x:AV,(x.prg d).port σ'.own=x.port σ.own
 |.c _=>rfl
 |.non=>rfl
 |.bp n o=>by by_cases hn:n=d<;>simp[hn,AV.prg,AV.port]
 |.vw sz n off len cap=>by by_cases hn:n=d<;>simp[hn,AV.prg,AV.port]
 |.gr n=>by by_cases hn:n=d;{subst hn;simp[AV.prg,AV.port,h.none]};{simp only[AV.prg,hn,YA,AV.port,h.own n hn];cases σ.own n<;>rfl}
 |.agg cs=>by simp only[AV.prg,AV.port,h.portL cs]
 |.tup cs=>by simp only[AV.prg,AV.port,h.portL cs]
 |.fn f cs=>by simp only[AV.prg,AV.port,h.portL cs]
 |.opt g x=>rfl
def Newer.portL{xs:List X}(h:Newer σ σ' d xs):∀l:List AV,AV.portL σ'.own (AV.prgL d l)=AV.portL σ.own l
 |[]=>rfl
 |x::l=>by simp only[AV.prgL,AV.portL,h.port x,h.portL l]
end
def Newer.cellsA{xs:List X}(h:Newer σ σ' d xs)(x:AV):(x.prg d).cellsA σ'.own=(x.cellsA σ.own).map (AV.prgL d):=by
 have hno:∀n,n≠d->(σ'.own n).isNone=(σ.own n).isNone:=fun n hn=>by rw[h.own n hn];cases σ.own n<;>rfl
 cases x;case bp n o=>
  by_cases hn:n=d
  ·subst hn;simp[AV.prg,AV.cellsA,h.none,Ob.isNone]
  ·simp only[AV.prg,hn,YA,AV.cellsA,hno n hn];split<;>simp[AV.prgL,AV.prg,hn]
 case gr n=>
  by_cases hn:n=d
  ·subst hn;simp[AV.prg,AV.cellsA,h.none,Ob.isNone]
  ·simp only[AV.prg,hn,YA,AV.cellsA,hno n hn];split<;>simp[AV.prgL,AV.prg,hn]
 case vw sz n off len cap=>
  by_cases hn:n=d
  ·subst hn;simp[AV.prg,AV.cellsA,h.none,Ob.isNone]
  ·simp only[AV.prg,hn,YA,AV.cellsA,hno n hn];split<;>simp[AV.prgL,AV.prg,hn]
 all_goals rfl
def Newer.bound{xs:List X}(h:Newer σ σ' d xs){n:Nat}{x:Option X}(hx:∀y,x=some y->y∈xs):bound σ' n x=bound σ n x:=by(cases x with|none=>rfl|some y=>simp only[Go.V.bound,h.dg (hx y rfl),h.dv (hx y rfl),ZcT])
end
section
variable{σ σ':St}{d:Nat}
def Zc2(l:List AV):(AV.prgL d l).length=l.length:=by rw[ZdW];simp
def Zli(l:List AV)(i:Nat):(AV.prgL d l)[i]? =(l[i]?).map (AV.prg d):=by rw[ZdW];simp
def ZiQ(l:List AV)(i:Nat):(AV.prgL d l).take i=AV.prgL d (l.take i):=by simp[ZdW]
def ZiP(l:List AV)(i:Nat):(AV.prgL d l).drop i=AV.prgL d (l.drop i):=by simp[ZdW]
def ZdV(l m:List AV):AV.prgL d (l++m)=AV.prgL d l++AV.prgL d m:=by simp[ZdW]
def ZnV(l m:List AV)(o:Nat):AV.prgL d (splice l o m)=splice (AV.prgL d l) o (AV.prgL d m):=by simp only[splice,ZdV,ZiQ,ZiP,Zc2]
def Newer.bldGo{xs:List X}(h:Newer σ σ' d xs):∀(ps:List (Nat×Nat×X))(cs:List AV),(∀p∈ps,p.2.2∈xs)->bldGo σ' ps (AV.prgL d cs)=(bldGo σ ps cs).map fun p=>(p.1,AV.prgL d p.2)
 |[],cs,_=>rfl
 |(off,sz,x)::ps,cs,hp=>by(have hx:x∈xs:=hp (off,sz,x) Kd;simp only[Go.V.bldGo,h.dv hx,h.cellsA,h.dg hx];cases(σ.val x).dv.cellsA σ.own with|none=>rfl|some vs=>simp only[YR,Zc2];split;{(rw[<-ZnV,Newer.bldGo h ps _ (fun p hp'=>hp p (by simp[hp']))];cases Go.V.bldGo σ ps (splice cs off vs)with|none=>rfl|some r=>rfl)};{rfl})
def Zg1(d:Nat)(f:X->AV):∀xs:List X,(xs.map fun x=>(f x).prg d).mapM AV.asC=(xs.map f).mapM AV.asC
 |[]=>rfl
 |x::xs=>by simp only[Ye,Yao,ZcT,Zg1 d f xs]
def Ztg(d:Nat)(p:Prim)(f:X->AV)(xs:List X)(g:Bool):ZmJ p (xs.map fun x=>(f x).prg d) g=(ZmJ p (xs.map f) g).map fun r=>(r.1,r.2.prg d):=by(unfold ZmJ;rw[Zg1];cases(xs.map f).mapM AV.asC with|none=>rfl|some ds=>(simp only;cases p.ev ds with|none=>show ZmI p=(ZmI p).map _;unfold ZmI;split<;>rfl|some r=>rfl))
def ZqB{i:I}(h:Newer σ σ' d i.xs)(hc:i.constB=true):pevO σ' i=(pevO σ i).map fun p=>(p.1,p.2.prg d):=by
 (have hno:∀n,n≠d->(σ'.own n).isBox=(σ.own n).isBox:=fun n hn=>by rw[h.own n hn];cases σ.own n<;>rfl);cases i<;>try rfl
 case mv x=>
  have hx:x∈(I.mv x).xs:=by simp[I.xs]
  simp only[pevO,h.dg hx,h.dv hx,YR]
 case pick c a b=>
  have h1:c∈(I.pick c a b).xs:=by simp[I.xs]
  have h2:a∈(I.pick c a b).xs:=by simp[I.xs]
  have h3:b∈(I.pick c a b).xs:=by simp[I.xs]
  simp only[pevO,h.dg h1,h.dv h1,h.dg h2,h.dv h2,h.dg h3,h.dv h3,ZcT,Zvw,ZAQ];split<;>simp[AV.prg]
 case prim p xs=>
  have h1:(xs.map fun x=>(σ'.val x).dv)=xs.map fun x=>((σ.val x).dv).prg d:=Yal fun x hx=>h.dv hx
  have h2:(xs.all fun x=>(σ'.val x).dg)=xs.all fun x=>(σ.val x).dg:=by
   rw[Yaq,Yn,Yn];exact⟨fun k x hx=>by rw[<-h.dg hx];exact k x hx,fun k x hx=>by rw[h.dg hx];exact k x hx⟩
  simp only[pevO,h1,h2,Ztg]
 case bin op x y=>
  have h1:x∈(I.bin op x y).xs:=by simp[I.xs]
  have h2:y∈(I.bin op x y).xs:=by simp[I.xs]
  simp only[pevO,h.dg h1,h.dv h1,h.dg h2,h.dv h2,ZcT];split
  ·split
   ·simp[AV.prg]
   ·split<;>simp[AV.prg]
  ·cases op<;>rfl
  ·simp
 case eqs ne x y=>
  have h1:x∈(I.eqs ne x y).xs:=by simp[I.xs]
  have h2:y∈(I.eqs ne x y).xs:=by simp[I.xs]
  simp only[pevO,h.dg h1,h.dv h1,h.dg h2,h.dv h2,ZcT];split<;>simp[AV.prg]
 case un op x=>
  have h1:x∈(I.un op x).xs:=by simp[I.xs]
  simp only[pevO,h.dg h1,h.dv h1,ZcT];split<;>simp[AV.prg]
 case iap n sz x i=>
  have h1:x∈(I.iap n sz x i).xs:=by simp[I.xs]
  have h2:i∈(I.iap n sz x i).xs:=by simp[I.xs]
  simp only[pevO,h.dg h1,h.dv h1,h.dg h2,h.dv h2,ZcT];rcases(σ.val i).dv.asC with _|u
  ·rfl
  ·cases u<;>try rfl
   cases(σ.val x).dv;case c c=>cases c<;>rfl
   case bp m o=>
    by_cases hn:m=d
    ·subst hn;simp[AV.prg,h.none,Ob.isBox]
    ·simp only[AV.prg,hn,YA,hno m hn];cases(σ.own m).isBox<;>simp[AV.prg,hn]
   case gr m=>by_cases hn:m=d<;>simp[AV.prg,hn]
   case vw _ m _ _ _=>by_cases hn:m=d<;>simp[AV.prg,hn]
   all_goals rfl
 case fa off x=>
  have h1:x∈(I.fa off x).xs:=by simp[I.xs]
  simp only[pevO,h.dg h1,h.dv h1];cases(σ.val x).dv;case c c=>cases c<;>rfl
  case bp n o=>
   by_cases hn:n=d
   ·subst hn;simp[AV.prg,h.none,Ob.isBox]
   ·simp only[AV.prg,hn,YA,hno n hn];split<;>simp[AV.prg,hn]
  case gr n=>by_cases hn:n=d<;>simp[AV.prg,hn]
  case vw sz n off len cap=>by_cases hn:n=d<;>simp[AV.prg,hn]
  all_goals rfl
 case nilc x=>
  have h1:x∈(I.nilc x).xs:=by simp[I.xs]
  simp only[pevO,h.dg h1,h.dv h1];cases(σ.val x).dv;case c c=>cases c<;>rfl
  case bp n o=>
   by_cases hn:n=d
   ·subst hn;simp[AV.prg,h.none,Ob.isBox]
   ·simp only[AV.prg,hn,YA,hno n hn];split<;>simp[AV.prg,hn]
  case gr n=>by_cases hn:n=d<;>simp[AV.prg,hn]
  case vw sz n off len cap=>by_cases hn:n=d<;>simp[AV.prg,hn]
  all_goals rfl
 case ia sz x y=>
  have h1:x∈(I.ia sz x y).xs:=by simp[I.xs]
  have h2:y∈(I.ia sz x y).xs:=by simp[I.xs]
  simp only[pevO,h.dg h1,h.dv h1,h.dg h2,h.dv h2,ZcT,h.elemsZ];split
  ·split<;>simp[AV.prg]
  ·simp
 case ldd one sz x=>
  have h1:x∈(I.ldd one sz x).xs:=by simp[I.xs]
  simp only[pevO,h.dg h1,h.dv h1];cases(σ.val x).dv;case c c=>
   cases c<;>try rfl
   rename_i cs;simp only[AV.prg];cases one
   ·simp only[Yp,YA,YR,AV.prg];congr 3
    rw[ZdW,Ya0];rfl
   ·simp only[YJ,YR,AV.prg]
  case bp n o=>by_cases hn:n=d<;>simp[AV.prg,hn]
  case gr n=>by_cases hn:n=d<;>simp[AV.prg,hn]
  case vw sz n off len cap=>by_cases hn:n=d<;>simp[AV.prg,hn]
  all_goals rfl
 case ld one sz x=>
  have h1:x∈(I.ld one sz x).xs:=by simp[I.xs]
  simp only[pevO,h.dg h1,h.dv h1];cases(σ.val x).dv;case c c=>
   cases c<;>try rfl
   rename_i cs;simp only[AV.prg];cases one
   ·simp only[Yp,YA,YR,AV.prg];congr 3
    rw[ZdW,Ya0];rfl
   ·simp only[YJ,YR,AV.prg]
  case bp n o=>
   by_cases hn:n=d
   ·subst hn;simp[AV.prg,h.none]
   ·simp only[AV.prg,hn,YA,h.own n hn];cases σ.own n<;>try rfl
    rename_i cs;simp only[Ob.prg];cases one
    ·simp only[Yp,YA,YR,AV.prg,Zc2,ZiQ,ZiP]
    ·simp only[YJ,YR,Zc2];rw[Yb,Yb,Zli];cases cs[o]? <;>rfl
  case gr n=>by_cases hn:n=d<;>simp[AV.prg,hn]
  case vw sz n off len cap=>by_cases hn:n=d<;>simp[AV.prg,hn]
  all_goals rfl
 case len x=>
  have h1:x∈(I.len x).xs:=by simp[I.xs]
  simp only[pevO,h.dg h1,h.dv h1,h.elems,ZqG];split
  ·simp[AV.prg]
  ·split<;>simp[AV.prg]
 case mm mx x y=>
  have h1:x∈(I.mm mx x y).xs:=by simp[I.xs]
  have h2:y∈(I.mm mx x y).xs:=by simp[I.xs]
  simp only[pevO,h.dg h1,h.dv h1,h.dg h2,h.dv h2,ZcT];split<;>simp[AV.prg]
 case ext x k=>
  have h1:x∈(I.ext x k).xs:=by simp[I.xs]
  simp only[pevO,h.dg h1,h.dv h1];cases(σ.val x).dv;case bp n o=>by_cases hn:n=d<;>simp[AV.prg,hn]
  case gr n=>by_cases hn:n=d<;>simp[AV.prg,hn]
  case vw sz n off len cap=>by_cases hn:n=d<;>simp[AV.prg,hn]
  case tup vs=>
   simp only[AV.prg,Zli];cases vs[k]? <;>rfl
  all_goals rfl
 case fld one sz off x=>
  have h1:x∈(I.fld one sz off x).xs:=by simp[I.xs]
  simp only[pevO,h.dg h1,h.dv h1];cases(σ.val x).dv;case bp n o=>by_cases hn:n=d<;>simp[AV.prg,hn]
  case gr n=>by_cases hn:n=d<;>simp[AV.prg,hn]
  case vw sz n off len cap=>by_cases hn:n=d<;>simp[AV.prg,hn]
  case agg cs=>
   simp only[AV.prg];cases one
   ·simp only[Yp,YA,YR,AV.prg,Zc2,ZiQ,ZiP]
   ·simp only[YJ,Zli];cases cs[off]? <;>rfl
  all_goals rfl
 case slc sz x lo hi=>
  have h1:x∈(I.slc sz x lo hi).xs:=by simp[I.xs]
  simp only[pevO,h.dg h1,h.dv h1,h.elemsZ,h.bound (x:=lo) (fun y hy=>by simp[I.xs,hy]),h.bound (x:=hi) (fun y hy=>by simp[I.xs,hy])];split
  ·split
   ·split<;>simp[AV.prg]
   ·simp
  ·simp
 case mkfn f caps=>
  have h1:(caps.map fun x=>(σ'.val x).dv)=AV.prgL d (caps.map fun x=>(σ.val x).dv):=by
   rw[ZdW,Ya0];exact Yal fun x hx=>h.dv (by simpa [I.xs]using hx)
  have h2:(caps.all fun x=>(σ'.val x).dg)=caps.all fun x=>(σ.val x).dg:=by
   rw[Yaq,Yn,Yn];exact⟨fun k x hx=>by rw[<-h.dg (by simpa [I.xs]using hx)];exact k x hx,fun k x hx=>by rw[h.dg (by simpa [I.xs]using hx)];exact k x hx⟩
  simp only[pevO,h1,h2,YR,AV.prg]
 case bld z ps=>
  simp only[I.constB]at hc;have:=h.bldGo ps z (fun p hp=>by simp only[I.xs,Ys];exact⟨p,hp,rfl⟩);rw[prgL_pure d hc]at this;simp only[pevO,this,YbH];rfl
def Zuf{i:I}(h:Newer σ σ' d i.xs):vwp σ' i=(vwp σ i).map fun p=>(p.1,p.2.prg d):=by
 (have hno:∀n,n≠d->(σ'.own n).isBox=(σ.own n).isBox:=fun n hn=>by rw[h.own n hn];cases σ.own n<;>rfl);cases i<;>try rfl
 case ia sz x y=>
  have h1:x∈(I.ia sz x y).xs:=by simp[I.xs]
  have h2:y∈(I.ia sz x y).xs:=by simp[I.xs]
  simp only[vwp,h.dg h1,h.dv h1,h.dg h2,h.dv h2,ZcT];cases(σ.val x).dv;case bp n o=>by_cases hn:n=d<;>simp[AV.prg,hn]
  case gr n=>by_cases hn:n=d<;>simp[AV.prg,hn]
  case vw sz' n off len cap=>
   by_cases hn:n=d
   ·subst hn;simp[AV.prg,h.none,Ob.isBox]
   ·simp only[AV.prg,hn,YA,hno n hn];split
    ·split
     ·split<;>simp[AV.prg,hn]
     ·simp
    ·simp
  all_goals rfl
 case len x=>
  have h1:x∈(I.len x).xs:=by simp[I.xs]
  simp only[vwp,h.dg h1,h.dv h1];cases(σ.val x).dv;case bp n o=>by_cases hn:n=d<;>simp[AV.prg,hn]
  case gr n=>by_cases hn:n=d<;>simp[AV.prg,hn]
  case vw sz' n off len cap=>
   by_cases hn:n=d
   ·subst hn;simp[AV.prg,h.none,Ob.isBox]
   ·simp only[AV.prg,hn,YA,hno n hn];split<;>simp[AV.prg]
  all_goals rfl
 case slc sz x lo hi=>
  have h1:x∈(I.slc sz x lo hi).xs:=by simp[I.xs]
  simp only[vwp,h.dg h1,h.dv h1];cases(σ.val x).dv;case bp n o=>by_cases hn:n=d<;>simp[AV.prg,hn]
  case gr n=>by_cases hn:n=d<;>simp[AV.prg,hn]
  case vw sz' n off len cap=>
   by_cases hn:n=d
   ·subst hn;simp[AV.prg,h.none,Ob.isBox]
   ·simp only[AV.prg,hn,YA,hno n hn,h.bound (x:=lo) (fun y hy=>by simp[I.xs,hy]),h.bound (x:=hi) (fun y hy=>by simp[I.xs,hy])];split
    ·split
     ·split<;>simp[AV.prg,hn]
     ·simp
    ·simp
  all_goals rfl
def ZmE{i:I}(h:Newer σ σ' d i.xs)(hc:i.constB=true):pev σ' i=(pev σ i).map fun p=>(p.1,p.2.prg d):=by unfold pev;rw[Zuf h,ZqB h hc];cases vwp σ i<;>rfl
end
section
variable{σ σ':St}{d:Nat}
def Newer.all_dg{xs:List X}(h:Newer σ σ' d xs):∀l:List X,(∀x∈l,x∈xs)->(l.all fun x=>(σ'.val x).dg)=l.all fun x=>(σ.val x).dg
 |[],_=>rfl
 |x::l,hl=>by simp only[YaE,h.dg (hl x Kd),Newer.all_dg h l (fun y hy=>hl y (by simp[hy]))]
def Newer.map_dv{xs:List X}(h:Newer σ σ' d xs):∀l:List X,(∀x∈l,x∈xs)->(l.map fun x=>(σ'.val x).dv)=AV.prgL d (l.map fun x=>(σ.val x).dv)
 |[],_=>rfl
 |x::l,hl=>by simp only[Ye,AV.prgL,h.dv (hl x Kd),Newer.map_dv h l (fun y hy=>hl y (by simp[hy]))]
def Zqp(o:Ob):(o.prg d).isNone=o.isNone:=by cases o<;>rfl
def Zix{g:Nat×Bool}(h:σ'.env g.1=(σ.env g.1).prg d):σ'.guard g=σ.guard g:=by
 unfold St.guard;rw[h];cases σ.env g.1;(case bp n o=>by_cases hn:n=d<;>simp[AV.prg,hn]);(case gr n=>by_cases hn:n=d<;>simp[AV.prg,hn]);case vw sz n off len cap=>by_cases hn:n=d<;>simp[AV.prg,hn]
 case opt q x=>
  simp only[AV.prg];cases x;case bp n o=>by_cases hn:n=d<;>simp[AV.prg,hn]
  case gr n=>by_cases hn:n=d<;>simp[AV.prg,hn]
  case vw sz n off len cap=>by_cases hn:n=d<;>simp[AV.prg,hn]
  all_goals rfl
 all_goals rfl
end
def OwnLe(b:Bool)(own' own:Nat->Ob):Prop:=∀n,own' n=own n\/own' n= .none\/(b=true/\(own' n).isBox=true/\(own n).isBox=true)
section
variable{own own':Nat->Ob}{b:Bool}{env:Nat->AV}
def OwnLe.elems(h:OwnLe b own' own){x:AV}{es:List (List CD)}(he:x.elems own'=some es):x.elems own=some es:=by
 cases x;case c c=>rw[<-he];exact Zr1 c
 case gr n=>
  simp only[AV.elems]at he|-;rcases h n with h|h|⟨_,h,_⟩
  ·rwa [h]at he
  ·rw[h]at he;cases he
  ·cases ho:own' n<;>rw[ho]at h he<;>simp_all [Ob.isBox]
 all_goals cases he
def OwnLe.elemsZ(h:OwnLe b own' own){x:AV}{es:Nat×List (List CD)}(he:x.elemsZ own'=some es):x.elemsZ own=some es:=by
 cases x;case c c=>rw[<-he];exact ZoM c
 case gr n=>
  simp only[AV.elemsZ]at he|-;rcases h n with h|h|⟨_,h,_⟩
  ·rwa [h]at he
  ·rw[h]at he;cases he
  ·cases ho:own' n<;>rw[ho]at h he<;>simp_all [Ob.isBox]
 all_goals cases he
def OwnLe.box(h:OwnLe b own' own){n:Nat}(hb:(own' n).isBox=true):(own n).isBox=true:=by rcases h n with h|h|⟨_,_,h⟩;{rwa [h]at hb};{rw[h]at hb;cases hb};{exact h}
def OwnLe.some_(h:OwnLe b own' own){n:Nat}(hb:(own' n).isNone=false):(own n).isNone=false:=by rcases h n with h|h|⟨_,_,h⟩;{rwa [h]at hb};{rw[h]at hb;cases hb};{cases ho:own n<;>rw[ho]at h<;>simp_all [Ob.isBox,Ob.isNone]}
def OwnLe.cellsA(h:OwnLe b own' own){x:AV}{vs:List AV}(he:x.cellsA own'=some vs):x.cellsA own=some vs:=by
 cases x;case bp n o=>
  simp only[AV.cellsA]at he|-;split at he
  ·cases he
  ·rename_i hn;rw[h.some_ (by simpa using hn)];exact he
 case gr n=>
  simp only[AV.cellsA]at he|-;split at he
  ·cases he
  ·rename_i hn;rw[h.some_ (by simpa using hn)];exact he
 case vw sz n off len cap=>
  simp only[AV.cellsA]at he|-;split at he
  ·cases he
  ·rename_i hn;rw[h.some_ (by simpa using hn)];exact he
 all_goals exact he
mutual
def OwnLe.port(h:OwnLe b own' own):∀{x y:AV},x.port own'=some y->x.port own=some y
 |.c _,y,he=>he
 |.non,y,he=>he
 |.bp _ _,y,he=>he
 |.opt _ _,y,he=>he
 |.gr n,y,he=>by simp only[AV.port]at he|-;rcases h n with h|h|⟨_,h,_⟩;{rwa [h]at he};{rw[h]at he;cases he};{cases ho:own' n<;>rw[ho]at h he<;>simp_all [Ob.isBox]}
 |.agg cs,y,he=>by simp only[AV.port,Yh]at he|-;obtain⟨l,hl,rfl⟩:=he;exact⟨l,h.portL hl,rfl⟩
 |.tup cs,y,he=>by simp only[AV.port,Yh]at he|-;obtain⟨l,hl,rfl⟩:=he;exact⟨l,h.portL hl,rfl⟩
 |.fn f cs,y,he=>by simp only[AV.port,Yh]at he|-;obtain⟨l,hl,rfl⟩:=he;exact⟨l,h.portL hl,rfl⟩
def OwnLe.portL(h:OwnLe b own' own):∀{x y:List AV},AV.portL own' x=some y->AV.portL own x=some y
 |[],y,he=>he
 |a::x,y,he=>by simp only[AV.portL]at he|-;split at he;{rename_i u us h1 h2;rw[h.port h1,h.portL h2];exact he};{cases he}
end
def OwnLe.bldGo(h:OwnLe b own' own):∀(ps:List (Nat×Nat×X))(cs:List AV){r:Prop×List AV},bldGo ⟨env,own'⟩ ps cs=some r->bldGo ⟨env,own⟩ ps cs=some r
 |[],cs,r,he=>he
 |(off,sz,x)::ps,cs,r,he=>by simp only[Go.V.bldGo]at he|-;split at he;{rename_i vs hv;have hv':(St.val ⟨env,own⟩ x).dv.cellsA own=some vs:=h.cellsA (by cases x<;>exact hv);rw[hv'];simp only;split at he;{rename_i hfit;rw[Yt hfit];split at he;{rename_i p r' hb;rw[h.bldGo ps _ hb];cases x<;>exact he};{cases he}};{cases he}};{cases he}
def Zca(x:X):St.val ⟨env,own'⟩ x=St.val ⟨env,own⟩ x:=by cases x<;>rfl
def ZlP(n:Nat)(x:Option X):Go.V.bound ⟨env,own'⟩ n x=Go.V.bound ⟨env,own⟩ n x:=by(cases x with|none=>rfl|some x=>simp only[Go.V.bound];rw[Zca (own':=own') (own:=own)])
def OwnLe.pevO(h:OwnLe b own' own){i:I}(hb:b=true->i.readsBox=false){r:Prop×AV}(he:pevO ⟨env,own'⟩ i=some r):pevO ⟨env,own⟩ i=some r:=by
 cases i;case fa off x=>
  simp only[Go.V.pevO,Zca (own':=own') (own:=own)]at he|-;generalize hx:(St.val ⟨env,own⟩ x).dv=y at he|-;cases y;case bp n o=>
   simp only at he|-;split at he
   ·rename_i hbx;rw[Yt (h.box hbx)];exact he
   ·cases he
  case c c=>cases c<;>exact he
  all_goals exact he
 case nilc x=>
  simp only[Go.V.pevO,Zca (own':=own') (own:=own)]at he|-;generalize hx:(St.val ⟨env,own⟩ x).dv=y at he|-;cases y;case bp n o=>
   simp only at he|-;split at he
   ·rename_i hbx;rw[Yt (h.box hbx)];exact he
   ·cases he
  case c c=>cases c<;>exact he
  all_goals exact he
 case ia sz x y=>
  simp only[Go.V.pevO,Zca (own':=own') (own:=own)]at he|-;cases hx:(St.val ⟨env,own⟩ x).dv.elemsZ own' with
  |none=>rw[hx]at he;cases he
  |some es=>rw[hx]at he;rw[h.elemsZ hx];exact he
 case len x=>
  simp only[Go.V.pevO,Zca (own':=own') (own:=own)]at he|-;cases hr:(St.val ⟨env,own⟩ x).dv.rawLen with
  |some n=>rw[hr]at he;exact he
  |none=>
   rw[hr]at he;simp only at he|-;cases hx:(St.val ⟨env,own⟩ x).dv.elems own' with
   |none=>rw[hx]at he;cases he
   |some es=>rw[hx]at he;rw[h.elems hx];exact he
 case slc sz x lo hi=>
  simp only[Go.V.pevO,Zca (own':=own') (own:=own),ZlP (own':=own') (own:=own)]at he|-;cases hx:(St.val ⟨env,own⟩ x).dv.elemsZ own' with
  |none=>rw[hx]at he;cases he
  |some es=>rw[hx]at he;rw[h.elemsZ hx];exact he
 case ld one sz x=>
  simp only[Go.V.pevO,Zca (own':=own') (own:=own)]at he|-;generalize hx:(St.val ⟨env,own⟩ x).dv=y at he|-;cases y;case bp n o=>
   simp only at he|-;rcases h n with h|h|⟨h,_⟩
   ·rwa [h]at he
   ·rw[h]at he;cases he
   ·have:=hb h;cases this
  case c c=>cases c<;>exact he
  all_goals exact he
 case iap n sz x i=>
  simp only[Go.V.pevO,Zca (own':=own') (own:=own)]at he|-;generalize(St.val ⟨env,own⟩ i).dv.asC=u at he|-;generalize(St.val ⟨env,own⟩ x).dv=y at he|-;rcases u with _|u
  ·exact he
  ·cases u<;>try exact he
   simp only at he|-;cases y;case bp m o=>
    simp only at he|-;split at he
    ·rename_i hbx;rw[Yt (h.box hbx)];exact he
    ·cases he
   case c c=>cases c<;>exact he
   all_goals exact he
 case bld z ps=>
  simp only[Go.V.pevO,Yh]at he|-;obtain⟨p,hp,rfl⟩:=he;exact⟨p,h.bldGo ps z hp,rfl⟩
 all_goals first
  |(simp only[Go.V.pevO,Zca (own':=own') (own:=own)]at he|-;exact he)
  |exact he
def OwnLe.vwp(h:OwnLe b own' own){i:I}{r:Prop×AV}(he:vwp ⟨env,own'⟩ i=some r):vwp ⟨env,own⟩ i=some r:=by
 cases i<;>(try(simp[Go.V.vwp]at he;done))
 case ia sz x y=>
  simp only[Go.V.vwp,Zca (own':=own') (own:=own)]at he|-;generalize hx:(St.val ⟨env,own⟩ x).dv=y at he|-;cases y<;>(try(cases he;done))
  simp only at he|-;split at he
  ·rename_i hbx;rw[Yt (h.box hbx)];exact he
  ·cases he
 case len x=>
  simp only[Go.V.vwp,Zca (own':=own') (own:=own)]at he|-;generalize hx:(St.val ⟨env,own⟩ x).dv=y at he|-;cases y<;>(try(cases he;done))
  simp only at he|-;split at he
  ·rename_i hbx;rw[Yt (h.box hbx)];exact he
  ·cases he
 case slc sz x lo hi=>
  simp only[Go.V.vwp,Zca (own':=own') (own:=own),ZlP (own':=own') (own:=own)]at he|-;generalize hx:(St.val ⟨env,own⟩ x).dv=y at he|-;cases y<;>(try(cases he;done))
  simp only at he|-;split at he
  ·rename_i hbx;rw[Yt (h.box hbx)];exact he
  ·cases he
def ZwD{σ:St}{i:I}(h:(vwp σ i).isSome=true):pevO σ i=none:=by
 cases i<;>(try(simp[Go.V.vwp]at h;done))
 case ia sz x y=>
  simp only[Go.V.vwp]at h;simp only[Go.V.pevO];split at h
  ·rename_i hv;rw[hv];rfl
  ·cases h
 case len x=>
  simp only[Go.V.vwp]at h;simp only[Go.V.pevO];split at h
  ·rename_i hv;rw[hv];rfl
  ·cases h
 case slc sz x lo hi=>
  simp only[Go.V.vwp]at h;simp only[Go.V.pevO];split at h
  ·rename_i hv;rw[hv];rfl
  ·cases h
def ZmD{σ:St}{i:I}{r:Prop×AV}:pev σ i=some r↔vwp σ i=some r\/pevO σ i=some r:=by unfold pev;constructor;{intro h;split at h;{rename_i r' hr;exact .inl (by rw[hr];exact h)};{exact .inr h}};{rintro(h|h);{rw[h]};{(cases hv:vwp σ i with|none=>exact h|some r'=>rw[ZwD (by rw[hv];rfl)]at h;cases h)}}
def OwnLe.pev(h:OwnLe b own' own){i:I}(hb:b=true->i.readsBox=false){r:Prop×AV}(he:pev ⟨env,own'⟩ i=some r):pev ⟨env,own⟩ i=some r:=by rw[ZmD]at he|-;exact he.imp h.vwp (h.pevO hb)
end
def Zcm(P:Program)(i:Ins)(σ:St)(ε:Eff):Prop:=
  match i.g with
  |none=>
    match i.i with
    | .call f xs=>∃fid caps args r,(σ.val f).dg=true/\(xs.all fun x=>(σ.val x).dg)=true/\(σ.val f).dv= .fn fid caps/\AV.portL σ.own (xs.map (fun x=>(σ.val x).dv)++caps)=some args/\
        r.pureB=true/\FSpec P fid args r/\ε= .put r
    |ins=>(∃q v,pev σ ins=some (q,v)/\q/\ε= .put v)\/(pev σ ins=none/\∃q,ZeZ σ i.d ins=some (q,ε)/\q)
  |some g=>∃G,σ.guard g=some G/\
    match i.i with
    | .call f xs => ∃ r, r.pureB = true /\ (G = true -> ∃ fid caps args, (σ.val f).dg = true /\ (xs.all fun x => (σ.val x).dg) = true /\ (σ.val f).dv = .fn fid caps /\ AV.portL σ.own (xs.map (fun x => (σ.val x).dv) ++ caps) = some args /\
          FSpec P fid args r)/\ε= .put (.opt G r)
    |ins=>(∃q v,pev σ ins=some (q,v)/\(G=true->q)/\ε= .put (.opt G v))\/(pev σ ins=none/\((∃q,ZeZ σ i.d ins=some (q,ε)/\G=true/\q)\/(ins.putsB=false/\G=false/\ε= .put (.opt false .non))))
def ZbP{P:Program}{i:Ins}{K:St->Prop}{σ:St}:ZaQ P i K σ↔∃ε,Zcm P i σ ε/\K (ε.app i.d σ):=by
 obtain⟨d,ins,g,s⟩:=i;(have call_or:(∃f xs,ins= .call f xs)\/(∀f xs,ins≠ .call f xs):=by cases ins<;>first|exact .inl ⟨_,_,rfl⟩|(right;intro f xs h;cases h));(have mv:∀{q:Prop}{ε:Eff},ZeZ σ d ins=some (q,ε)->mev σ d ins=some (q,ε.app d σ):=fun h=>by rw[Zxh,h];rfl);have mv':∀{q:Prop}{σ':St},mev σ d ins=some (q,σ')->∃ε,ZeZ σ d ins=some (q,ε)/\σ'=ε.app d σ:=fun{q σ'} h=>by rw[Zxh,Yh]at h;obtain⟨⟨q',ε⟩,h1,h2⟩:=h;simp only[Yj]at h2;obtain⟨rfl,rfl⟩:=h2;exact⟨ε,h1,rfl⟩
 cases g with
 |none=>rcases call_or with⟨f,xs,rfl⟩|hn;{simp only[ZaQ,Zum,Zcm];constructor;{rintro⟨fid,caps,args,r,h1,h2,h3,h4,h5,h6,h7⟩;exact⟨_,⟨fid,caps,args,r,h1,h2,h3,h4,h5,h6,rfl⟩,h7⟩};{rintro⟨ε,⟨fid,caps,args,r,h1,h2,h3,h4,h5,h6,rfl⟩,h7⟩;exact⟨fid,caps,args,r,h1,h2,h3,h4,h5,h6,h7⟩}};{(have e1:ZaQ P ⟨d,ins,none,s⟩ K σ=(match pev σ ins with|some (q,v)=>q/\K (σ.put d v)|none=>match mev σ d ins with|some (q,σ')=>q/\K σ'|none=>False):=by cases ins<;>first|rfl|exact(hn _ _ rfl).elim);(have e2:∀ε,Zcm P ⟨d,ins,none,s⟩ σ ε=((∃q v,pev σ ins=some (q,v)/\q/\ε= .put v)\/(pev σ ins=none/\∃q,ZeZ σ d ins=some (q,ε)/\q)):=by intro ε;cases ins<;>first|rfl|exact(hn _ _ rfl).elim);(simp only[e1,e2];cases hp:pev σ ins with|some qv=>obtain⟨q,v⟩:=qv;constructor;{rintro⟨h1,h2⟩;exact⟨.put v,.inl ⟨q,v,rfl,h1,rfl⟩,h2⟩};{rintro⟨ε,⟨q',v',h,h1,rfl⟩|⟨h,_⟩,h2⟩;{cases h;exact⟨h1,h2⟩};{cases h}}|none=>constructor;{intro h;dsimp only at h;split at h;{rename_i q σ' hm;obtain⟨ε,hε,rfl⟩:=mv' hm;exact⟨ε,.inr ⟨rfl,q,hε,h.1⟩,h.2⟩};{exact h.elim}};{rintro⟨ε,⟨q',v',h,_⟩|⟨_,q,h,h1⟩,h2⟩;{cases h};{rw[mv h];exact⟨h1,h2⟩}})}
 |some g=>rcases call_or with⟨f,xs,rfl⟩|hn;{(simp only[ZaQ,ZgQ,Zcm];cases hg:σ.guard g with|none=>simp|some G=>constructor;{rintro⟨r,h1,h2,h3⟩;exact⟨_,⟨G,rfl,r,h1,h2,rfl⟩,h3⟩};{rintro⟨ε,⟨G',hG,r,h1,h2,rfl⟩,h3⟩;cases hG;exact⟨r,h1,h2,h3⟩})};{(have e1:ZaQ P ⟨d,ins,some g,s⟩ K σ=(match σ.guard g with|none=>False|some G=>match pev σ ins with|some (q,v)=>(G=true->q)/\K (σ.put d (.opt G v))|none=>(match mev σ d ins with|some (q,σ')=>G=true/\q/\K σ'|none=>False)\/(ins.putsB=false/\G=false/\K (σ.put d (.opt false .non)))):=by cases ins<;>first|rfl|exact(hn _ _ rfl).elim);(have e2:∀ε,Zcm P ⟨d,ins,some g,s⟩ σ ε=(∃G,σ.guard g=some G/\((∃q v,pev σ ins=some (q,v)/\(G=true->q)/\ε= .put (.opt G v))\/(pev σ ins=none/\((∃q,ZeZ σ d ins=some (q,ε)/\G=true/\q)\/(ins.putsB=false/\G=false/\ε= .put (.opt false .non)))))):=by intro ε;cases ins<;>first|rfl|exact(hn _ _ rfl).elim);(simp only[e1,e2];cases hg:σ.guard g with|none=>simp|some G=>(simp only[];cases hp:pev σ ins with|some qv=>obtain⟨q,v⟩:=qv;constructor;{rintro⟨h1,h2⟩;exact⟨.put (.opt G v),⟨G,rfl,.inl ⟨q,v,rfl,h1,rfl⟩⟩,h2⟩};{rintro⟨ε,⟨G',hG,⟨q',v',h,h1,rfl⟩|⟨h,_⟩⟩,h2⟩;{cases hG;cases h;exact⟨h1,h2⟩};{cases h}}|none=>constructor;{intro h;dsimp only at h;rcases h with h|⟨h1,h2,h3⟩;{split at h;{rename_i q σ' hm;obtain⟨ε,hε,rfl⟩:=mv' hm;exact⟨ε,⟨G,rfl,.inr ⟨rfl,.inl ⟨q,hε,h.1,h.2.1⟩⟩⟩,h.2.2⟩};{exact h.elim}};{exact⟨_,⟨G,rfl,.inr ⟨rfl,.inr ⟨h1,h2,rfl⟩⟩⟩,h3⟩}};{rintro⟨ε,⟨G',hG,⟨q',v',h,_⟩|⟨_,⟨q,h,h0,h1⟩|⟨h0,h1,rfl⟩⟩⟩,h2⟩;{cases h};{cases hG;rw[mv h];exact .inl ⟨h0,h1,h2⟩};{cases hG;exact .inr ⟨h0,h1,h2⟩}}))}
def Zdx{P:Program}{i:Ins}{K K':St->Prop}{σ:St}(h:∀σ,K σ->K' σ)(hs:ZaQ P i K σ):ZaQ P i K' σ:=by rw[ZbP]at hs|-;obtain⟨ε,h1,h2⟩:=hs;exact⟨ε,h1,h _ h2⟩
end Go.V
