
import Derived.Test.YtcggfogkfhlmlaaGreatDoorV2
import Derived.Lib.MakeNoZero
import Derived.WideKeyMaps
import Derived.Maps.RangeRun
import Derived.WideKeyEntry
import Derived.StringKeys
set_option linter.unusedVariables false
set_option linter.defProp false
set_option linter.unusedSimpArgs false
namespace Go.V
def SSem(C:Ctx)(i:Ins)(K:St->Prop)(σ:St):Prop:=
 ∀(ops:Array Oper)(o:Oper),INS C.P C.N ops o i->∀(Q':Exit->Act->World->Prop)(K':Act->World->Prop),(∀σ' a' w',Gam C σ' a' w'->K σ'->K' a' w')->∀a w,Gam C σ a w->
  (if Region.wanted o (yielded ops a.tmps)=true then o.wpIn C.F 0 C.P a w K' Q' else(∀f,o.about C.P w a.eval=some f->C.F.fn f)/\K' (a.put o.dst undef) w)
def SSem.mono{C:Ctx}{i:Ins}{K K':St->Prop}{σ:St}(hk:∀σ,K σ->K' σ)(h:SSem C i K σ):SSem C i K' σ:=
 fun ops o hins Q' J hJ a w hg=>h ops o hins Q' J (fun σ' a' w' hg' h'=>hJ σ' a' w' hg' (hk _ h')) a w hg
def CStep(C:Ctx)(i:Ins)(K:St->Prop)(σ:St):Prop:=AStep C.P i K σ\/(i.s=true/\i.i.callnB=false/\SSem C i K σ)
section
variable{C:Ctx}
def ZjD{i:Ins}{K K':St->Prop}{σ:St}(hk:∀σ,K σ->K' σ)(h:CStep C i K σ):CStep C i K' σ:=
 h.imp (ZcK hk) fun h=>⟨h.1,h.2.1,h.2.2.mono hk⟩
def Zfi{i:Ins}{K:St->Prop}{σ:St}(hs:i.s=false):CStep C i K σ↔ZaQ C.P i K σ:=by rw[<-Zch hs];exact⟨fun h=>h.elim id fun h=>(by rw[hs]at h;cases h.1),.inl⟩
def ZrY{i j:Ins}{K:St->Prop}{σ:St}(hc:(comm i j||Zii i j)=true):CStep C j K σ↔AStep C.P j K σ:=by refine⟨fun h=>h.elim id fun h=>?_,.inl⟩;simp only[Yae]at hc;rcases hc with hc|hc;{rw[(Zgw hc).2]at h;cases h.1};{simp only[Zii,Yf]at hc;(have:j.i.callnB=true:=by have:=hc;simp_all);rw[this]at h;cases h.2.1}
def ZlS{i j:Ins}{K:St->Prop}{σ:St}(hc:(comm i j||Zii i j)=true)(h:ZaQ C.P i (fun σ1=>CStep C j K σ1) σ):CStep C j (fun σ1=>ZaQ C.P i K σ1) σ:=by rw[ZrY hc];exact Zij hc (Zdx (fun σ1 h=>(ZrY hc).1 h) h)
def Znz{σ:St}{a:Act}{w:World}(hg:Gam C σ a w){ops:Array Oper}{o:Oper}{i:Ins}(hc:INS C.P C.N ops o i){K:St->Prop}(h:CStep C i K σ){K':Act->World->Prop}{Q:Exit->Act->World->Prop}(hK:∀σ' a' w',Gam C σ' a' w'->K σ'->K' a' w'):(if Region.wanted o (yielded ops a.tmps)=true then o.wpIn C.F 0 C.P a w K' Q else(∀f,o.about C.P w a.eval=some f->C.F.fn f)/\K' (a.put o.dst undef) w):=by rcases h with h|h;{exact ZdN hg hc h hK};{exact h.2.2 ops o hc Q K' hK a w hg}
mutual
def CTree(C:Ctx):OT->(St->Prop)->St->Prop
 |.nil,K,σ=>K σ
 |.cons i t,K,σ=>CStep C i (CTree C t K) σ
 |.br ts,K,σ=>CTrees C ts K σ
def CTrees(C:Ctx):List OT->(St->Prop)->St->Prop
 |[],_,_=>True
 |t::ts,K,σ=>CTree C t K σ/\CTrees C ts K σ
end
def ZxF(C:Ctx)(ops:Array Oper)(is:List Ins)(K:St->Prop):Nat->Array Bool->St->Prop
 |0,listed,σ=>Region.ready .any ops listed=[]/\K σ
 |n+1,listed,σ=>(Region.ready .any ops listed=[]->K σ)/\∀i∈Region.ready .any ops listed,∃ins,is[i]? =some ins/\CStep C ins (ZxF C ops is K n (listed.setIfInBounds i true)) σ
variable{ops:Array Oper}{is:List Ins}{K:St->Prop}{σ:St}{Q:Exit->St->Prop}
def Zp6{i:Nat}{ins:Ins}(hins:is[i]? =some ins)(hlen:∀j:Nat,j<ops.size->(is[j]?).isSome=true):∀(n:Nat)(listed:Array Bool)(σ:St),listed.size=ops.size->Closed ops listed->
  (∀j ins',is[j]? =some ins'->j≠i->listed.getD j true=false->Zm6 ops i ops.size j=false->(comm ins ins'||Zii ins ins')=true)->
  i∈Region.ready .any ops listed->CStep C ins (ZxF C ops is K n (listed.setIfInBounds i true)) σ->ZxF C ops is K (n+1) listed σ:=by(intro n;induction n with|zero=>intro listed σ hsz hcl hfree hr H;refine⟨fun h=>(by rw[h]at hr;cases hr),fun j hj=>?_⟩;by_cases hji:j=i;{subst hji;exact⟨ins,hins,H⟩};{have h1:=ready_mono hj hji;obtain⟨hjun,oj,hoj,_⟩:=mem_ready.1 hj;have hiun:=(mem_ready.1 hr).1;have hjlt:j<ops.size:=(YK.1 hoj).1;obtain⟨ins',hins'⟩:=YaA.1 (hlen j hjlt);have hcomm:=hfree j ins' hins' hji hjun (Zd2 hcl hiun hsz hj _ hji);rw[Zfi (ZdP hcomm),ZbP]at H;obtain⟨ε,_,h2,_⟩:=H;rw[h2]at h1;cases h1}|succ n ih=>intro listed σ hsz hcl hfree hr H;refine⟨fun h=>(by rw[h]at hr;cases hr),fun j hj=>?_⟩;by_cases hji:j=i;{subst hji;exact⟨ins,hins,H⟩};{obtain⟨hjun,oj,hoj,_⟩:=mem_ready.1 hj;have hiun:=(mem_ready.1 hr).1;have hjlt:j<ops.size:=(YK.1 hoj).1;obtain⟨ins',hins'⟩:=YaA.1 (hlen j hjlt);refine⟨ins',hins',?_⟩;have hcomm:=hfree j ins' hins' hji hjun (Zd2 hcl hiun hsz hj _ hji);have hsi:=ZdP hcomm;(have h1:ZaQ C.P ins (fun σ1=>CStep C ins' (ZxF C ops is K n ((listed.setIfInBounds i true).setIfInBounds j true)) σ1) σ:=by rw[Zfi hsi]at H;refine Zdx (fun σ1 h=>?_) H;obtain⟨x,hx,hs⟩:=h.2 j (ready_mono hj hji);rw[hins']at hx;cases hx;exact hs);have h2:=ZlS hcomm h1;refine ZjD (fun σ1 h=>?_) h2;refine ih (listed.setIfInBounds j true) σ1 (by simpa using hsz) (hcl.set_ hj) (fun k ins'' hk hki hun hw=>?_) (ready_mono hr (Ycz hji)) ?_;{refine hfree k ins'' hk hki ?_ hw;by_cases hjk:j=k;{subst hjk;exact hjun};{rwa [getD_set_ne true hjk]at hun}};{rw[Array.setIfInBounds_comm _ _ hji,Zfi hsi];exact h}})
def ZjE:∀{ts:List OT}{σ:St},CTrees C ts K σ->∀t∈ts,CTree C t K σ
 |[],_,_,t,ht=>by cases ht
 |u::ts,σ,h,t,ht=>by simp only[CTrees]at h;rcases YF.1 ht with rfl|ht;{exact h.1};{exact ZjE h.2 t ht}
def Zil(hlen:∀j:Nat,j<ops.size->(is[j]?).isSome=true):∀(n:Nat)(listed:Array Bool)(t:OT)(σ:St),listed.size=ops.size->Closed ops listed->ZpG ops is n listed=some t->CTree C t K σ->ZxF C ops is K n listed σ
 |0,listed,t,σ,_,_,ht,h=>by simp only[ZpG]at ht;split at ht;{rename_i he;simp only[Ya]at ht;subst ht;simp only[CTree]at h;exact⟨Ycy.1 he,h⟩};{cases ht}
 |n+1,listed,t,σ,hsz,hcl,ht,h=>by simp only[ZpG]at ht;split at ht;{rename_i he;simp only[Ya]at ht;subst ht;simp only[CTree]at h;have he':=Ycy.1 he;exact⟨fun _=>h,fun i hi=>by rw[he']at hi;cases hi⟩};{rename_i hne;(have cons:∀k t',k∈Region.ready .any ops listed->OT.consAt is k (ZpG ops is n (listed.setIfInBounds k true))=some t'->CTree C t' K σ->∃ins,is[k]? =some ins/\CStep C ins (ZxF C ops is K n (listed.setIfInBounds k true)) σ:=by intro k t' hk hct hat;unfold OT.consAt at hct;split at hct;{rename_i ins t'' hins ht'';simp only[Ya]at hct;subst hct;simp only[CTree]at hat;exact⟨ins,hins,ZjD (fun σ1 h1=>Zil hlen n _ _ σ1 (by simpa using hsz) (hcl.set_ hk) ht'' h1) hat⟩};{cases hct});split at ht;{rename_i k hk;have hkr:=Yap hk;have hkf:=Ybd hk;obtain⟨ins,hins,hs⟩:=cons k t hkr ht h;refine Zp6 hins hlen n listed σ hsz hcl (fun j ins' hj hji hun hw=>?_) hkr hs;simp only[Zyg,Yn,Yaj,Yae]at hkf;(have hjlt:j<ops.size:=by rcases YaG j listed.size with h|h;{omega};{rw[YZ,Ycl h]at hun;cases hun});have:=hkf j hjlt;rw[hins,hj]at this;simp only[YaX,hji,hun,hw,Yp,Yc4,Ydd]at this;exact this};{split at ht;{rename_i k hk;refine⟨fun h0=>(by rw[h0]at hk;cases hk),fun j hj=>?_⟩;rw[hk]at hj;simp only[Yk]at hj;subst hj;exact cons j t (by rw[hk];simp) ht h};{simp only[Yh]at ht;obtain⟨ts,hts,rfl⟩:=ht;simp only[CTree]at h;refine⟨fun h0=>(by rw[h0]at hne;simp at hne),fun j hj=>?_⟩;obtain⟨k,hk⟩:=Ybf.1 hj;obtain⟨t',ht',hc⟩:=ZfZ hts hk;exact cons j t' hj hc (ZjE h t' (Yu ht'))}}}
def ZjP(hlen:∀(j:Nat)(o:Oper),ops[j]? =some o->∃ins,is[j]? =some ins/\INS C.P C.N ops o ins){Q':Exit->Act->World->Prop}(hQ:∀σ a w,Gam C σ a w->K σ->Q' .normal a w):
  ∀(n:Nat)(listed:Array Bool)(σ:St)(a:Act)(w:World),Gam C σ a w->ZxF C ops is K n listed σ->wpAnyIn C.F 0 C.P .any ops Q' n listed a w
 |0,_,σ,a,w,hg,h=>⟨h.1,hQ σ a w hg h.2⟩
 |n+1,listed,σ,a,w,hg,h=>by refine⟨fun h0=>hQ σ a w hg (h.1 h0),fun i hi=>?_⟩;obtain⟨_,o,ho,_⟩:=mem_ready.1 hi;obtain⟨ins,hins,hc⟩:=hlen i o ho;obtain⟨ins',hins',hs⟩:=h.2 i hi;rw[hins]at hins';cases hins';have:=Znz hg hc hs (Q:=Q') (fun σ' a' w' hg' hk=>ZjP hlen hQ n _ σ' a' w' hg' hk);unfold wpOpIn;rw[ho];exact this
def ZlT{id:Nat}{ops:Array Oper}{is:List Ins}(his:ops.toList.mapM (cOp C.P C.N ops)=some is)(hm:C.P.follows .mixedOrders=true){t:OT}(ht:ZpG ops (ZeA C.m ops is) ops.size (Array.replicate ops.size false)=some t)(h:CTree C t (Q .normal) σ):Wp C (.region id ops true) Q σ:=by intro a w hg;have hlen:=Zhv his;(have hget:∀(j:Nat)(o:Oper),ops[j]? =some o->∃ins,(ZeA C.m ops is)[j]? =some ins/\INS C.P C.N ops o ins:=fun j o ho=>by obtain⟨ins,h1,h2⟩:=ZfZ his (by simpa using ho);obtain⟨v1,v2,v3,_⟩:=Zud C.m ins;refine⟨{vwI C.m ins with s:=ZzD ops j||Zsj C.m (vwI C.m ins)},by simp[ZeA,h1],ins.s,ins.i,?_,v1⟩;rw[h2];obtain⟨d,i,g,s⟩:=ins;simp only at v2 v3|-;rw[v2,v3]);(have hlen2:(ZeA C.m ops is).length=is.length:=by simp[ZeA]);(have hcl:Closed ops (Array.replicate ops.size false):=by intro m o e ho hm he hb;rw[YZ,Array.getElem?_replicate]at hm;split at hm<;>cases hm);have:=Zil (C:=C) (fun j hj=>by rw[Yd (by simp at hlen;omega)];rfl) ops.size _ t σ Kd hcl ht h;obtain⟨loc,hg⟩:=hg;exact wpIn_region_any hm (ZjP hget (fun σ a w hg hk=>⟨σ,hg,hk⟩) _ _ σ a _ ⟨loc,hg.drew⟩ this)
def ZxK{t:OT}(h:CTree C t (Q .normal) σ):WV C (.drw t) Q σ:=by intro c hc;cases c<;>simp only[comp,reduceCtorEq,Ya]at hc<;>(try(simp[Yz,Yh]at hc;done));rename_i id ops draw;split at hc;{rename_i is' his;split at hc;{rename_i hd;subst hd;unfold ZlR at hc;split at hc;{rename_i hcond;simp only[Yf]at hcond;split at hc;{rename_i t' ht;split at hc;{cases hc};{simp only[Ya,VC.drw.injEq]at hc;subst hc;exact ZlT his hcond.2 ht h}};{cases hc}};{cases hc}};{cases hc}};{cases hc}
def OT.takeL:Nat->OT->List Ins
 |n+1,.cons i t=>i::OT.takeL n t
 |_,_=>[]
def OT.dropL:Nat->OT->OT
 |n+1,.cons _ t=>OT.dropL n t
 |_,t=>t
def Zup{ts:List OT}(h:CTrees C ts K σ):CTree C (.br ts) K σ:=by simp only[CTree];exact h
def Zne{t:OT}{ts:List OT}(h1:CTree C t K σ)(h2:CTrees C ts K σ):CTrees C (t::ts) K σ:=by simp only[CTrees];exact⟨h1,h2⟩
def ZpP:CTrees C [] K σ:=by simp only[CTrees]
def Zq0(h:K σ):CTree C .nil K σ:=by simp only[CTree];exact h
def Zfa:∀(n:Nat){t:OT}{σ:St},ZkA C.P (t.takeL n) (CTree C (t.dropL n) K) σ->CTree C t K σ
 |0,t,σ,h=>by simpa only[OT.takeL,OT.dropL,ZkA]using h
 |n+1,.nil,σ,h=>by simpa only[OT.takeL,OT.dropL,ZkA]using h
 |n+1,.br ts,σ,h=>by simpa only[OT.takeL,OT.dropL,ZkA]using h
 |n+1,.cons i t,σ,h=>by simp only[OT.takeL,OT.dropL,ZkA]at h;simp only[CTree];exact .inl (ZcK (fun σ1 h1=>Zfa n h1) h)
section
variable{α:Type}{cds:α->List CD}{R R':List (Row α)}{j m:Nat}{o:Nat->Ob}
end
end
end Go.V
namespace Go.V
section
variable{C:Ctx}{σ:St}{K:St->Prop}{is:List Ins}{Q:Exit->St->Prop}
end
end Go.V
namespace Go.V
section
variable{α:Type}{cds:α->List CD}{C:Ctx}{K:St->Prop}{is:List Ins}
end
end Go.V
namespace Go.V
section
variable{α:Type}{cds:α->List CD}{C:Ctx}{K:St->Prop}{is:List Ins}{Q:Exit->St->Prop}{v:VC}
end
end Go.V
namespace Go.V
section
variable{α:Type}{cds:α->List CD}{C:Ctx}{Q:Exit->St->Prop}{K:St->Prop}{is:List Ins}
end
end Go.V
namespace Go.V
def Zf6{P:Program}{σ:St}{d:Option Nat}{t e:TypeId}{n sz:Nat}{parts:Array (Nat×Operand)}{z:List AV}{ps:List (Nat×Nat×X)}{p:Prop}{r:List AV}{K:St->Prop}(hu:P.underlying t=some (.array n e))(hs:sizeB P e=some sz)(hz:zeroB P t=some z)(h1:(parts.toList.map fun(x:Nat×Operand)=>x.2).mapM cX=some (ps.map fun x=>x.2.2))(h2:∀(i:Nat)(q:Nat×Operand),parts.toList[i]? =some q->∃r:Nat×Nat×X,ps[i]? =some r/\some (q.1*sz,sz)=some (r.1,r.2.1))(hb:bldGo σ ps z=some (p,r))(hp:p)(hK:K (σ.put d (.agg r))):Zcn P d (.raw (.build t parts)) K σ:=by refine Zbs (fun C loc a w o hP ho hg=>?_) hK;subst hP;obtain⟨it,zv,hit,hzv,hone,rfl⟩:=ZcR hz;obtain⟨arr',hf,hr⟩:=ZhU hg (fun i=>some (i*sz,sz)) parts.toList ps _ zv.cells h1 h2 hb hp (Zbo w _ loc _ hone);(have hie:∃ie,C.P.info? e=some ie/\ie.size=sz:=by unfold sizeB at hs;simpa using hs);obtain⟨ie,hie,rfl⟩:=hie;(have hbuilt:C.P.built t (parts.map fun(i,x)=>(i,a.eval x)).toList=some arr':=by unfold Program.built;simp only[hit,hu,hzv,hie];simpa using hf);exact⟨.agg arr',by simp[execOp,ho,run_build w t _ arr' hbuilt],by simp only[RepA];exact⟨arr'.toList,Kd,hr⟩⟩
end Go.V
namespace Go.V
def Zou{C:Ctx}{Q:Exit->St->Prop}{x:VC}{env:Nat->AV}{own:Nat->Ob}(d n:Nat)(hdn:d≠n)(hp:¬C.pin n)(hn:own n= .none)(h:WV C x Q ⟨rnE d n env,rnO d n own⟩):WV C x Q ⟨env,own⟩:=
 Zgr (fun _ _ hg=>ZeF hdn hp hn hg) h
end Go.V
namespace Go.V
section
variable{τ:Type}
def ZCq:Nat->Value:=fun _=>undef
def ZGg(F:τ->List CD)(sz:Nat)(l:List τ)(arr:Option Value)(rem:List Ent)(L:List Nat)(M:Nat->Nat->Prop)(w:World):Prop:=
 rem=[]/\match arr with
  |none=>L=[]
  |some v=>∃g cap j lv ty,v= .slice (some ⟨g,0,none⟩) l.length cap/\L=[g]/\AtC w g lv ty/\RepAs w M ZCq (Zac F l j) lv/\l.length<=cap/\cap<=maxLen/\cap*sz<=l.length*sz+j
def gA(F:τ->List CD)(sz:Nat)(l:List τ)(arr:Option Value):Gst:=⟨.bool false,ZGg F sz l arr⟩
def Zyl(F:τ->List CD)(sz:Nat)(l:List τ)(arr:Option Value):Ob:=.guest (gA F sz l arr) []
end
section
variable{C:Ctx}{σ:St}{τ:Type}{F:τ->List CD}{sz:Nat}
end
section
variable{C:Ctx}{σ:St}{K:St->Prop}{is:List Ins}{Q:Exit->St->Prop}{τ:Type}{F:τ->List CD}{sz:Nat}
end
end Go.V
namespace Go.V
def ZaH(ag:Bool)(l:List Int):Value:=if ag then .agg (l.map (Value.int .i64)).toArray else .int .i64 (l.headD 0)
def kav(ag:Bool)(l:List Int):AV:=if ag then .agg (l.map fun n=> .c (.int .i64 n))else .c (.int .i64 (l.headD 0))
def ZbR{w:World}{M:Cells}{loc:Nat->Value}:∀(l:List Int)(vs:List Value),RepAs w M loc (l.map fun n=> .c (.int .i64 n)) vs↔vs=l.map (Value.int .i64)
 |[],vs=>by simp[RepAs]
 |n::l,vs=>by simp only[Ye,RepAs,RepA,RepC];constructor;{rintro⟨v,vs',rfl,rfl,h⟩;rw[(ZbR l vs').1 h]};{rintro rfl;exact⟨_,_,rfl,rfl,(ZbR l _).2 rfl⟩}
def ZbA{w:World}{M:Cells}{loc:Nat->Value}{ag:Bool}{l:List Int}{v:Value}:RepA w M loc (kav ag l) v↔v=ZaH ag l:=by cases ag;{simp[kav,ZaH,RepA,RepC]};{simp only[kav,ZaH,YJ,RepA];constructor;{rintro⟨vs,rfl,h⟩;rw[(ZbR l vs).1 h]};{rintro rfl;exact⟨_,rfl,(ZbR l _).2 rfl⟩}}
def ZcG{a b:List Int}(h:ZaH true a=ZaH true b):a=b:=by simp only[ZaH,YJ,Value.agg.injEq]at h;have h2:=congrArg Array.toList h;simp only at h2;exact(List.map_inj_right fun x y h=>by simpa using h).1 h2
structure KLaw(P:Program)(k:TypeId)(K:Value->Prop):Prop where
 check:∀(w:World)(em:Bool){v:Value},K v->(Instr.checkKey em 10000 k v).run P w= .ok () w
 find:∀(w:World){x:Value},K x->∀es:List MapEntry,(∀e∈es,K e.key)->
  ((Instr.findKey k x es).run P w= .ok none w/\∀e∈es,e.key≠x)\/∃j e,(Instr.findKey k x es).run P w= .ok (some (j,e.val)) w/\es[j]? =some e/\e.key=x
 stays:∀(w:World){v:Value},K v->(Instr.keyThatStays v v).run P w= .ok v w
def KLaw.wide{P:Program}{k:TypeId}(h:WideMaps.KeyLaw P k):KLaw P k (fun v=>∃l,keyOf P k v=some l):=
 ⟨fun w em _ ⟨_,hv⟩=>h.check w em hv,fun w _ ⟨_,hx⟩ es hes=>h.find w hx es hes,fun w _ ⟨_,hv⟩=>h.stays w hv⟩
def KLaw.int{P:Program}{k:TypeId}(hk:P.underlying k=some (.int .i64)):KLaw P k (fun v=>∃n,v= .int .i64 n):=by refine⟨fun w em v ⟨n,hv⟩=>?_,fun w x ⟨n,hx⟩ es hes=>?_,fun w v ⟨n,hv⟩=>?_⟩;{subst hv;exact MapKept.run_checkKey hk (by simp[MapKept.IsKey]) em 9999};{subst hx;(have key:∀(es:List MapEntry)(i:Nat),(∀e∈es,∃n,e.key= .int .i64 n)->(Instr.findNow (.int .i64) (.int .i64 n) es i=some none/\∀e∈es,e.key≠ .int .i64 n)\/∃j e,Instr.findNow (.int .i64) (.int .i64 n) es i=some (some (i+j,e.val))/\es[j]? =some e/\e.key= .int .i64 n:=by(intro es;induction es with|nil=>intro i _;exact .inl ⟨rfl,fun e he=>by cases he⟩|cons e es ih=>intro i he;obtain⟨m,hm⟩:=he e Kd;by_cases hnm:n=m;{subst hnm;exact .inr ⟨0,e,by simp[Instr.findNow,Instr.sameNow,hm],rfl,hm⟩};{(have hb:(n==m)=false:=by simpa using hnm);rcases ih (i+1) fun x hx=>he x (by simp[hx])with⟨k1,k2⟩|⟨j,e',k1,k2,k3⟩;{refine .inl ⟨by simp only[Instr.findNow,Instr.sameNow,hm,YJ,hb,k1],fun x hx=>?_⟩;rcases YF.1 hx with rfl|hx;{rw[hm];intro h;simp only[Value.int.injEq,YcO]at h;exact hnm h.symm};{exact k2 x hx}};{exact .inr ⟨j+1,e',by simp only[Instr.findNow,Instr.sameNow,hm,YJ,hb,k1];rw[show i+1+j=i+(j+1) by omega],by simpa using k2,k3⟩}}));rcases key es 0 hes with⟨k1,k2⟩|⟨j,e,k1,k2,k3⟩;{exact .inl ⟨MapKept.run_findKey hk k1,k2⟩};{exact .inr ⟨j,e,by rw[YaH]at k1;exact MapKept.run_findKey hk k1,k2,k3⟩}};{subst hv;exact MapKept.run_keyThatStays (d:=.int .i64) (by simp[MapKept.IsKey])}
abbrev GL:=List (List Int×List Int)
def ZbG(ka va:Bool)(l:GL):List (Value×Value):=l.map fun p=>(ZaH ka p.1,ZaH va p.2)
def gmJ(ka va:Bool)(l:GL)(b:Nat)(rem:List Ent)(L:List Nat)(_:Nat->Nat->Prop)(w:World):Prop:=
 rem=[]/\L=[b]/\∃es clock,w.heap[b]? =some (.map es clock)/\MapKept.Stamped es clock/\es.toList.map (fun e=>(e.key,e.val))=ZbG ka va l
def gmG(ka va:Bool)(l:GL)(b:Nat):Gst:=⟨.bool false,gmJ ka va l b⟩
def gmap(ka va:Bool)(l:GL)(b:Nat):Ob:=.guest (gmG ka va l b) []
def ZoU(P:Program)(ka va:Bool)(l:GL)(b:Nat):(gmG ka va l b).Ok P:=by refine⟨rfl,?_,?_⟩;{rintro rem L M w M' w' ⟨h1,h2,es,clock,h3,h4⟩ hk hb hs;exact⟨h1,h2,es,clock,by rw[hb b (by rw[h2];simp)];exact h3,h4⟩};{rintro args wins r rem L M w loc vs ⟨h1,_⟩;cases h1}
section
variable{C:Ctx}{σ:St}{loc:Nat->Value}{a:Act}{w:World}
def G.setGuest(hg:G C σ loc a w){n b:Nat}{L:List Nat}{g g':Gst}{rem rem':List Ent}{o o':Obj}(hown:σ.own n= .guest g rem)(hloc:loc n=Zc6 L)(hbL:b∈L)(hh:w.heap[b]? =some o)(hnd:∀x,o≠ .deferred x)(hok:g'.Ok C.P)(hJ:∀M,g'.J rem' L M {w with heap:=w.heap.setIfInBounds b o'}):G C ⟨σ.env,upd σ.own n (.guest g' rem')⟩ loc a {w with heap:=w.heap.setIfInBounds b o'}:=by
 have hob:=hg.objs n;rw[hown]at hob;obtain⟨_,L2,hl2,_,hA⟩:=hob;have hLL:∀x,x∈L↔x∈L2:=ZkZ (hloc.symm.trans hl2);have hB:=(hA b ((hLL b).1 hbL)).2;have hnb:(σ.own n).has (loc n) b:=by rw[hown,hloc];simp only[Ob.has,Zan];exact hbL
 have hset:=MapKept.heap_set (o':=o') hh;have hhas:∀(k b2:Nat),(upd σ.own n (.guest g' rem') k).has (loc k) b2↔(σ.own k).has (loc k) b2:=by
  intro k b2;by_cases hkn:k=n
  ·subst hkn;simp only[upd,YJ];rw[hown];exact YaK
  ·simp only[upd,hkn,YA]
 have hmut:∀(k b2 o2:Nat),(upd σ.own n (.guest g' rem') k).mut (loc k) b2 o2↔(σ.own k).mut (loc k) b2 o2:=by
  intro k b2 o2;by_cases hkn:k=n
  ·subst hkn;simp only[upd,YJ];rw[hown];exact YaK
  ·simp only[upd,hkn,YA]
 have hk:Keeps w {w with heap:=w.heap.setIfInBounds b o'} (MM C σ.own loc) (MM C (upd σ.own n (.guest g' rem')) loc):=by
  refine⟨fun p hp hm=>ZcW w b _ p (fun hpb=>hm (.inr ⟨n,?_⟩)),fun p hp hm hm'=>?_⟩
  ·rw[hown,hloc];simp only[Ob.mut,Zan];rw[hpb];exact hbL
  ·rcases hm' with h0|⟨m,h0⟩
   ·exact hm (.inl h0)
   ·exact hm (.inr ⟨m,(hmut m _ _).1 h0⟩)
 have hsz:w.heap.size<=({w with heap:=w.heap.setIfInBounds b o'}:World).heap.size:=by simp
 have hfr:Fr C { w with heap:=w.heap.setIfInBounds b o' }:=⟨hg.fr.os,hg.fr.tape,hg.fr.output,by have:=hg.fr.size; simpa using this,fun k hk hx =>by
  rw[hset.2 k (by rintro rfl;rcases hB with h'|h';omega;exact hx h')];exact hg.fr.block k hk hx⟩
 refine⟨hfr,hg.m0,hg.kp.trans hk,fun x hx=>?_,hg.mnd,hg.pin,hg.size,fun t=>RepA.keep hk _ _ (hg.slots t),fun m=>?_,fun m k b2 hmk hm hk2=>?_⟩
 ·obtain⟨D,e1,e2,e3,e4⟩:=hg.marks x hx;refine⟨D,e1,e2,?_,fun⟨k,hk⟩=>e4 ⟨k,(hhas k D).1 hk⟩⟩;rw[hset.2 D (by rintro rfl;rw[hh]at e3;exact hnd _ (YQ e3))];exact e3
 ·by_cases hmn:m=n
  ·subst hmn;simp only[upd,YJ];exact⟨hok,L,hloc,hJ _,fun b2 hb2=>⟨by simpa using(hA b2 ((hLL b2).1 hb2)).1,(hA b2 ((hLL b2).1 hb2)).2⟩⟩
  ·simp only[upd,hmn,YA];exact ObOk.keep' hk hsz (fun b2 hb2=>hset.2 b2 (fun hbb=>hg.disj m n b hmn (hbb▸hb2) hnb)) (hg.objs m)
 ·exact hg.disj m k b2 hmk ((hhas m b2).1 hm) ((hhas k b2).1 hk2)
end
end Go.V
namespace Go.V
def Za0(l:GL)(k:List Int):Option (List Int):=(l.find? fun p=>p.1==k).map (·.2)
def Zlz(l:GL)(k v:List Int):GL:=if(Za0 l k).isSome=true then l.map (fun p=>if p.1=k then(k,v)else p)else l++[(k,v)]
def ZBf{ka va:Bool}{l:GL}{es:List MapEntry}(h:es.map (fun e=>(e.key,e.val))=ZbG ka va l){j:Nat}{e:MapEntry}(he:es[j]? =some e):∃p,l[j]? =some p/\e.key=ZaH ka p.1/\e.val=ZaH va p.2:=by(have h1:(es.map (fun e=>(e.key,e.val)))[j]? =some (e.key,e.val):=by rw[Y0,he];rfl);rw[h]at h1;unfold ZbG at h1;rw[Y0]at h1;obtain⟨p,hp,h2⟩:=Yh.1 h1;simp only[Yj]at h2;exact⟨p,hp,h2.1.symm,h2.2.symm⟩
def ZBg{ka va:Bool}{l:GL}{es:List MapEntry}(h:es.map (fun e=>(e.key,e.val))=ZbG ka va l){p:List Int×List Int}(hp:p∈l):∃e∈es,e.key=ZaH ka p.1/\e.val=ZaH va p.2:=by have h1:(ZaH ka p.1,ZaH va p.2)∈ZbG ka va l:=Ys.2 ⟨p,hp,rfl⟩;rw[<-h]at h1;obtain⟨e,he,h2⟩:=Ys.1 h1;simp only[Yj]at h2;exact⟨e,he,h2.1,h2.2⟩
def ZoY{ka va:Bool}{l:GL}{es:List MapEntry}(h:es.map (fun e=>(e.key,e.val))=ZbG ka va l)(hn:(es.map (·.key)).Nodup):(l.map fun p=>ZaH ka p.1).Nodup:=by(have:es.map (·.key)=l.map fun p=>ZaH ka p.1:=by have h2:=congrArg (List.map Prod.fst) h;unfold ZbG at h2;rw[Ya0,Ya0]at h2;exact h2);rwa [<-this]
def ZdB{ka va:Bool}{l:GL}{es:List MapEntry}{k:List Int}(h:es.map (fun e=>(e.key,e.val))=ZbG ka va l)(hno:∀e∈es,e.key≠ZaH ka k):Za0 l k=none:=by unfold Za0;rw[YaQ.2 fun p hp hk=>?_];{rfl};{obtain⟨e,he,h1,_⟩:=ZBg h hp;(have:p.1=k:=by simpa using hk);exact hno e he (by rw[h1,this])}
def ZdC{ka va:Bool}{l:GL}{es:List MapEntry}{k:List Int}(h:es.map (fun e=>(e.key,e.val))=ZbG ka va l)(hn:(es.map (·.key)).Nodup)(hinj:∀p∈l,ZaH ka p.1=ZaH ka k->p.1=k){j:Nat}{e:MapEntry}(he:es[j]? =some e)(hk:e.key=ZaH ka k):
  ∃v,l[j]? =some (k,v)/\Za0 l k=some v/\e.val=ZaH va v:=by obtain⟨p,hp,h1,h2⟩:=ZBf h he;have hpm:=Yu hp;have hpk:p.1=k:=hinj p hpm (h1.symm.trans hk);refine⟨p.2,by rw[hp,<-hpk],?_,h2⟩;unfold Za0;(have hs:(l.find? fun p=>p.1==k).isSome=true:=by rw[YcT];exact⟨p,hpm,by simpa using hpk⟩);obtain⟨q,hq⟩:=YaA.1 hs;have hqm:=Yap hq;(have hqk:q.1=k:=by simpa using Ybd hq);rw[hq];have hnd:=ZoY h hn;obtain⟨i,hi,hqi⟩:=Ybb hqm;obtain⟨hj,hpj⟩:=Ym.1 hp;(have hij:i=j:=by(have e1:(l.map fun p=>ZaH ka p.1)[i]'(by simpa using hi)=(l.map fun p=>ZaH ka p.1)[j]'(by simpa using hj):=by simp only[Ycx];rw[hqi,hpj,hqk,hpk]);exact(List.getElem_inj hnd).1 e1);subst hij;rw[<-hqi,hpj];rfl
def ZoX{l:GL}{k v:List Int}(h:Za0 l k=none):Zlz l k v=l++[(k,v)]:=by unfold Zlz;rw[h];rfl
def Zu8{l:GL}{k v u:List Int}(h:Za0 l k=some u):Zlz l k v=l.map (fun p=>if p.1=k then(k,v)else p):=by unfold Zlz;rw[h];rfl
def Ziw{ka va:Bool}{l:GL}{es:Array MapEntry}{k v:List Int}(h:es.toList.map (fun e=>(e.key,e.val))=ZbG ka va l)(hn:(es.toList.map (·.key)).Nodup)(hinj:∀p∈l,ZaH ka p.1=ZaH ka k->p.1=k){j:Nat}{e:MapEntry}(he:es.toList[j]? =some e)(hk:e.key=ZaH ka k):
  (es.modify j fun e=> {e with key:=ZaH ka k,val:=ZaH va v}).toList.map (fun e=>(e.key,e.val))=ZbG ka va (Zlz l k v):=by obtain⟨u,hu,hlk,_⟩:=ZdC h hn hinj he hk;rw[Zu8 hlk];have hnd:=ZoY h hn;refine Yba fun q=>?_;(have e1:(es.modify j fun e=> {e with key:=ZaH ka k,val:=ZaH va v}).toList[q]? =if j=q then(es.toList[q]?).map (fun e=> {e with key:=ZaH ka k,val:=ZaH va v})else es.toList[q]?:=by rw[Yay,Array.getElem?_modify,Yay]);unfold ZbG at h|-;rw[Y0,e1,Y0,Y0];(have h2:(es.toList.map (fun e=>(e.key,e.val)))[q]? =(l.map fun p=>(ZaH ka p.1,ZaH va p.2))[q]?:=by rw[h]);rw[Y0,Y0]at h2;by_cases hjq:j=q;{subst hjq;rw[Yt rfl,he,hu];simp};{(rw[Yx hjq,h2];cases hq:l[q]? with|none=>rfl|some p=>(have hpk:p.1≠k:=by intro hpk;obtain⟨hq1,hq2⟩:=Ym.1 hq;obtain⟨hj1,hj2⟩:=Ym.1 hu;(have e2:(l.map fun p=>ZaH ka p.1)[j]'(by simpa using hj1)=(l.map fun p=>ZaH ka p.1)[q]'(by simpa using hq1):=by simp only[Ycx];rw[hj2,hq2,hpk]);exact hjq ((List.getElem_inj hnd).1 e2));simp[hpk])}
def ZeT{P:Program}{w:World}{e:TypeId}{z:Value}(hz:(P.info? e).bind (·.zero)=some z):(zeroValue e).run P w= .ok z w:=by(cases hinf:P.info? e with|none=>simp[hinf]at hz|some inf=>simp only[hinf,Ya8]at hz;simp[zeroValue,typeInfo,hinf,hz])
section
variable{P:Program}{σ:St}{K:St->Prop}
def ZnZ{d:Nat}{t:TypeId}(ka va:Bool)(hn:(σ.own d).isNone=true)(hK:∀b,K (St.new σ d (.c (.raw (.map (some b)))) (gmap ka va [] b))):Zcn P (some d) (.raw (.makeMap t none)) K σ:=by refine Zb1 fun C loc a w o hP ho hod hdl hg=>?_;(have hd:d<C.N:=by simpa using hdl);refine⟨_,⟨w.alloc (.map #[] 0),upd loc d (Zc6 [w.heap.size]),.inl ⟨.map (some w.heap.size),?_,?_⟩⟩,hK w.heap.size⟩;{have h1:(Instr.makeMap t none).run C.P w= .ok (.map (some w.heap.size)) (w.alloc (.map #[] 0)):=rfl;simp[execOp,ho,h1]};{rw[hod];refine hg.newblock hd hn (fun b hb=>?_) (fun M loc' hk hl hv=>?_) (fun M loc' hv=>?_);{simp only[gmap,Ob.has,Zan,Yk]at hb;exact hb};{refine⟨ZoU _ _ _ _ _,[w.heap.size],rfl,⟨rfl,rfl,#[],0,by rw[Zbv],MapKept.stamped_empty 0,rfl⟩,fun b hb=>?_⟩;simp only[Yk]at hb;subst hb;exact⟨Kd,.inl hg.fr.size⟩};{simp only[RepA,RepC];exact⟨trivial,rfl⟩}}
def ZmN{d:Option Nat}{t k e:TypeId}{x i:Operand}{x' i':X}{n b:Nat}{ka va:Bool}{l:GL}{key zs:List Int}{Kp:Value->Prop}(ht:P.underlying t=some (.map k e))(hkl:KLaw P k Kp)(hz:(P.info? e).bind (·.zero)=some (ZaH va zs))(hx:cX x=some x')(hi:cX i=some i')(h1:(σ.val x').dg=true)(h2:(σ.val i').dg=true)(hv:(σ.val x').dv= .c (.raw (.map (some b))))(hj:(σ.val i').dv=kav ka key)(hown:σ.own n=gmap ka va l b)(hkey:Kp (ZaH ka key))(hkeys:∀p∈l,Kp (ZaH ka p.1))(hinj:∀p∈l,ZaH ka p.1=ZaH ka key->p.1=key)(hK:K (σ.put d (.tup [kav va ((Za0 l key).getD zs),.c (.bool (Za0 l key).isSome)]))):Zcn P d (.raw (.lookup t x i true)) K σ:=by refine Zbs (fun C loc a w o hP ho hg=>?_) hK;subst hP;have rx:=ZaJ hg hx h1;have ri:=ZaJ hg hi h2;rw[hv]at rx;rw[hj,ZbA]at ri;simp only[RepA,RepC]at rx;have hob:=hg.objs n;rw[hown]at hob;obtain⟨_,L,hl,⟨_,rfl,es,clock,hb,hst,hes⟩,hA⟩:=hob;(have hks:∀e∈es.toList,Kp e.key:=fun e he=>by have hm:(e.key,e.val)∈es.toList.map (fun e=>(e.key,e.val)):=Ys.2 ⟨e,he,rfl⟩;rw[hes]at hm;obtain⟨p,hp,h3⟩:=Ys.1 hm;simp only[Yj]at h3;rw[<-h3.1];exact hkeys p hp);refine⟨.tuple #[ZaH va ((Za0 l key).getD zs),.bool (Za0 l key).isSome],?_,?_⟩;{rcases hkl.find w hkey es.toList hks with⟨f1,f2⟩|⟨j,e0,f1,f2,f3⟩;{rw[ZdB hes f2];simp[execOp,ho,rx.1,ri,Instr.lookup,run_underlying ht,MapKept.run_getObj_map hb,hkl.check w _ hkey,f1,ZeT hz]};{obtain⟨v,g1,g2,g3⟩:=ZdC hes hst.2.2 hinj f2 f3;rw[g2];simp[execOp,ho,rx.1,ri,Instr.lookup,run_underlying ht,MapKept.run_getObj_map hb,hkl.check w _ hkey,f1,g3]}};{simp only[RepA];refine⟨[_,_],rfl,?_⟩;simp only[RepAs];exact⟨_,_,rfl,ZbA.2 rfl,_,_,rfl,by simp only[RepA,RepC],rfl⟩}
def ZhC{op:Op}{t k e:TypeId}{x i v:Operand}{x' i' v':X}{n b:Nat}{ka va:Bool}{l:GL}{key val:List Int}{Kp:Value->Prop}(hop:op= .mapUpdate t x i v\/op= .insert t x i v)(ht:P.underlying t=some (.map k e))(hkl:KLaw P k Kp)(hx:cX x=some x')(hi:cX i=some i')(hvx:cX v=some v')(h1:(σ.val x').dg=true)(h2:(σ.val i').dg=true)(h3:(σ.val v').dg=true)(hv:(σ.val x').dv= .c (.raw (.map (some b))))(hj:(σ.val i').dv=kav ka key)(hw:(σ.val v').dv=kav va val)(hown:σ.own n=gmap ka va l b)(hkey:Kp (ZaH ka key))(hkeys:∀p∈l,Kp (ZaH ka p.1))(hinj:∀p∈l,ZaH ka p.1=ZaH ka key->p.1=key)(hK:K ⟨σ.env,upd σ.own n (gmap ka va (Zlz l key val) b)⟩):Zcn P none (.raw op) K σ:=by refine Zb1 fun C loc a w o hP ho hod hdl hg=>?_;subst hP;have rx:=ZaJ hg hx h1;have ri:=ZaJ hg hi h2;have rv:=ZaJ hg hvx h3;rw[hv]at rx;rw[hj,ZbA]at ri;rw[hw,ZbA]at rv;simp only[RepA,RepC]at rx;have hob:=hg.objs n;rw[hown]at hob;obtain⟨_,L,hl,⟨_,rfl,es,clock,hb,hst,hes⟩,hA⟩:=hob;(have hks:∀e∈es.toList,Kp e.key:=fun e he=>by have hm:(e.key,e.val)∈es.toList.map (fun e=>(e.key,e.val)):=Ys.2 ⟨e,he,rfl⟩;rw[hes]at hm;obtain⟨p,hp,h3⟩:=Ys.1 hm;simp only[Yj]at h3;rw[<-h3.1];exact hkeys p hp);(have hrun:∃es' clock',(Instr.mapUpdate t (.map (some b)) (ZaH ka key) (ZaH va val)).run C.P w= .ok () {w with heap:=w.heap.setIfInBounds b (.map es' clock')} /\MapKept.Stamped es' clock'/\es'.toList.map (fun e=>(e.key,e.val))=ZbG ka va (Zlz l key val):=by rcases hkl.find w hkey es.toList hks with⟨f1,f2⟩|⟨j,e0,f1,f2,f3⟩;{refine⟨es.push {key:=ZaH ka key,val:=ZaH va val,born:=clock},clock+1,?_,MapKept.stamped_push hst f2,?_⟩;{simp[Instr.mapUpdate,run_underlying ht,MapKept.run_getObj_map hb,hkl.check w _ hkey,f1,MapKept.run_setObj_map _ hb]};{rw[ZoX (ZdB hes f2),Ycn,Yy,hes];unfold ZbG;rw[Yy];rfl}};{(have hj':es[j]? =some e0:=by simpa using f2);refine⟨es.modify j fun e=> {e with key:=ZaH ka key,val:=ZaH va val},clock,?_,MapKept.stamped_modify hst j _ (fun e _=>rfl) (fun e _ he=>?_),Ziw hes hst.2.2 hinj f2 f3⟩;{simp[Instr.mapUpdate,run_underlying ht,MapKept.run_getObj_map hb,hkl.check w _ hkey,f1,hj',f3,hkl.stays w hkey,MapKept.run_setObj_map _ hb]};{rw[hj']at he;rw[<-YQ he,f3]}});obtain⟨es',clock',hr1,hr2,hr3⟩:=hrun;refine⟨_,⟨{w with heap:=w.heap.setIfInBounds b (.map es' clock')},loc,.inr ⟨?_,?_⟩⟩,hK⟩;{rcases hop with rfl|rfl<;>simp[execOp,ho,rx.1,ri,rv,hr1]};{rw[hod];refine hg.setGuest (g:=gmG ka va l b) hown hl Kd hb (fun x h=>by cases h) (ZoU _ _ _ _ _) fun M=>⟨rfl,rfl,es',clock',(MapKept.heap_set hb).1,hr2,hr3⟩}
end
end Go.V
namespace Go.V
def gmE(es:Array MapEntry)(clock b:Nat):Gst:=⟨.bool false,fun rem L _ w=>rem=[]/\L=[b]/\w.heap[b]? =some (.map es clock)⟩
def mapE(es:Array MapEntry)(clock b:Nat):Ob:=.guest (gmE es clock b) []
def gIt(r b since:Nat)(seen:Array Nat)(last:Nat):Gst:=⟨.bool false,fun rem L _ w=>rem=[]/\L=[r]/\w.heap[r]? =some (.mapIter (some b) since seen last)⟩
def iterE(r b since:Nat)(seen:Array Nat)(last:Nat):Ob:=.guest (gIt r b since seen last) []
def ZBe(P:Program)(es:Array MapEntry)(clock b:Nat):(gmE es clock b).Ok P:=by refine⟨rfl,?_,?_⟩;{rintro rem L M w M' w' ⟨h1,h2,h3⟩ hk hb hs;exact⟨h1,h2,by rw[hb b (by rw[h2];simp)];exact h3⟩};{rintro args wins r rem L M w loc vs ⟨h1,_⟩;cases h1}
def Zxc(P:Program)(r b since:Nat)(seen:Array Nat)(last:Nat):(gIt r b since seen last).Ok P:=by refine⟨rfl,?_,?_⟩;{rintro rem L M w M' w' ⟨h1,h2,h3⟩ hk hb hs;exact⟨h1,h2,by rw[hb r (by rw[h2];simp)];exact h3⟩};{rintro args wins r rem L M w loc vs ⟨h1,_⟩;cases h1}
section
variable{C:Ctx}{σ:St}{loc:Nat->Value}{a:Act}{w:World}
def G.reguest(hg:G C σ loc a w){n:Nat}{L:List Nat}{g g':Gst}{rem rem':List Ent}(hown:σ.own n= .guest g rem)(hloc:loc n=Zc6 L)(hok:g'.Ok C.P)(hJ:∀M,g'.J rem' L M w):G C ⟨σ.env,upd σ.own n (.guest g' rem')⟩ loc a w:=by have hob:=hg.objs n;rw[hown]at hob;obtain⟨_,L2,hl2,_,hA⟩:=hob;have hLL:∀x,x∈L↔x∈L2:=ZkZ (hloc.symm.trans hl2);(have hhas:∀(k b2:Nat),(upd σ.own n (.guest g' rem') k).has (loc k) b2↔(σ.own k).has (loc k) b2:=by intro k b2;by_cases hkn:k=n;{subst hkn;simp only[upd,YJ];rw[hown];exact YaK};{simp only[upd,hkn,YA]});(have hmut:∀(k b2 o2:Nat),(upd σ.own n (.guest g' rem') k).mut (loc k) b2 o2↔(σ.own k).mut (loc k) b2 o2:=by intro k b2 o2;by_cases hkn:k=n;{subst hkn;simp only[upd,YJ];rw[hown];exact YaK};{simp only[upd,hkn,YA]});refine hg.reown (fun _ _=>rfl) hg.slots (fun b o ⟨m,h⟩=>⟨m,(hmut m b o).1 h⟩) (fun b ⟨m,h⟩=>⟨m,(hhas m b).1 h⟩) (fun m=>?_) (fun m k b hmk h1 h2=>hg.disj m k b hmk ((hhas m b).1 h1) ((hhas k b).1 h2));by_cases hmn:m=n;{subst hmn;simp only[upd,YJ];exact⟨hok,L,hloc,hJ _,fun b hb=>hA b ((hLL b).1 hb)⟩};{simp only[upd,hmn,YA];exact hg.objs m}
def Zq4{n b:Nat}{ka va:Bool}{l:GL}(hown:σ.own n=gmap ka va l b):∀a w,Gam C σ a w->∃x:Array MapEntry×Nat,(MapKept.Stamped x.1 x.2/\x.1.toList.map (fun e=>(e.key,e.val))=ZbG ka va l)/\Gam C ⟨σ.env,upd σ.own n (mapE x.1 x.2 b)⟩ a w:=by rintro a w ⟨loc,hg⟩;have hob:=hg.objs n;rw[hown]at hob;obtain⟨_,L,hl,⟨_,rfl,es,clock,hb,hst,hes⟩,_⟩:=hob;exact⟨(es,clock),⟨hst,hes⟩,loc,hg.reguest (g:=gmG ka va l b) hown hl (ZBe _ _ _ _) fun M=>⟨rfl,rfl,hb⟩⟩
def ZpS{n b:Nat}{ka va:Bool}{l:GL}{es:Array MapEntry}{clock:Nat}(hown:σ.own n=mapE es clock b)(hst:MapKept.Stamped es clock)(hes:es.toList.map (fun e=>(e.key,e.val))=ZbG ka va l):∀a w,Gam C σ a w->Gam C ⟨σ.env,upd σ.own n (gmap ka va l b)⟩ a w:=by rintro a w ⟨loc,hg⟩;have hob:=hg.objs n;rw[hown]at hob;obtain⟨_,L,hl,⟨_,rfl,hb⟩,_⟩:=hob;exact⟨loc,hg.reguest (g:=gmE es clock b) hown hl (ZoU _ _ _ _ _) fun M=>⟨rfl,rfl,es,clock,hb,hst,hes⟩⟩
end
section
variable{C:Ctx}{σ:St}{K:St->Prop}{is:List Ins}{Q:Exit->St->Prop}
def Zut{v:VC}(n:Nat){b:Nat}{ka va:Bool}{l:GL}(hown:σ.own n=gmap ka va l b)(h:∀es clock,MapKept.Stamped es clock->es.toList.map (fun e=>(e.key,e.val))=ZbG ka va l->WV C v Q ⟨σ.env,upd σ.own n (mapE es clock b)⟩):WV C v Q σ:=
 ZAF (Zq4 hown) fun x hx=>h x.1 x.2 hx.1 hx.2
def Zrh{v:VC}(n:Nat){b:Nat}(ka va:Bool)(l:GL){es:Array MapEntry}{clock:Nat}(hown:σ.own n=mapE es clock b)(hst:MapKept.Stamped es clock)(hes:es.toList.map (fun e=>(e.key,e.val))=ZbG ka va l)(h:WV C v Q ⟨σ.env,upd σ.own n (gmap ka va l b)⟩):WV C v Q σ:=
 Zgr (ZpS hown hst hes) h
end
section
variable{P:Program}{σ:St}{K:St->Prop}
def ZqJ{d:Nat}{t k e:TypeId}{x:Operand}{x':X}{n b clock:Nat}{es:Array MapEntry}(ht:P.underlying t=some (.map k e))(hx:cX x=some x')(h1:(σ.val x').dg=true)(hv:(σ.val x').dv= .c (.raw (.map (some b))))(hown:σ.own n=mapE es clock b)(hn:(σ.own d).isNone=true)(hK:∀r,K (St.new σ d (.c (.raw (.pointer (some ⟨r,0,none⟩)))) (iterE r b clock #[] clock))):Zcn P (some d) (.raw (.range t x)) K σ:=by refine Zb1 fun C loc a w o hP ho hod hdl hg=>?_;subst hP;(have hd:d<C.N:=by simpa using hdl);have rx:=ZaJ hg hx h1;rw[hv]at rx;simp only[RepA,RepC]at rx;have hob:=hg.objs n;rw[hown]at hob;obtain⟨_,L,hl,⟨_,rfl,hb⟩,_⟩:=hob;refine⟨_,⟨w.alloc (.mapIter (some b) clock #[] clock),upd loc d (Zc6 [w.heap.size]),.inl ⟨.pointer (some ⟨w.heap.size,0,none⟩),?_,?_⟩⟩,hK w.heap.size⟩;{have h:=run_range_map (P:=C.P) w t k e b es clock ht hb;simp[execOp,ho,rx.1,h]};{rw[hod];refine hg.newblock hd hn (fun b hb=>?_) (fun M loc' hk hl hv=>?_) (fun M loc' hv=>?_);{simp only[iterE,Ob.has,Zan,Yk]at hb;exact hb};{refine⟨Zxc _ _ _ _ _ _,[w.heap.size],rfl,⟨rfl,rfl,by rw[Zbv]⟩,fun b hb=>?_⟩;simp only[Yk]at hb;subst hb;exact⟨Kd,.inl hg.fr.size⟩};{simp only[RepA,RepC];exact⟨trivial,rfl⟩}}
def Zty{d:Option Nat}{x:Operand}{x':X}{n m b r since last clock:Nat}{seen:Array Nat}{es:Array MapEntry}{ka va:Bool}{l:GL}(hx:cX x=some x')(h1:(σ.val x').dg=true)(hv:(σ.val x').dv= .c (.raw (.pointer (some ⟨r,0,none⟩))))(hown:σ.own n=mapE es clock b)(hit:σ.own m=iterE r b since seen last)(Zqn:∀x∈es.toList,x.born<since)(hsl:since<=last)(hes:es.toList.map (fun e=>(e.key,e.val))=ZbG ka va l)(hK0:(leftOf es seen).size=0->K (σ.put d (.tup [.c (.bool false)])))(hK1:∀e k v,e∈(leftOf es seen).toList->(k,v)∈l->e.key=ZaH ka k->e.val=ZaH va v->K (St.put ⟨σ.env,upd σ.own m (iterE r b since (seen.push e.born) clock)⟩ d (.tup [.c (.bool true),kav ka k,kav va v]))):Zcn P d (.raw (.next x false)) K σ:=by refine Zb1 fun C loc a w o hP ho hod hdl hg=>?_;subst hP;have rx:=ZaJ hg hx h1;rw[hv]at rx;simp only[RepA,RepC]at rx;have hob:=hg.objs n;rw[hown]at hob;obtain⟨_,L,hl,⟨_,rfl,hb⟩,_⟩:=hob;have hob2:=hg.objs m;rw[hit]at hob2;obtain⟨_,L2,hl2,⟨_,rfl,hr⟩,_⟩:=hob2;rcases run_next_at (P:=C.P) w o.type r b since last seen es clock hr hb Zqn hsl with⟨k1,k2⟩|⟨e,he,w1,hw1,k2⟩;{refine⟨_,⟨w,loc,.inl ⟨.tuple #[.bool false],by simp[execOp,ho,rx.1,k2],?_⟩⟩,hK0 k1⟩;rw[hod];refine hg.put hdl ?_;simp only[RepA];exact⟨[_],rfl,by simp only[RepAs,RepA,RepC];exact⟨_,_,rfl,rfl,rfl⟩⟩};{(have hem:e∈es.toList:=by unfold leftOf at he;simp at he;simpa using he.1);(have hpm:(e.key,e.val)∈ZbG ka va l:=by rw[<-hes];exact Ys.2 ⟨e,hem,rfl⟩);obtain⟨⟨k,v⟩,hkv,hkv2⟩:=Ys.1 hpm;simp only[Yj]at hkv2;(have hg1:G C σ loc a w1:=by rcases hw1 with rfl|rfl;exact hg;exact hg.drew);(have hr1:w1.heap[r]? =some (.mapIter (some b) since seen last):=by rcases hw1 with rfl|rfl<;>exact hr);have hg2:=hg1.setGuest (g:=gIt r b since seen last) (g':=gIt r b since (seen.push e.born) clock) (rem':=[]) (o':=.mapIter (some b) since (seen.push e.born) clock) hit hl2 Kd hr1 (fun x h=>by cases h) (Zxc _ _ _ _ _ _) fun M=>⟨rfl,rfl,(MapKept.heap_set hr1).1⟩;refine⟨_,⟨_,loc,.inl ⟨.tuple #[.bool true,e.key,e.val],by simp only[execOp,ho,rx.1];simp[k2];rfl,?_⟩⟩,hK1 e k v he hkv hkv2.1.symm hkv2.2.symm⟩;rw[hod];refine hg2.put hdl ?_;simp only[RepA];exact⟨[_,_,_],rfl,by simp only[RepAs];exact⟨_,_,rfl,by simp only[RepA,RepC],_,_,rfl,ZbA.2 hkv2.1.symm,_,_,rfl,ZbA.2 hkv2.2.symm,rfl⟩⟩}
def ZqI{d:Option Nat}{x:Operand}{x':X}{n m b r since clock:Nat}{seen:Array Nat}{es:Array MapEntry}{e:MapEntry}{ka va:Bool}{k v:List Int}(hx:cX x=some x')(h1:(σ.val x').dg=true)(hv:(σ.val x').dv= .c (.raw (.pointer (some ⟨r,0,none⟩))))(hown:σ.own n=mapE es clock b)(hit:σ.own m=iterE r b since (seen.push e.born) clock)(hst:MapKept.Stamped es clock)(he:e∈es.toList)(hk:e.key=ZaH ka k)(hvv:e.val=ZaH va v)(hK:K (σ.put d (.tup [kav ka k,kav va v]))):Zcn P d (.raw (.entry x)) K σ:=by refine Zbs (fun C loc a w o hP ho hg=>?_) hK;subst hP;have rx:=ZaJ hg hx h1;rw[hv]at rx;simp only[RepA,RepC]at rx;have hob:=hg.objs n;rw[hown]at hob;obtain⟨_,L,hl,⟨_,rfl,hb⟩,_⟩:=hob;have hob2:=hg.objs m;rw[hit]at hob2;obtain⟨_,L2,hl2,⟨_,rfl,hr⟩,_⟩:=hob2;have h:=run_entry_at (P:=C.P) w r b since seen es clock e hr hb he hst.2.1;refine⟨.tuple #[e.key,e.val],by simp[execOp,ho,rx.1,h],?_⟩;simp only[RepA];exact⟨[_,_],rfl,by simp only[RepAs];exact⟨_,_,rfl,ZbA.2 hk,_,_,rfl,ZbA.2 hvv,rfl⟩⟩
end
end Go.V
namespace Go.V
section
variable{C:Ctx}{σ:St}{loc:Nat->Value}{a:Act}{w:World}
def G.turnGuest(hg:G C σ loc a w){n:Nat}{L L':List Nat}{g g':Gst}{rem rem':List Ent}{w':World}(hown:σ.own n= .guest g rem)(hloc:loc n=Zc6 L)(h1:w'.os=w.os)(h2:w'.tape=w.tape)(h3:w'.output=w.output)(hs:w.heap.size<=w'.heap.size)(hb:∀k,k<w.heap.size->k∉L->w'.heap[k]? =w.heap[k]?)(hd:∀D:Nat,w.heap[D]? =some markO->w'.heap[D]? =w.heap[D]?)(hL:∀k∈L',k<w'.heap.size/\(k∈L\/w.heap.size<=k))(hok:g'.Ok C.P)(hJ:∀M,g'.J rem' L' M w'):G C ⟨σ.env,upd σ.own n (.guest g' rem')⟩ (upd loc n (Zc6 L')) a w':=by
 have hob:=hg.objs n;rw[hown]at hob;obtain⟨_,L2,hl2,_,hA⟩:=hob;have hLL:∀x,x∈L↔x∈L2:=ZkZ (hloc.symm.trans hl2);have hnp:¬C.pin n:=ZjT hg hloc;have hl:∀m,(loc m).oneCell'=true->upd loc n (Zc6 L') m=loc m:=fun m hm=>by
  by_cases e:m=n
  ·subst e;rw[hloc,ZoN]at hm;cases hm
  ·simp[upd,e]
 have hnb:∀b,(σ.own n).has (loc n) b↔b∈L:=fun b=>by rw[hown,hloc];simp only[Ob.has,Zan]
 have hB:∀b∈L,C.A b:=fun b hb=>(hA b ((hLL b).1 hb)).2
 have hlt:∀b∈L,b<w.heap.size:=fun b hb=>(hA b ((hLL b).1 hb)).1
 have hfr:Fr C w':=⟨h1.trans hg.fr.os,h2.trans hg.fr.tape,h3.trans hg.fr.output,YaP hg.fr.size hs,fun k hk hx =>by
  rw[hb k (YaR hk hg.fr.size) fun hkL=>by rcases hB k hkL with h|h;omega;exact hx h];exact hg.fr.block k hk hx⟩
 have hhas:∀m b,(upd σ.own n (.guest g' rem') m).has (upd loc n (Zc6 L') m) b->(m=n/\b∈L')\/(m≠n/\(σ.own m).has (loc m) b):=by
  intro m b h;by_cases e:m=n
  ·subst e;simp only[upd,YJ,Ob.has,Zan]at h;exact .inl ⟨rfl,h⟩
  ·simp only[upd,e,YA]at h;exact .inr ⟨e,h⟩
 have hmut:∀m b o,(upd σ.own n (.guest g' rem') m).mut (upd loc n (Zc6 L') m) b o->(m=n/\b∈L')\/(m≠n/\(σ.own m).mut (loc m) b o):=by
  intro m b o h;by_cases e:m=n
  ·subst e;simp only[upd,YJ,Ob.mut,Zan]at h;exact .inl ⟨rfl,h⟩
  ·simp only[upd,e,YA]at h;exact .inr ⟨e,h⟩
 have hk:Keeps w w' (MM C σ.own loc) (MM C (upd σ.own n (.guest g' rem')) (upd loc n (Zc6 L'))):=by
  refine⟨fun p hp hm=>?_,fun p hp hm hm'=>?_⟩
  ·refine World.cell?_of_block (hb _ (Zbx hp) fun hpL=>hm (.inr ⟨n,?_⟩));rw[hown,hloc];simp only[Ob.mut,Zan];exact hpL
  ·rcases hm' with h0|⟨m,h0⟩
   ·exact hm (.inl h0)
   ·rcases hmut m _ _ h0 with⟨rfl,hbL⟩|⟨_,h4⟩
    ·rcases(hL _ hbL).2 with h5|h5
     ·refine hm (.inr ⟨m,?_⟩);rw[hown,hloc];simp only[Ob.mut,Zan];exact h5
     ·have:=Zbx hp;omega
    ·exact hm (.inr ⟨m,h4⟩)
 refine⟨hfr,hg.m0,hg.kp.trans hk,fun x hx=>?_,hg.mnd,fun m hm=>?_,hg.size,fun t=>RepA.reloc hl (RepA.keep hk _ _ (hg.slots t)),fun m=>?_,fun m k b hmk e1 e2=>?_⟩
 ·obtain⟨D,e1,e2,e3,e4⟩:=hg.marks x hx;refine⟨D,e1,e2,(hd D e3).trans e3,fun⟨m,hm⟩=>?_⟩;rcases hhas m D hm with⟨rfl,h5⟩|⟨_,h5⟩
  ·rcases(hL D h5).2 with h6|h6
   ·exact e4 ⟨m,(hnb D).2 h6⟩
   ·have:=(YK.1 e3).1;omega
  ·exact e4 ⟨m,h5⟩
 ·obtain⟨p1,p2,p3⟩:=hg.pin m hm;have:m≠n:=fun e=>hnp (e▸hm)
  exact⟨p1,by simp only[upd,this,YA];exact p2,p3⟩
 ·by_cases e:m=n
  ·subst e;simp only[upd,YJ];refine⟨hok,L',rfl,hJ _,fun b hbL=>⟨(hL b hbL).1,?_⟩⟩;rcases(hL b hbL).2 with h5|h5
   ·exact hB b h5
   ·exact .inl (YaP hg.fr.size h5)
  ·simp only[upd,e,YA];exact ObOk.reloc hl (ObOk.keep' hk hs (fun b hb'=>hb b ((hg.objs m).lt hb') fun hbL=>hg.disj m n b e hb' ((hnb b).2 hbL)) (hg.objs m))
 ·rcases hhas m b e1 with⟨rfl,h5⟩|⟨hm,h5⟩<;>rcases hhas k b e2 with⟨rfl,h6⟩|⟨hk',h6⟩
  ·exact hmk rfl
  ·rcases(hL b h5).2 with h7|h7
   ·exact hg.disj k m b hk' h6 ((hnb b).2 h7)
   ·have:=(hg.objs k).lt h6;omega
  ·rcases(hL b h6).2 with h7|h7
   ·exact hg.disj m k b hm h5 ((hnb b).2 h7)
   ·have:=(hg.objs m).lt h5;omega
  ·exact hg.disj m k b hmk h5 h6
end
def ZbO(xs:List (List Int)):List Value:=xs.flatten.map (Value.int .i64)
def ZEv(e:TypeId)(sz:Nat)(xs:List (List Int))(b off cap:Nat)(rem:List Ent)(L:List Nat)(_:Nat->Nat->Prop)(w:World):Prop:=
 rem=[]/\L=[b]/\∃cur:Array Value,w.heap[b]? =some (.cells cur e (0,0))/\off+cap*sz<=cur.size/\(∀x∈xs,x.length=sz)/\xs.length<=cap/\cap<=maxLen/\(cur.toList.drop off).take (xs.length*sz)=ZbO xs
def qG(e:TypeId)(sz:Nat)(xs:List (List Int))(b off cap:Nat):Gst:=⟨.bool false,ZEv e sz xs b off cap⟩
def qO(e:TypeId)(sz:Nat)(xs:List (List Int))(b off cap:Nat):Ob:=.guest (qG e sz xs b off cap) []
def qv(b off n cap:Nat):AV:=.c (.raw (.slice (some ⟨b,off,none⟩) n cap))
def qp(b off:Nat):AV:=.c (.raw (.pointer (some ⟨b,off,none⟩)))
def Zo1(xs:List (List Int)):List (List CD):=xs.map fun x=>x.map (CD.int .i64)
def Zzk(P:Program)(e:TypeId)(sz:Nat)(xs:List (List Int))(b off cap:Nat):(qG e sz xs b off cap).Ok P:=by refine⟨rfl,?_,?_⟩;{rintro rem L M w M' w' ⟨h1,h2,cur,h3,h4⟩ hk hb hs;exact⟨h1,h2,cur,by rw[hb b (by rw[h2];simp)];exact h3,h4⟩};{rintro args wins r rem L M w loc vs ⟨h1,_⟩;cases h1}
def ZfG(b off j:Nat):(⟨b,off,none⟩:Addr).add j=⟨b,off+j,none⟩:=by unfold Addr.add;split<;>simp_all
def Zsr(xs:List (List Int)):(Zo1 xs).flatten=xs.flatten.map (CD.int .i64):=by unfold Zo1;rw[List.map_flatten]
def Zi6{w:World}{M:Cells}{loc:Nat->Value}{xs:List (List Int)}{l:List Value}:RepAs w M loc ((Zo1 xs).flatten.map .c) l↔l=ZbO xs:=by rw[Zsr,Ya0];exact ZbR (xs.flatten) l
def Zzl{sz:Nat}{xs:List (List Int)}(h:∀x∈xs,x.length=sz):(ZbO xs).length=xs.length*sz:=by(unfold ZbO;rw[Yc];induction xs with|nil=>simp|cons x xs ih=>rw[YaC,Yw,ih fun y hy=>h y (by simp[hy]),h x Kd,Yo,YX];omega)
def Zi0(xs ys:List (List Int)):ZbO (xs++ys)=ZbO xs++ZbO ys:=by unfold ZbO;simp
def ZgK{sz:Nat}:∀{xs:List (List Int)}(k:Nat),(∀x∈xs,x.length=sz)->ZbO (xs.drop k)=(ZbO xs).drop (k*sz)
 |xs,0,_=>by simp
 |[],k+1,_=>by simp[ZbO]
 |x::xs,k+1,h=>by rw[YaI,ZgK k fun y hy=>h y (by simp[hy])];have hx:=h x Kd;(have:ZbO (x::xs)=x.map (Value.int .i64)++ZbO xs:=by simp[ZbO]);rw[this,show(k+1)*sz=sz+k*sz by rw[YX];omega,<-YcQ,Yca (by rw[Yc,hx])]
def Zpp{sz:Nat}{xs:List (List Int)}{i:Nat}{x:List Int}(h:∀x∈xs,x.length=sz)(hi:xs[i]? =some x){j:Nat}(hj:j<sz):(ZbO xs)[i*sz+j]? =(x.map (Value.int .i64))[j]?:=by have h1:=ZgK (sz:=sz) i h;obtain⟨hlt,hx⟩:=Ym.1 hi;rw[Yan hlt,hx]at h1;(have h2:ZbO (x::xs.drop (i+1))=x.map (Value.int .i64)++ZbO (xs.drop (i+1)):=by simp[ZbO]);rw[<-Yaf,<-h1,h2,Y3 (by rw[Yc,h x (Yu hi)];exact hj)]
section
variable{P:Program}{σ:St}{K:St->Prop}
def Zdt{d:Option Nat}{i:I}{v:AV}(h:∀(C:Ctx)(loc:Nat->Value)(a:Act)(w:World)(o:Oper),C.P=P->CI P o.op i->G C σ loc a w->Snd C σ loc a w o v)(hK:K (σ.put d v)):Zcn P d i K σ:=by intro C loc a w o hP hc hd hdl hg;obtain⟨u,hrun,hr⟩:=h C loc a w o hP (by rw[<-hP];exact Zcd hc) hg;exact⟨_,⟨w,loc,.inl ⟨u,hrun,by rw[hd]at hdl|-;exact hg.put hdl hr⟩⟩,hK⟩
def ZCI{d:Option Nat}{sz:Nat}{x i:X}{b off n cap:Nat}{k:IntKind}{j:Int}(h1:(σ.val x).dg=true)(h2:(σ.val i).dg=true)(hv:(σ.val x).dv=qv b off n cap)(hj:(σ.val i).dv= .c (.int k j))(h0:0<=j)(hn:j<n)(hK:K (σ.put d (qp b (off+j.toNat*sz)))):Zcn P d (.ia sz x i) K σ:=by(refine Zdt (fun C loc a w o hP hci hg=>?_) hK;subst hP;generalize ho:o.op=op at hci;cases hci with|ia ht hs hx hi=>(have rx:=ZaJ hg hx h1;have ri:=ZaJ hg hi h2;rw[hv]at rx;rw[hj]at ri;simp only[qv,RepA,RepC]at rx ri;refine⟨.pointer (some ⟨b,off+j.toNat*sz,none⟩),?_,by simp only[qp,RepA,RepC];exact⟨trivial,rfl⟩⟩;unfold sizeB at hs;rename_i t e _ _;cases hinf:C.P.info? e with|none=>simp[hinf]at hs|some inf=>simp[hinf]at hs;simp[execOp,ho,rx.1,ri,Instr.indexAt,asIntOf,run_underlying ht,h0,hn,sizeOf,typeInfo,hinf,hs,ZfG]))
def Zzq{d:Option Nat}{sz:Nat}{x:X}{n b off cap i:Nat}{e:TypeId}{xs:List (List Int)}{r:List Int}(h1:(σ.val x).dg=true)(hv:(σ.val x).dv=qp b (off+i*sz))(hown:σ.own n=qO e sz xs b off cap)(hi:xs[i]? =some r)(hK:K (σ.put d (.agg (r.map fun m=> .c (.int .i64 m))))):Zcn P d (.ld false sz x) K σ:=by
 refine Zdt (fun C loc a w o hP hci hg=>?_) hK;subst hP;generalize ho:o.op=op at hci;generalize hone:false=one at hci;cases hci with
 |load ha hs hx=>
  rename_i t ag;cases ag with
  |false=>cases hone
  |true=>
  have rx:=ZaJ hg hx h1;rw[hv]at rx;simp only[qp,RepA,RepC]at rx;have hob:=hg.objs n;rw[hown]at hob;obtain⟨_,L,_,⟨_,_,cur,hb,hcs,hsz,hle,hcm,hcur⟩,_⟩:=hob;have hr:=hsz r (Yu hi);obtain⟨hil,_⟩:=Ym.1 hi;refine⟨.agg (r.map (Value.int .i64)).toArray,?_,?_⟩
  ·refine(show _ from by simp [execOp,ho,rx.1,Instr.loadAt,Instr.sureAddr,ZbD (ad:=⟨b,off + i * sz,none⟩) (l:=r.map (Value.int .i64)) ha hs (by simpa using hr) (w:=w) (fun j u hj =>by
    rw[ZfG,cell_of_row w b _ cur e (0,0) hb];have hjl:j<sz:=by have:=(Ym.1 hj).1;simpa [hr]using this
    have h2:=Zpp hsz hi hjl;rw[<-hcur,Y6]at h2;have h3:i*sz+j<xs.length*sz:=by
     have:(i+1)*sz<=xs.length*sz:=Y2 _ hil;rw[YX]at this;omega
    rw[Yt h3,Yaf,hj]at h2;rw[<-Yay,YcF];exact h2)])
  ·simp only[RepA];exact⟨_,rfl,(ZbR r _).2 rfl⟩
def Zwc{d:Option Nat}{sz:Nat}{x lo:X}{n b off cap l m:Nat}{k:IntKind}{e:TypeId}{xs:List (List Int)}(h1:(σ.val x).dg=true)(h2:(σ.val lo).dg=true)(hv:(σ.val x).dv=qv b off m cap)(hm:xs.length=m)(hlo:(σ.val lo).dv= .c (.int k l))(hown:σ.own n=qO e sz xs b off cap)(hl:l<=m)(hK:∀off',K (St.put ⟨σ.env,upd σ.own n (qO e sz (xs.drop l) b off' (cap -l))⟩ d (qv b off' (m -l) (cap -l)))):Zcn P d (.slc sz x (some lo) none) K σ:=by(subst hm;intro C loc a w o hP hc hd hdl hg;subst hP;have hci:=Zcd hc;generalize ho:o.op=op at hci;generalize hlo':some lo=lo' at hci;generalize hhi':(none:Option X)=hi' at hci;cases hci with|slc ht hs hx hcl hch=>subst hlo';subst hhi';rename_i t e0 x0 lo0 hi0;(obtain⟨lo1,rfl,hlo1⟩:∃l1,lo0=some l1/\cX l1=some lo:=by(cases lo0 with|none=>simp[cOX]at hcl|some l1=>simp[cOX]at hcl;exact⟨l1,rfl,hcl⟩));(have hnone:hi0=none:=by(cases hi0 with|none=>rfl|some l1=>simp[cOX]at hch));(subst hnone;have rx:=ZaJ hg hx h1;have rl:=ZaJ hg hlo1 h2;rw[hv]at rx;rw[hlo]at rl;simp only[qv,RepA,RepC]at rx rl;have hob:=hg.objs n;rw[hown]at hob;obtain⟨_,L,hL,⟨_,rfl,cur,hb,hcs,hsz,hle,hcm,hcur⟩,_⟩:=hob;unfold sizeB at hs;cases hinf:C.P.info? e0 with|none=>simp[hinf]at hs|some inf=>simp[hinf]at hs;(obtain⟨off',hoff',ho2⟩:∃off',(if cap=l then(some ⟨b,off,none⟩:Option Addr)else some ((⟨b,off,none⟩:Addr).add (l*sz)))=some ⟨b,off',none⟩/\(l<cap->off'=off+l*sz)/\(cap=l->off'=off):=by by_cases h:cap=l;{exact⟨off,by rw[Yt h],fun h'=>Kc,fun _=>rfl⟩};{exact⟨off+l*sz,by rw[Yx h,ZfG],fun _=>rfl,fun h'=>absurd h' h⟩});(have hg1:=hg.setGuest (g:=qG e sz xs b off cap) (g':=qG e sz (xs.drop l) b off' (cap -l)) (rem':=[]) hown hL Kd hb (fun x h=>by cases h) (o':=.cells cur e (0,0)) (Zzk _ _ _ _ _ _ _) fun M=>by refine⟨rfl,rfl,cur,(MapKept.heap_set hb).1,?_,fun x hx=>hsz x (YbT hx),by simp;omega,Kc,?_⟩;{by_cases h:cap=l;{rw[ho2.2 h,h];simp;have:off+cap*sz<=cur.size:=hcs;omega};{rw[ho2.1 Kc];(have h5:l*sz+(cap -l)*sz=cap*sz:=by rw[<-YX,show l+(cap -l)=cap by omega]);omega}};{rw[ZgK l hsz,<-hcur,Yc0,Yac,<-Nat.sub_mul];by_cases h:cap=l;{(have:xs.length -l=0:=by omega);rw[this];simp};{rw[ho2.1 Kc,YcQ]}});(have hww:({w with heap:=w.heap.setIfInBounds b (.cells cur e (0,0))}:World)=w:=by(have:w.heap.setIfInBounds b (.cells cur e (0,0))=w.heap:=by apply Array.ext_getElem?;intro i;rw[Ya1];split;{rename_i h;subst h;split;{exact hb.symm};{rename_i h;rw[Ycl Kc]}};{rfl});rw[this]);rw[hww]at hg1;refine⟨_,⟨w,loc,.inl ⟨.slice (some ⟨b,off',none⟩) (xs.length -l) (cap -l),?_,?_⟩⟩,hK off'⟩;{by_cases h:cap=l;{rw[ho2.2 h];(have:xs.length=cap:=by omega);subst h;simp[execOp,ho,rx.1,rl,Instr.sliceAt,Instr.slice,run_underlying ht,Instr.sliceBounds,Instr.sliceBound,asIntOf,sizeOf,typeInfo,hinf,hs,this]};{rw[ho2.1 Kc];simp[execOp,ho,rx.1,rl,Instr.sliceAt,Instr.slice,run_underlying ht,Instr.sliceBounds,Instr.sliceBound,asIntOf,sizeOf,typeInfo,hinf,hs,hl,h,ZfG]}};{rw[hd]at hdl|-;exact hg1.put hdl (by simp only[qv,RepA,RepC];exact⟨trivial,rfl⟩)}))
end
def Zgb{P:Program}(w:World)(t ty e:TypeId)(i:TypeInfo)(ht:P.underlying t=some (.slice e))(hi:P.info? e=some i)(g off sLen sCap:Nat)(cur:Array Value)(hg:w.heap[g]? =some (.cells cur e (0,0)))(a:Addr)(m c:Nat)(news:List Value)(hl:news.length=m*i.size)(hnews:∀j u,news[j]? =some u->w.cell? (a.add j)=some u)(h1:∀u∈news,u.oneCell'=true)(hroom:sLen+m<=sCap)(hfit:off+sLen*i.size+news.length<=cur.size):
  (Builtin.append_ #[t,t] ty #[.slice (some ⟨g,off,none⟩) sLen sCap,.slice (some a) m c]).run P w=
   .ok (.slice (some ⟨g,off,none⟩) (sLen+m) sCap) (w.setRow g (cur.toList.take (off+sLen*i.size)++news++cur.toList.drop (off+sLen*i.size+news.length)).toArray):=by have hf:=run_firstCells_some (P:=P) w i.size m a m c news hl hnews;have hst:=run_storeCells_at P g (off+sLen*i.size) e news 0 cur w hg (by simpa using hfit) h1;simp only[Yad]at hst;simp[Builtin.append_,run_underlying ht,sizeOf,typeInfo,hi,Builtin.lenOf,hroom,hf,Addr.add_lit,hst]
def ZCF(ys:List (List Int)):∀u∈ZbO ys,u.oneCell'=true:=fun u hu=>by unfold ZbO at hu;obtain⟨n,_,rfl⟩:=Ys.1 hu;rfl
section
variable{P:Program}{σ:St}{K:St->Prop}
def ZuA{P:Program}{w:World}(t ty e:TypeId)(i:TypeInfo)(z:Value)(ht:P.underlying t=some (.slice e))(hi:P.info? e=some i)(hz:i.zero=some z)(hzs:z.cells.size=i.size){b off cap:Nat}{xs ys:List (List Int)}{A:Option Addr}{m c:Nat}{L:List Nat}{rem:List Ent}{Mx:Nat->Nat->Prop}(hq:ZEv e i.size xs b off cap rem L Mx w)(hm:m=ys.length)(hys:∀y∈ys,y.length=i.size)(hA:ys=[]\/∃ad,A=some ad/\∀j u,(ZbO ys)[j]? =some u->w.cell? (ad.add j)=some u)(h63:xs.length+m<=maxLen)(hbytes:(xs.length+m)*i.bytes<=140737488355328):
  ∃b' off' cap' w',(Builtin.append_ #[t,t] ty #[.slice (some ⟨b,off,none⟩) xs.length cap,.slice A m c]).run P w= .ok (.slice (some ⟨b',off',none⟩) (xs.length+m) cap') w'/\(∀M,ZEv e i.size (xs++ys) b' off' cap' [] [b'] M w')/\
   w'.os=w.os/\w'.tape=w.tape/\w'.output=w.output/\w.heap.size<=w'.heap.size/\(∀k,k<w.heap.size->k≠b->w'.heap[k]? =w.heap[k]?)/\b'<w'.heap.size/\(b'=b\/w.heap.size<=b'):=by obtain⟨rfl,rfl,cur,hb,hcs,hsz,hle,hcm,hcur⟩:=hq;have hbl:b<w.heap.size:=(YK.1 hb).1;(have h63':xs.length+m<=9223372036854775807:=by simp only[maxLen]at h63;omega);rcases hA with rfl|⟨ad,rfl,hnews⟩;{simp only[YI]at hm;subst hm;refine⟨b,off,cap,w,?_,fun M=>⟨rfl,rfl,cur,hb,hcs,by simpa using hsz,by simpa using hle,hcm,by simpa using hcur⟩,rfl,rfl,rfl,Yi _,fun _ _ _=>rfl,hbl,.inl rfl⟩;cases A<;>simp[Builtin.append_,run_underlying ht,sizeOf,typeInfo,hi,Builtin.lenOf,Builtin.firstCells,hle,storeCells,loadCells,loadCellsFrom]};{subst hm;have hl:(ZbO ys).length=ys.length*i.size:=Zzl hys;(have hall:∀x∈xs++ys,x.length=i.size:=fun x hx=>by rcases YD.1 hx with h|h;exact hsz x h;exact hys x h);have hxl:(ZbO xs).length=xs.length*i.size:=Zzl hsz;by_cases hroom:xs.length+ys.length<=cap;{(have hsum:xs.length*i.size+ys.length*i.size<=cap*i.size:=by rw[<-YX];exact Y2 _ hroom);have hr:=Zgb (P:=P) w t ty e i ht hi b off xs.length cap cur hb ad ys.length c (ZbO ys) hl hnews (ZCF ys) hroom (by rw[hl];omega);refine⟨b,off,cap,_,hr,fun M=>⟨rfl,rfl,_,setRow_heap w b cur _ e _ hb,?_,hall,by simpa using hroom,hcm,?_⟩,rfl,rfl,rfl,Kd,fun k _ hk=>setRow_other w b k _ hk,by simpa using hbl,.inl rfl⟩;{simp only[YaV,Yw,Y4,Yac,Ya9,hl];omega};{(have e1:(cur.toList.take (off+xs.length*i.size)).drop off=ZbO xs:=by rw[Yc0,YbE,hcur]);(have e2:off<=(cur.toList.take (off+xs.length*i.size)).length:=by have hx2:cur.toList.length=cur.size:=Ya9;rw[Y4,hx2];omega);rw[YO,List.drop_append_of_le_length e2,e1,Zi0,<-YO,YaD (by rw[Yw,Yw,hxl,hl,YX];exact Yi _),YG (by rw[Yw,Yw,hxl,hl,YX];exact Yi _)]}};{(have holds:∀j u,(ZbO xs)[j]? =some u->w.cell? ((⟨b,off,none⟩:Addr).add j)=some u:=fun j u hj=>by rw[ZfG,cell_of_row w b _ cur e (0,0) hb];rw[<-hcur,Y6]at hj;split at hj;{rw[Yaf]at hj;rw[<-Yay];exact hj};{cases hj});have hr:=run_append_grow (P:=P) w t ty e i z ht hi hz ⟨b,off,none⟩ xs.length cap (ZbO xs) hxl holds ad ys.length c (ZbO ys) hl hnews Kc Kc (growslice_fits Kc hbytes);have hge:=grownCap_ge w (xs.length+ys.length) cap e;have hcm2:grownCap w (xs.length+ys.length) cap e<=maxLen:=grownCap_le_maxLen w _ cap e h63;refine⟨_,0,_,_,hr,fun M=>⟨rfl,rfl,_,heap_alloc_new w.drew _,?_,hall,by simpa using hge,hcm2,?_⟩,rfl,rfl,rfl,Kd,fun k hk _=>Zbw w.drew _ k hk,Kd,.inr (Yi _)⟩;{simp only[Ycm,YaV,size_zeroCells,hzs,hxl,hl,<-YX,YaH];exact Y2 _ Kc};{simp only[Yb0,YO,Yat,Yw];rw[<-YO,<-Zi0,YaD (by rw[Zzl hall,Yw];exact Yi _),YG (by rw[Zzl hall,Yw];exact Yi _)]}}}
def Zwb{d:Option Nat}{e sz bytes:Nat}{s x:X}{n b off cap m:Nat}{xs ys:List (List Int)}(h1:(σ.val s).dg=true)(h2:(σ.val x).dg=true)(hv:(σ.val s).dv=qv b off m cap)(hm:xs.length=m)(hx:(σ.val x).dv.elems σ.own=some (Zo1 ys))(hown:σ.own n=qO e sz xs b off cap)(hys:∀y∈ys,y.length=sz)(h63:m+ys.length<=maxLen)(hbytes:(m+ys.length)*bytes<=140737488355328)(hK:∀b' off' cap',K (St.put ⟨σ.env,upd σ.own n (qO e sz (xs++ys) b' off' cap')⟩ d (qv b' off' (m+ys.length) cap'))):Zcn P d (.app e sz bytes s x) K σ:=by
 subst hm;intro C loc a w o hP hc hd hdl hg;subst hP;have hci:=Zcd hc;generalize ho:o.op=op at hci;cases hci with
 |app ht hi hz hzs hpos hcs hcx=>
  rename_i t s0 x0 i z;have rs:=ZaJ hg hcs h1;have rx:=ZaJ hg hcx h2;rw[hv]at rs;simp only[qv,RepA,RepC]at rs;obtain⟨szx,hrx⟩:=hg.elems rx hx;simp only[RepC]at hrx;obtain⟨A,capx,hxv,_,_,hxe⟩:=hrx;have hob:=hg.objs n;rw[hown]at hob;obtain⟨_,L,hL,hq,_⟩:=hob;have hLb:=hq.2.1;have hA:ys=[]\/∃ad,A=some ad/\∀j u,(ZbO ys)[j]? =some u->w.cell? (ad.add j)=some u:=by
   rcases hxe with h|⟨ad,rfl,hE⟩
   ·left;simpa [Zo1]using h
   ·obtain⟨news,k1,k2,k3,k4⟩:=hE.vals (loc:=fun _=>undef);rw[Zi6]at k3;subst k3;exact .inr ⟨ad,rfl,k2⟩
  have hlen:(Zo1 ys).length=ys.length:=by simp[Zo1]
  obtain⟨b',off',cap',w',hr,hq',e1,e2,e3,e4,e5,e6,e7⟩:=ZuA (P:=C.P) (A:=A) (c:=capx) (Mx:=fun _ _=>True) t o.type e i z ht hi hz hzs hq hlen hys hA (by rw[hlen];exact h63) (by rw[hlen];exact hbytes);subst hLb;have hg1:=hg.turnGuest (g:=qG e i.size xs b off cap) (g':=qG e i.size (xs ++ ys) b' off' cap') (rem':=[]) (L':=[b']) hown hL e1 e2 e3 e4 (fun k hk hkL =>e5 k hk (by simpa using hkL)) (fun D hD =>e5 D (YK.1 hD).1 (fun h =>by
    subst h;obtain⟨_,_,cur,hb,_⟩:=hq;rw[hb]at hD;cases hD)) (fun k hk=>by simp only[Yk]at hk|-;subst hk;exact⟨e6,e7⟩) (Zzk _ _ _ _ _ _ _) hq'
  refine⟨_,⟨w',upd loc n (Zc6 [b']),.inl ⟨.slice (some ⟨b',off',none⟩) (xs.length+ys.length) cap',?_,?_⟩⟩,hK b' off' cap'⟩
  ·rw[hlen]at hxv hr;simp[execOp,ho,resolve,invoke,builtin,rs.1,hxv,hr]
  ·rw[hd]at hdl|-;exact hg1.put hdl (by simp only[qv,RepA,RepC];exact⟨trivial,rfl⟩)
end
section
variable{C:Ctx}{σ:St}{K:St->Prop}{is:List Ins}{Q:Exit->St->Prop}
def I.plainB:I->Bool
 |.appv _ _ _ _ _=>false
 |.bslv _ _ _=>false
 |.ldd _ _ _=>false
 |.calln _ _=>false
 |_=>true
def Zef{d:Option Nat}{i:I}{s:Bool}(hp:i.plainB=true)(h:Zcn C.P d i (ZkC C is K) σ):ZkC C (⟨d,i,none,s⟩::is) K σ:=by refine Zos fun ops o hins Q' K' hK' a w hg=>?_;obtain⟨s1,ii,hc,hvw⟩:=hins;simp only at hc hvw;(have hii:ii=i:=by rcases hvw with h|⟨_,_,_,_,_,_,h⟩|⟨_,_,_,_,h⟩|⟨_,_,_,_,h⟩|⟨_,_,_,h⟩;{exact h.symm};all_goals(rw[h]at hp;cases hp));subst hii;obtain⟨loc,hg⟩:=hg;unfold cOp at hc;split at hc;(case h_2=>cases hc);rename_i ins g hi hgd;split at hc;(case isFalse=>cases hc);rename_i hd;simp only[Ya,Ins.mk.injEq]at hc;obtain⟨rfl,rfl,rfl,_⟩:=hc;(have hog:o.guard=none:=by unfold ZhY at hgd;split at hgd;{rename_i h;exact h};{split at hgd<;>simp at hgd});rw[Yt (by simp[Region.wanted,hog])];exact Zbz hg hi hd h fun σ' a' w' hg' hk=>hK' σ' a' w' hg' hk
end
section
variable{P:Program}{σ:St}{K:St->Prop}
def Zpq{d e sz:Nat}{parts:List X}{xs:List (List Int)}(hes:(parts.mapM fun x=>(σ.val x).dv.cds σ.own)=some (Zo1 xs))(hn:(σ.own d).isNone=true)(hdg:(parts.all fun x=>(σ.val x).dg)=true)(hel:∀x∈xs,x.length=sz)(hK:∀b,K ⟨upd (ZdI d σ.env) d (qv b 0 xs.length xs.length),upd (ZbE d σ.own) d (qO e sz xs b 0 xs.length)⟩):Zcn P (some d) (.bsl e sz parts) K σ:=by(intro C loc a w o hP hc hd hdl hg;subst hP;have hci:=Zcd hc;generalize ho:o.op=op at hci;cases hci with|bsl ht hs hz hpr hpos hlim hzl hxs=>rename_i t n ps z;(have hel':((Zo1 xs).all fun e=>e.length==sz)=true:=by unfold Zo1;rw[Yn];intro y hy;obtain⟨x,hx,rfl⟩:=Ys.1 hy;simpa using hel x hx);obtain⟨arr',hrun,Zyl,hlen,hrs⟩:=ZrH hg ho ht hs hz hpr hpos hlim hzl hxs hes hdg hel';rw[Zi6]at hrs;(have hlx:xs.length=n:=by simpa [Zo1]using hlen);subst hlx;rw[hd]at hdl;(have hdN:d<C.N:=by simpa using hdl);refine⟨_,⟨w.alloc (.cells arr' e),upd loc d (Zc6 [w.heap.size]),.inl ⟨.slice (some ⟨w.heap.size,0,none⟩) xs.length xs.length,hrun,?_⟩⟩,hK w.heap.size⟩;rw[hd];refine hg.newblock (ob:=qO e sz xs w.heap.size 0 xs.length) hdN hn (fun b hb=>?_) (fun M loc' hk hl' hv=>?_) (fun M loc' hv=>?_);{simp only[qO,Ob.has,Zan,Yk]at hb;exact hb};{refine⟨Zzk _ _ _ _ _ _ _,[w.heap.size],rfl,⟨rfl,rfl,arr',by rw[Zbv],Kc,hel,Yi _,?_,?_⟩,fun b hb=>?_⟩;{simp only[maxLen];have:xs.length<=xs.length*sz:=Ycf _ hpos;omega};{rw[Yat,hrs,YG (by rw[Zzl hel];exact Yi _)]};{simp only[Yk]at hb;subst hb;exact⟨Kd,.inl hg.fr.size⟩}};{simp only[qv,RepA,RepC];exact⟨trivial,rfl⟩})
end
end Go.V
namespace Go.V
def Zzw{P:Program}(w:World){t e:TypeId}{k:IntKind}{a b c d a' b' c' d':Int}(ht:P.underlying t=some (.array 4 e))(he:P.underlying e=some (.int k))(hs:sizeB P e=some 1)(ha:isAggB P e=some false):
  (Op.equal t (.agg #[.int .i64 a,.int .i64 b,.int .i64 c,.int .i64 d]) (.agg #[.int .i64 a',.int .i64 b',.int .i64 c',.int .i64 d'])).run P w= .ok (a==a'&&(b==b'&&(c==c'&&d==d'))) w:=by(have hie:∃ie,P.info? e=some ie/\ie.size=1:=by unfold sizeB at hs;simpa using hs);obtain⟨ie,hie,hsz⟩:=hie;(have hsr:(sizeOf e).run P w= .ok 1 w:=by simp[sizeOf,typeInfo,hie,hsz]);have hpart:∀(cs:Array Value)(i:Nat)(v:Value),cs[i]? =some v->(part e cs i).run P w= .ok v w:=fun cs i v h=>Zcw (w:=w) ha h;(have hint:∀(n:Nat)(x y:Int),(Op.equalIn (n+1) e (.int .i64 x) (.int .i64 y)).run P w= .ok (x==y) w:=fun n x y=>by simp[Op.equalIn,run_underlying he]);(have hgen:∀n:Nat,(Op.equalIn (n+1+1) t (.agg #[.int .i64 a,.int .i64 b,.int .i64 c,.int .i64 d]) (.agg #[.int .i64 a',.int .i64 b',.int .i64 c',.int .i64 d'])).run P w= .ok (a==a'&&(b==b'&&(c==c'&&d==d'))) w:=by intro n;rw[Op.equalIn];simp only[Sem.run_bind,run_underlying ht,Result.andThen_ok,hsr];simp only[Std.Legacy.Range.forIn_eq_forIn_range',Std.Legacy.Range.size];by_cases h1:a=a'<;>by_cases h2:b=b'<;>by_cases h3:c=c'<;>by_cases h4:d=d'<;>simp[List.range',hpart,hint,h1,h2,h3,h4]);exact hgen 9998
section
variable{P:Program}{σ:St}{K:St->Prop}
def Zzn{d:Option Nat}{t t' e:TypeId}{k:IntKind}{x y:Operand}{x' y':X}{a b c f a' b' c' f':Int}(ht:P.underlying t=some (.array 4 e))(he:P.underlying e=some (.int k))(hs:sizeB P e=some 1)(ha:isAggB P e=some false)(hgt:P.eqGuardType P.depth t=false)(hx:cX x=some x')(hy:cX y=some y')(h1:(σ.val x').dg=true)(h2:(σ.val y').dg=true)(hv:(σ.val x').dv=kav true [a,b,c,f])(hw:(σ.val y').dv=kav true [a',b',c',f'])(hK:K (σ.put d (.c (.bool (a==a'&&(b==b'&&(c==c'&&f==f'))))))):Zcn P d (.raw (.binOp .eql t x y t')) K σ:=by refine Zbs (fun C loc ac w o hP ho hg=>?_) hK;subst hP;have rx:=ZaJ hg hx h1;have ry:=ZaJ hg hy h2;rw[hv,ZbA]at rx;rw[hw,ZbA]at ry;refine⟨.bool (a==a'&&(b==b'&&(c==c'&&f==f'))),?_,by simp only[RepA,RepC]⟩;have hr:=Zzw (a:=a) (b:=b) (c:=c) (d:=f) (a':=a') (b':=b') (c':=c') (d':=f') w ht he hs ha;simp only[ZaH,YJ,Ye,Yg]at rx ry;simp[execOp,ho,rx,ry,run_eqGuard_agg w _ _ _ _ _ _ hgt,binOp,hr]
def Zez{d:Option Nat}{t k e:TypeId}{x i:Operand}{x' i':X}{n b:Nat}{ka va:Bool}{l:GL}{key zs:List Int}{Kp:Value->Prop}(ht:P.underlying t=some (.map k e))(hkl:KLaw P k Kp)(hz:(P.info? e).bind (·.zero)=some (ZaH va zs))(hx:cX x=some x')(hi:cX i=some i')(h1:(σ.val x').dg=true)(h2:(σ.val i').dg=true)(hv:(σ.val x').dv= .c (.raw (.map (some b))))(hj:(σ.val i').dv=kav ka key)(hown:σ.own n=gmap ka va l b)(hkey:Kp (ZaH ka key))(hkeys:∀p∈l,Kp (ZaH ka p.1))(hinj:∀p∈l,ZaH ka p.1=ZaH ka key->p.1=key)(hK:K (σ.put d (kav va ((Za0 l key).getD zs)))):Zcn P d (.raw (.lookup t x i false)) K σ:=by refine Zbs (fun C loc a w o hP ho hg=>?_) hK;subst hP;have rx:=ZaJ hg hx h1;have ri:=ZaJ hg hi h2;rw[hv]at rx;rw[hj,ZbA]at ri;simp only[RepA,RepC]at rx;have hob:=hg.objs n;rw[hown]at hob;obtain⟨_,L,hl,⟨_,rfl,es,clock,hb,hst,hes⟩,hA⟩:=hob;(have hks:∀e∈es.toList,Kp e.key:=fun e he=>by have hm:(e.key,e.val)∈es.toList.map (fun e=>(e.key,e.val)):=Ys.2 ⟨e,he,rfl⟩;rw[hes]at hm;obtain⟨p,hp,h3⟩:=Ys.1 hm;simp only[Yj]at h3;rw[<-h3.1];exact hkeys p hp);refine⟨ZaH va ((Za0 l key).getD zs),?_,ZbA.2 rfl⟩;rcases hkl.find w hkey es.toList hks with⟨f1,f2⟩|⟨j,e0,f1,f2,f3⟩;{rw[ZdB hes f2];simp[execOp,ho,rx.1,ri,Instr.lookup,run_underlying ht,MapKept.run_getObj_map hb,hkl.check w _ hkey,f1,ZeT hz]};{obtain⟨v,g1,g2,g3⟩:=ZdC hes hst.2.2 hinj f2 f3;rw[g2];simp[execOp,ho,rx.1,ri,Instr.lookup,run_underlying ht,MapKept.run_getObj_map hb,hkl.check w _ hkey,f1,g3]}
def ZGi(P:Program)(f:FuncId)(av:AV)(fv:Value)(rem:List Ent)(L:List Nat)(M:Nat->Nat->Prop)(w:World):Prop:=
 L=[]/\fv.oneCell'=true/\(∃wv,fv= .func (.func f) #[wv] #[]/\RepA w M ZCq av wv)/\∀e∈rem,AV.pureL e.args=true/\e.res.scal=true/\FSpec P f (av::e.args) e.res
def gB(P:Program)(f:FuncId)(av:AV)(fv:Value):Gst:=⟨fv,ZGi P f av fv⟩
def ZDK(f:FuncId)(av:AV)(fv:Value)(h1:fv.oneCell'=true):(gB P f av fv).Ok P:=by refine⟨h1,?_,?_⟩;{rintro rem L M w M' w' ⟨k1,k2,⟨wv,k3,k4⟩,k5⟩ hk hb hs;exact⟨k1,k2,⟨wv,k3,RepA.keep hk _ _ k4⟩,k5⟩};{rintro args wins r rem L M w loc vs ⟨k1,k2,⟨wv,k3,k4⟩,k5⟩ hM hL hr hl hw hd;obtain⟨j1,j2,j3,j4⟩:=k5 ⟨args,wins,r⟩ Kd;simp only at j1 j2 j4;subst k1;refine⟨j2,.inl ⟨f,#[wv],#[],k3,j3,?_⟩⟩;have h5:=j4 w M (wv::vs) hM (by simp only[RepAs];exact⟨wv,vs,rfl,k4,pures_loc j1 hr⟩);(have e1:#[wv]++vs.toArray++ #[]=(wv::vs).toArray:=by apply YaS;simp);(show Calls P f (#[wv]++vs.toArray++ #[]) w _;rw[e1];refine h5.mono fun e w' ⟨v,e2,e3,e4⟩=>⟨v,[],e2,scal_rep j2 e3,⟨e4.os,e4.tape,e4.output,e4.size,fun k hk _=>e4.block k hk⟩,(fun b hb=>by cases hb),⟨rfl,k2,⟨wv,k3,?_⟩,fun e he=>k5 e (Ya6 _ he)⟩⟩);(have hsub:∀b o,(M b o/\b∉([]:List Nat))\/b∈([]:List Nat)->M b o:=fun b o h=>by rcases h with h|h;{exact h.1};{cases h});exact RepA.keep (⟨fun p hp _=>World.cell?_of_block (e4.block _ (Zbx hp)),fun p hp hm hm'=>hm (hsub _ _ hm')⟩:Keeps w w' M _) _ _ k4}
def ZmM{d:Nat}{f:FuncId}{x:Operand}{x':X}{av:AV}(rem:List Ent)(hx:cX x=some x')(h1:(σ.val x').dg=true)(hv:(σ.val x').dv=av)(hp:av.pureB=true)(hn:(σ.own d).isNone=true)(hrem:∀e∈rem,AV.pureL e.args=true/\e.res.scal=true/\FSpec P f (av::e.args) e.res)(hK:∀g:Gst,K ⟨upd (ZdI d σ.env) d (.c (.raw g.fv)),upd (ZbE d σ.own) d (.guest g rem)⟩):Zcn P (some d) (.raw (.makeFunc (.func f) #[x] #[])) K σ:=by
 refine Zb1 fun C loc a w o hP ho hod hdl hg=>?_
 subst hP;have hd:d<C.N:=by simpa using hdl
 have rx:=ZaJ hg hx h1;rw[hv]at rx;have hnone:σ.own d= .none:=by cases h:σ.own d<;>simp_all [Ob.isNone]
 have hpd:¬C.pin d:=fun h=>by have:=(hg.pin d h).1.1;omega
 have h2:=hg.forget hnone hpd;have hk0:=Keeps.less (w:=w) (M:=MM C σ.own loc) (M':=MM C (ZbE d σ.own) (upd loc d undef)) (fun b o h =>by
  rcases h with h|⟨m,h⟩
  ·exact .inl h
  ·simp only[ZbE,Ob.mut_prg]at h;by_cases hm:m=d
   ·subst hm;rw[hnone]at h;exact(Ob.has_none _ _ (Ob.has_of_mut h)).elim
   ·exact .inr ⟨m,by simpa [upd,hm]using h⟩)
 have rx2:=RepA.keep hk0 _ _ rx;obtain⟨fv,hfv⟩:∃fv,fv=Value.func (.func f) #[a.eval x] #[]:=⟨_,rfl⟩;have hone:fv.oneCell'=true:=by rw[hfv];rfl
 have hl:∀m,(upd loc d undef m).oneCell'=true->upd loc d (Zc6 []) m=upd loc d undef m:=by
  intro m hm;by_cases e:m=d
  ·subst e;simp[upd]at hm;cases hm
  ·simp[upd,e]
 have hfo:∀m b,(upd (ZbE d σ.own) d (.guest (gB C.P f av fv) rem) m).has (upd loc d (Zc6 []) m) b->(ZbE d σ.own m).has (upd loc d undef m) b:=by
  intro m b h;by_cases e':m=d
  ·subst e';simp only[upd,YJ,Ob.has,Zan]at h;cases h
  ·simp only[upd,e',YA]at h|-;exact h
 have h3:G C ⟨ZdI d σ.env,upd (ZbE d σ.own) d (.guest (gB C.P f av fv) rem)⟩ (upd loc d (Zc6 [])) a w:=by
  refine h2.reown (fun n hn'=>?_) (fun t=>RepA.reloc hl (h2.slots t)) (fun b o hm=>?_) (fun b ⟨n,h⟩=>⟨n,hfo n b h⟩) (fun n=>?_) (fun n m b hnm k1 k2=>h2.disj n m b hnm (hfo n b k1) (hfo m b k2))
  ·have:n≠d:=fun e=>hpd (e▸hn')
   simp[upd,this]
  ·obtain⟨n,h⟩:=hm;by_cases e':n=d
   ·subst e';simp only[upd,YJ,Ob.mut,Zan]at h;cases h
   ·exact⟨n,by simp only[upd,e',YA]at h|-;exact h⟩
  ·by_cases e':n=d
   ·subst e';simp only[upd,YJ];exact⟨ZDK _ _ _ hone,[],rfl,⟨rfl,hone,⟨_,hfv,pure_loc hp rx2⟩,hrem⟩,fun b hb=>by cases hb⟩
   ·have:=h2.objs n;simp only[upd,e',YA]at this|-;exact ObOk.reloc (loc:=upd loc d undef) hl this
 refine⟨_,⟨w,upd loc d (Zc6 []),.inl ⟨fv,?_,?_⟩⟩,hK (gB C.P f av fv)⟩
 ·simp[execOp,ho,Instr.makeFunc,hfv]
 ·rw[hod];exact h3.put (d:=some d) hdl (by simp only[gB,RepA,RepC];first|exact⟨trivial,hone⟩|exact⟨hone,trivial⟩)
def ZbS{d:Option Nat}{t e:TypeId}{n:Nat}{x i:Operand}{x' i':X}{k:IntKind}{j:Int}{cs:List AV}{v:AV}(hu:P.underlying t=some (.array n e))(ha:isAggB P e=some false)(hs:sizeB P e=some 1)(hx:cX x=some x')(hi:cX i=some i')(h1:(σ.val x').dg=true)(h2:(σ.val i').dg=true)(hv:(σ.val x').dv= .agg cs)(hj:(σ.val i').dv= .c (.int k j))(hr:0<=j/\j<n)(hc:cs[j.toNat]? =some v)(hK:K (σ.put d v)):Zcn P d (.raw (.index t x i)) K σ:=by refine Zbs (fun C loc a w o hP ho hg=>?_) hK;subst hP;have rx:=ZaJ hg hx h1;have ri:=ZaJ hg hi h2;rw[hv]at rx;rw[hj]at ri;simp only[RepA,RepC]at rx ri;obtain⟨l,ex,hrs⟩:=rx;(have hie:∃ie,C.P.info? e=some ie/\ie.size=1:=by unfold sizeB at hs;simpa using hs);obtain⟨ie,hie,hsz⟩:=hie;(have hsr:(sizeOf e).run C.P w= .ok 1 w:=by simp[sizeOf,typeInfo,hie,hsz]);obtain⟨u,hu2,hru⟩:=hrs.get _ hc;refine⟨u,?_,hru⟩;simp[execOp,ho,ex,ri,Instr.index,run_underlying hu,asIntOf,hr.1,hr.2,hsr,Zcw (w:=w) ha (cs:=l.toArray) (off:=j.toNat) (by simpa using hu2)]
end
attribute [go_sem] gmap qO qv qp
end Go.V
namespace Go.V
def Zf8(ka va:Bool)(es:Array MapEntry)(seen:Array Nat)(rest:GL):Prop:=(leftOf es seen).toList.map (fun e=>(e.key,e.val))=ZbG ka va rest
def Zc1(es:Array MapEntry)(seen:Array Nat):(leftOf es seen).toList=es.toList.filter fun x=> !seen.contains x.born:=by unfold leftOf;exact Array.toList_filter
def ZqM{ka va:Bool}{es:Array MapEntry}{l:GL}(h:es.toList.map (fun e=>(e.key,e.val))=ZbG ka va l):Zf8 ka va es #[] l:=by unfold Zf8;rw[Zc1,Yb1.2 fun x _=>by simp,h]
def Zsf{e:MapEntry}:∀{A B:List MapEntry},((A++e::B).map (·.born)).Nodup->(A++e::B).filter (fun x=> !(x.born==e.born))=A++B:=by intro A B h;rw[Yy,Ye,YbP]at h;obtain⟨_,h2,h3⟩:=h;rw[YbN]at h2;rw[YcL,Ycw];simp only[YN,Ybq,Yp,YA];rw[Yb1.2 fun x hx=>?_,Yb1.2 fun x hx=>?_];{simp only[YaB,Yb3];exact fun hb=>h2.1 (hb▸Yb2 hx)};{simp only[YaB,Yb3];exact h3 _ (Yb2 hx) _ Kd}
def ZtF{ka va:Bool}{es:Array MapEntry}{clock:Nat}{seen:Array Nat}{rest:GL}(hst:MapKept.Stamped es clock)(h:Zf8 ka va es seen rest){e:MapEntry}(he:e∈(leftOf es seen).toList):
  ∃pre k v post,rest=pre++(k,v)::post/\e.key=ZaH ka k/\e.val=ZaH va v/\Zf8 ka va es (seen.push e.born) (pre++post):=by unfold Zf8 at h;obtain⟨A,B,hAB⟩:=List.append_of_mem he;(have hpush:(leftOf es (seen.push e.born)).toList=(leftOf es seen).toList.filter fun x=> !(x.born==e.born):=by rw[Zc1,Zc1,List.filter_filter];refine List.filter_congr fun x _=>?_;rw[Array.contains_push];cases seen.contains x.born<;>cases(x.born==e.born)<;>rfl);(have hnd:((A++e::B).map (·.born)).Nodup:=by rw[<-hAB,Zc1];exact(hst.2.1).sublist (List.Sublist.map _ List.filter_sublist));rw[hAB,Yy,Ye]at h;unfold ZbG at h;obtain⟨pre,r2,rfl,h1,h2⟩:=List.map_eq_append_iff.1 h.symm;obtain⟨p,post,rfl,h3,h4⟩:=List.map_eq_cons_iff.1 h2;simp only[Yj]at h3;refine⟨pre,p.1,p.2,post,rfl,h3.1.symm,h3.2.symm,?_⟩;unfold Zf8 ZbG;rw[hpush,hAB,Zsf hnd,Yy,Yy,h1,h4]
def Ziy{ag:Bool}{a b:List Int}(h:ZaH ag a=ZaH ag b):kav ag a=kav ag b:=by cases ag;{simp only[ZaH,Yp,YA,Value.int.injEq,YcO]at h;simp only[kav,Yp,YA,h]};{rw[ZcG h]}
section
variable{P:Program}{σ:St}{K:St->Prop}
def Ztz{d:Option Nat}{x:Operand}{x':X}{n m b r since last clock:Nat}{seen:Array Nat}{es:Array MapEntry}{ka va:Bool}{l rest:GL}(hx:cX x=some x')(h1:(σ.val x').dg=true)(hv:(σ.val x').dv= .c (.raw (.pointer (some ⟨r,0,none⟩))))(hown:σ.own n=mapE es clock b)(hit:σ.own m=iterE r b since seen last)(hst:MapKept.Stamped es clock)(Zqn:since=clock)(hsl:last=clock)(hes:es.toList.map (fun e=>(e.key,e.val))=ZbG ka va l)(hrest:Zf8 ka va es seen rest)(hK0:rest=[]->K (σ.put d (.tup [.c (.bool false)])))(hK1:∀e pre k v post,rest=pre++(k,v)::post->e∈es.toList->e.key=ZaH ka k->e.val=ZaH va v->Zf8 ka va es (seen.push e.born) (pre++post)->K (St.put ⟨σ.env,upd σ.own m (iterE r b since (seen.push e.born) clock)⟩ d (.tup [.c (.bool true),kav ka k,kav va v]))):Zcn P d (.raw (.next x false)) K σ:=by refine Zty (l:=l) hx h1 hv hown hit (by rw[Zqn];exact hst.1) Kc hes (fun h0=>hK0 ?_) fun e k v he _ h2 h3=>?_;{have:=congrArg List.length hrest;rw[Yc,Ya9,h0]at this;unfold ZbG at this;rw[Yc]at this;exact YE this.symm};{obtain⟨pre,k',v',post,e1,e2,e3,e4⟩:=ZtF hst hrest he;have:=hK1 e pre k' v' post e1 (by rw[Zc1]at he;exact(Ybj.1 he).1) e2 e3 e4;(have ek:kav ka k'=kav ka k:=by(have h5:ZaH ka k'=ZaH ka k:=by rw[<-e2,h2]);exact Ziy h5);(have ev:kav va v'=kav va v:=by(have h5:ZaH va v'=ZaH va v:=by rw[<-e3,h3]);exact Ziy h5);rwa [ek,ev]at this}
end
def gE:Gst:=⟨.bool false,fun rem L _ _=>rem=[]/\L=[]⟩
def empO:Ob:=.guest gE []
def ZDL(P:Program):gE.Ok P:=by refine⟨rfl,?_,?_⟩;{rintro rem L M w M' w' h hk hb hs;exact h};{rintro args wins r rem L M w loc vs ⟨h1,_⟩;cases h1}
section
variable{C:Ctx}{σ:St}
def ZlD{f:Nat}(hn:σ.own f= .none)(hp:¬C.pin f):∀a w,Gam C σ a w->Gam C ⟨ZdI f σ.env,upd (ZbE f σ.own) f empO⟩ a w:=by rintro a w ⟨loc,hg⟩;have h1:=hg.forget hn hp;(have hl:∀m,(upd loc f undef m).oneCell'=true->upd loc f (Zc6 []) m=upd loc f undef m:=by intro m hm;by_cases e:m=f;{subst e;simp[upd]at hm;cases hm};{simp[upd,e]});(have hfo:∀m b,(upd (ZbE f σ.own) f empO m).has (upd loc f (Zc6 []) m) b->(ZbE f σ.own m).has (upd loc f undef m) b:=by intro m b h;by_cases e':m=f;{subst e';simp only[upd,YJ,empO,Ob.has,Zan]at h;cases h};{simp only[upd,e',YA]at h|-;exact h});refine⟨upd loc f (Zc6 []),h1.reown (fun n hn'=>?_) (fun t=>RepA.reloc hl (h1.slots t)) (fun b o hm=>?_) (fun b ⟨n,h⟩=>⟨n,hfo n b h⟩) (fun n=>?_) (fun n m b hnm k1 k2=>h1.disj n m b hnm (hfo n b k1) (hfo m b k2))⟩;{have:n≠f:=fun e=>hp (e▸hn');simp[upd,this]};{obtain⟨n,h⟩:=hm;by_cases e':n=f;{subst e';simp only[upd,YJ,empO,Ob.mut,Zan]at h;cases h};{exact⟨n,by simp only[upd,e',YA]at h|-;exact h⟩}};{by_cases e':n=f;{subst e';simp only[upd,YJ];exact⟨ZDL _,[],rfl,⟨rfl,rfl⟩,fun b hb=>by cases hb⟩};{have:=h1.objs n;simp only[upd,e',YA]at this|-;exact ObOk.reloc (loc:=upd loc f undef) hl this}}
def Zhk{v:VC}{Q:Exit->St->Prop}(f:Nat)(hf:f<1000)(hn:σ.own f= .none)(h:WV C v Q ⟨ZdI f σ.env,upd (ZbE f σ.own) f empO⟩):WV C v Q σ:=
 Zgr (fun a w hg=>ZlD hn (fun hp=>by obtain⟨_,hg'⟩:=hg;have:=(hg'.pin f hp).1;omega) a w hg) h
end
attribute [go_sem] empO mapE iterE
end Go.V
namespace Go.V
open Go.RowKit
def ZhJ{P:Program}{f:FuncId}{args:List AV}{l:List Ob}{Post:AV->Prop}(hf:ZbF P f)(hl:l.length<=1000)(h:∀(w:World)(M:Cells)(loc:Nat ->Value)(vs:List Value),LentOk P w M loc (ZaX l []) ->RepAs w (AddM M (ZaX l []) loc) loc args vs ->
   Calls P f vs.toArray w fun e w'=>∃v r,e= .returned v/\Post r/\Below w.heap.size w w'/\∀M':Cells,(∀b o,M' b o->b<w.heap.size)->RepA w' M' loc r v):
  Zc9 P f args l [] (fun r l'=>Post r/\l'=l):=by
 refine⟨hf,hl,fun w M loc vs hM hLO hrep=>(h w M loc vs hLO hrep).mono ?_⟩;rintro e w' ⟨v,r,rfl,hp,hb,hr⟩;have hlt:∀b o,AddM M (ZaX l []) loc b o->b<w.heap.size:=by
  rintro b o (h|⟨n,h⟩)
  ·exact(hM b o h).1
  ·exact(hLO.objs n).lt (Ob.has_of_mut h)
 have hk:Keeps w w' (AddM M (ZaX l []) loc) (AddM M (ZaX l []) loc):=⟨fun p hp _=>World.cell?_of_block (hb.block _ (Zbx hp)),fun p hp h=>h⟩;exact⟨v,r,l,loc,rfl,⟨hp,rfl⟩,rfl,⟨hb.os,hb.tape,hb.output,hb.size,fun k hk _=>hb.block k hk⟩,hk,⟨fun n=>ObOk.keep' hk hb.size (fun b hb'=>hb.block b ((hLO.objs n).lt hb')) (hLO.objs n),hLO.disj⟩,fun n b h=> .inl ⟨n,h⟩,fun n h=>⟨h,rfl⟩,hr _ hlt⟩
end Go.V
namespace Go.V
def hdV(b n cap:Nat):Value:=if cap=0 then .slice none 0 0 else .slice (some ⟨b,0,none⟩) n cap
def Zyo(b n cap:Nat):(hdV b n cap).oneCell'=true:=by unfold hdV;split<;>rfl
def BlkOk(w:World)(e sz:Nat)(b cap:Nat)(vs:List Value)(n:Nat):Prop:=
 ∃cur:Array Value,w.heap[b]? =some (.cells cur e (0,0))/\cap*sz<=cur.size/\vs.length=n*sz/\n<=cap/\cap<=maxLen/\cur.toList.take (n*sz)=vs
def BlkOk.trans{w w':World}{e sz b cap n:Nat}{vs:List Value}(h:BlkOk w e sz b cap vs n)(hb:w'.heap[b]? =w.heap[b]?):BlkOk w' e sz b cap vs n:=by obtain⟨cur,h1,h2⟩:=h;exact⟨cur,by rw[hb];exact h1,h2⟩
def BlkOk.cell{w:World}{e sz b cap n:Nat}{vs:List Value}(h:BlkOk w e sz b cap vs n){j:Nat}{u:Value}(hj:vs[j]? =some u):w.cell? ⟨b,j,none⟩=some u:=by obtain⟨cur,h1,h2,h3,h4,h5,h6⟩:=h;rw[cell_of_row w b _ cur e (0,0) h1];rw[<-h6,Y6]at hj;split at hj;{rw[<-Yay];exact hj};{cases hj}
def Zp0{P:Program}{w:World}(t ty e:TypeId)(i:TypeInfo)(z:Value)(ht:P.underlying t=some (.slice e))(hi:P.info? e=some i)(hz:i.zero=some z)(hzs:z.cells.size=i.size){b n cap m c:Nat}{olds news:List Value}{ad:Addr}(Zqn:cap=0/\n=0/\olds=[]\/0<cap/\BlkOk w e i.size b cap olds n)(hl:news.length=m*i.size)(hnews:∀j u,news[j]? =some u->w.cell? (ad.add j)=some u)(h1:∀u∈news,u.oneCell'=true)(hm:0<m)(h63:n+m<=maxLen)(hbytes:(n+m)*i.bytes<=140737488355328):
  ∃b' cap' w',(Builtin.append_ #[t,t] ty #[hdV b n cap,.slice (some ad) m c]).run P w= .ok (hdV b' (n+m) cap') w'/\0<cap'/\BlkOk w' e i.size b' cap' (olds++news) (n+m)/\
   w'.os=w.os/\w'.tape=w.tape/\w'.output=w.output/\w.heap.size<=w'.heap.size/\(∀k,k<w.heap.size->k≠b->w'.heap[k]? =w.heap[k]?)/\b'<w'.heap.size/\(b'=b/\0<cap\/w.heap.size<=b'/\∀k,k<w.heap.size->w'.heap[k]? =w.heap[k]?):=by(have h63':n+m<=9223372036854775807:=by simp only[maxLen]at h63;omega);rcases Zqn with⟨rfl,rfl,rfl⟩|⟨hpos,cur,hb,hcs,hol,hle,hcm,hcur⟩;{simp only[YaH]at h63 h63' hbytes|-;have hr:=run_append_nil (P:=P) (w:=w) t ty e i z ht hi hz ad m c news hl hnews hm Kc Kc;have hge:=grownCap_ge w m 0 e;have hcm2:grownCap w m 0 e<=maxLen:=grownCap_le_maxLen w _ 0 e h63;refine⟨_,grownCap w m 0 e,_,by rw[hdV,Yt rfl,hr,hdV,Yx Kc];rfl,Kc,⟨_,heap_alloc_new w.drew _,?_,by simpa using hl,hge,hcm2,?_⟩,rfl,rfl,rfl,Kd,fun k hk _=>Zbw w.drew _ k hk,Kd,.inr ⟨Yi _,fun k hk=>Zbw w.drew _ k hk⟩⟩;{simp only[Ycm,YaV,size_zeroCells,hzs,hl,<-YX];exact Y2 _ Kc};{simp only[Yb0,YM];rw[YaD (by rw[hl];exact Yi _),YG (by rw[hl];exact Yi _)]}};{have hbl:b<w.heap.size:=(YK.1 hb).1;have hx2:cur.toList.length=cur.size:=Ya9;(have hd:hdV b n cap= .slice (some ⟨b,0,none⟩) n cap:=by rw[hdV,Yx Kc]);by_cases hroom:n+m<=cap;{(have hsum:n*i.size+m*i.size<=cap*i.size:=by rw[<-YX];exact Y2 _ hroom);have hr:=Zgb (P:=P) w t ty e i ht hi b 0 n cap cur hb ad m c news hl hnews h1 hroom (by rw[hl];omega);simp only[YaH]at hr;refine⟨b,cap,_,by rw[hd,hr,hdV,Yx Kc],hpos,⟨_,setRow_heap w b cur _ e _ hb,?_,by rw[Yw,hol,hl,YX],hroom,hcm,?_⟩,rfl,rfl,rfl,Kd,fun k _ hk=>setRow_other w b k _ hk,by simpa using hbl,.inl ⟨rfl,hpos⟩⟩;{simp only[YaV,Yw,Y4,Yac,Ya9,hl];omega};{rw[hcur,YaD (by rw[Yw,hol,hl,YX];exact Yi _),YG (by rw[Yw,hol,hl,YX];exact Yi _)]}};{(have holds:∀j u,olds[j]? =some u->w.cell? ((⟨b,0,none⟩:Addr).add j)=some u:=fun j u hj=>by rw[ZfG,YaH];exact BlkOk.cell ⟨cur,hb,hcs,hol,hle,hcm,hcur⟩ hj);have hr:=run_append_grow (P:=P) w t ty e i z ht hi hz ⟨b,0,none⟩ n cap olds hol holds ad m c news hl hnews Kc Kc (growslice_fits Kc hbytes);have hge:=grownCap_ge w (n+m) cap e;have hcm2:grownCap w (n+m) cap e<=maxLen:=grownCap_le_maxLen w _ cap e h63;refine⟨_,grownCap w (n+m) cap e,_,by rw[hd,hr,hdV,Yx Kc];rfl,Kc,⟨_,heap_alloc_new w.drew _,?_,by rw[Yw,hol,hl,YX],hge,hcm2,?_⟩,rfl,rfl,rfl,Kd,fun k hk _=>Zbw w.drew _ k hk,Kd,.inr ⟨Yi _,fun k hk=>Zbw w.drew _ k hk⟩⟩;{simp only[Ycm,YaV,size_zeroCells,hzs,hol,hl,<-YX];exact Y2 _ Kc};{simp only[Yb0,YO];rw[<-YO,YaD (by rw[Yw,hol,hl,YX];exact Yi _),YG (by rw[Yw,hol,hl,YX];exact Yi _)]}}}
structure CRow where
 b:Nat
 cap:Nat
 xs:List (List Int)
def CRow.hd(r:CRow):Value:=hdV r.b r.xs.length r.cap
def CRow.nil:CRow:=⟨0,0,[]⟩
def CRow.cd(r:CRow):List CD:=[.raw r.hd]
def CRow.Ok(w:World)(e sz:Nat)(L:List Nat)(r:CRow):Prop:=
 (∀x∈r.xs,x.length=sz)/\(r.cap=0/\r.xs.length=0/\ZbO r.xs=[]\/0<r.cap/\r.b∈L/\BlkOk w e sz r.b r.cap (ZbO r.xs) r.xs.length)
def rwJ(e sz:Nat)(rows:List CRow)(rem:List Ent)(L:List Nat)(_:Nat->Nat->Prop)(w:World):Prop:=
 rem=[]/\(∀r∈rows,r.Ok w e sz L)/\∀(i j:Nat)(r s:CRow),i≠j->rows[i]? =some r->rows[j]? =some s->0<r.cap->0<s.cap->r.b≠s.b
def rwG(e sz:Nat)(rows:List CRow):Gst:=⟨.bool false,rwJ e sz rows⟩
def rO(e sz:Nat)(rows:List CRow):Ob:=.guest (rwG e sz rows) []
def CRow.Ok.trans{w w':World}{e sz:Nat}{L L':List Nat}{r:CRow}(h:r.Ok w e sz L)(hL:∀k∈L,k∈L')(hb:r.b∈L->0<r.cap->w'.heap[r.b]? =w.heap[r.b]?):r.Ok w' e sz L':=by obtain⟨h0,h1|⟨h1,h2,h4⟩⟩:=h;{exact⟨h0,.inl h1⟩};{exact⟨h0,.inr ⟨h1,hL _ h2,h4.trans (hb h2 h1)⟩⟩}
def ZtR(P:Program)(e sz:Nat)(rows:List CRow):(rwG e sz rows).Ok P:=by refine⟨rfl,?_,?_⟩;{rintro rem L M w M' w' ⟨h1,h6,h7⟩ hk hb hs;exact⟨h1,fun r hr=>(h6 r hr).trans (fun _ h=>h) fun hL _=>hb _ hL,h7⟩};{rintro args wins r rem L M w loc vs ⟨h1,_⟩;cases h1}
section
variable{C:Ctx}{σ:St}
def Zq5{n e sz b cap:Nat}{xs:List (List Int)}(hc:0<cap)(hn:σ.own n=qO e sz xs b 0 cap):∀a w,Gam C σ a w->Gam C ⟨σ.env,upd σ.own n (rO e sz [⟨b,cap,xs⟩])⟩ a w:=by rintro a w ⟨loc,hg⟩;have hob:=hg.objs n;rw[hn]at hob;obtain⟨_,L,hl,⟨_,rfl,cur,k1,k2,k3,k4,k5,k6⟩,_⟩:=hob;refine⟨loc,hg.reguest (g:=qG e sz xs b 0 cap) hn hl (ZtR _ _ _ _) fun M=>⟨rfl,fun r hr=>?_,fun i j r s hij hi hj=>?_⟩⟩;{simp only[Yk]at hr;subst hr;exact⟨k3,.inr ⟨hc,Kd,cur,k1,by simpa using k2,Zzl k3,k4,k5,by simpa using k6⟩⟩};{(match i,j with|0,0=>exact absurd rfl hij|0,j+1=>simp at hj|i+1,_=>simp at hi)}
def Zq6{n e sz:Nat}{rows:List CRow}(hn:σ.own n=rO e sz rows):∀a w,Gam C σ a w->Gam C ⟨σ.env,upd σ.own n (rO e sz (rows++[CRow.nil]))⟩ a w:=by rintro a w ⟨loc,hg⟩;have hob:=hg.objs n;rw[hn]at hob;obtain⟨_,L,hl,⟨_,h6,h7⟩,_⟩:=hob;refine⟨loc,hg.reguest (g:=rwG e sz rows) hn hl (ZtR _ _ _ _) fun M=>⟨rfl,fun r hr=>?_,fun i j r s hij hi hj hr hs=>?_⟩⟩;{rcases YD.1 hr with h|h;{exact h6 r h};{simp only[Yk]at h;subst h;exact⟨(fun x hx=>by cases hx),.inl ⟨rfl,rfl,rfl⟩⟩}};{rw[Ya5]at hi hj;split at hi;{split at hj;{exact h7 i j r s hij hi hj hr hs};{(have:s=CRow.nil:=by have:=Yu hj;simpa using this);subst this;exact absurd hs (by simp[CRow.nil])}};{(have:r=CRow.nil:=by have:=Yu hi;simpa using this);subst this;exact absurd hr (by simp[CRow.nil])}}
variable{K:St->Prop}{is:List Ins}{Q:Exit->St->Prop}
def Zuu{v:VC}(n:Nat){e sz b cap:Nat}{xs:List (List Int)}(hc:0<cap)(hn:σ.own n=qO e sz xs b 0 cap)(h:WV C v Q ⟨σ.env,upd σ.own n (rO e sz [⟨b,cap,xs⟩])⟩):WV C v Q σ:=Zgr (Zq5 hc hn) h
def Zrg(n:Nat){e sz:Nat}{rows:List CRow}(hn:σ.own n=rO e sz rows):Sub σ ⟨σ.env,upd σ.own n (rO e sz (rows++[CRow.nil]))⟩:=fun C=>Zq6 (C:=C) hn
end
section
variable{P:Program}{σ:St}{K:St->Prop}
def Zzs{d:Option Nat}{sz:Nat}{x:X}{n k i e:Nat}{rows:List CRow}{r:CRow}{l:List Int}(hk:rows[k]? =some r)(h1:(σ.val x).dg=true)(hv:(σ.val x).dv=qp r.b (i*sz))(hown:σ.own n=rO e sz rows)(hi:r.xs[i]? =some l)(hK:K (σ.put d (.agg (l.map fun m=> .c (.int .i64 m))))):Zcn P d (.ld false sz x) K σ:=by
 refine Zdt (fun C loc a w o hP hci hg=>?_) hK;subst hP;generalize ho:o.op=op at hci;generalize hone:false=one at hci;cases hci with
 |load ha hs hx=>
  rename_i t ag;cases ag with
  |false=>cases hone
  |true=>
  have rx:=ZaJ hg hx h1;rw[hv]at rx;simp only[qp,RepA,RepC]at rx;have hob:=hg.objs n;rw[hown]at hob;obtain⟨_,L,_,⟨_,hrows,_⟩,_⟩:=hob;obtain⟨hil,_⟩:=Ym.1 hi;obtain⟨hsz,⟨_,h0,_⟩|⟨_,_,hblk⟩⟩:=hrows r (Yu hk)
  ·omega
  have hr:=hsz l (Yu hi);refine⟨.agg (l.map (Value.int .i64)).toArray,?_,?_⟩
  ·refine(show _ from by simp [execOp,ho,rx.1,Instr.loadAt,Instr.sureAddr,ZbD (ad:=⟨r.b,i * sz,none⟩) (l:=l.map (Value.int .i64)) ha hs (by simpa using hr) (w:=w) (fun j u hj =>by
    rw[ZfG];have hjl:j<sz:=by have:=(Ym.1 hj).1;simpa [hr]using this
    have h2:=Zpp hsz hi hjl;exact hblk.cell (h2.trans hj))])
  ·simp only[RepA];exact⟨_,rfl,(ZbR l _).2 rfl⟩
def Zwd{d:Option Nat}{e sz bytes:Nat}{s x:X}{n k:Nat}{rows:List CRow}{r:CRow}{ys:List (List Int)}(hk:rows[k]? =some r)(h1:(σ.val s).dg=true)(h2:(σ.val x).dg=true)(hv:(σ.val s).dv= .c (.raw r.hd))(hx:(σ.val x).dv.elems σ.own=some (Zo1 ys))(hy0:0<ys.length)(hys:∀y∈ys,y.length=sz)(hown:σ.own n=rO e sz rows)(h63:r.xs.length+ys.length<=maxLen)(hbytes:(r.xs.length+ys.length)*bytes<=140737488355328)(hK:∀r':CRow,r'.xs=r.xs++ys->0<r'.cap->K (St.put ⟨σ.env,upd σ.own n (rO e sz (rows.set k r'))⟩ d (.c (.raw r'.hd)))):Zcn P d (.app e sz bytes s x) K σ:=by
 intro C loc a w o hP hc hd hdl hg;subst hP;have hci:=Zcd hc;generalize ho:o.op=op at hci;cases hci with
 |app ht hi hz hzs hpos hcs hcx=>
  rename_i t s0 x0 i z;have rs:=ZaJ hg hcs h1;have rx:=ZaJ hg hcx h2;rw[hv]at rs;simp only[RepA,RepC]at rs;obtain⟨szx,hrx⟩:=hg.elems rx hx;simp only[RepC]at hrx;obtain⟨A,capx,hxv,_,_,hxe⟩:=hrx;have hlen:(Zo1 ys).length=ys.length:=by simp[Zo1]
  have hob:=hg.objs n;rw[hown]at hob;obtain⟨_,L,hL,⟨_,hrows,hdis⟩,hA⟩:=hob;rcases hxe with h|⟨ad,rfl,hE⟩
  ·have:=congrArg List.length h;rw[hlen]at this;simp only[YI]at this;omega
  obtain⟨news,k1,k2,k3,k4⟩:=hE.vals (loc:=fun _=>undef);rw[Zi6]at k3;subst k3;obtain⟨hsz,hrok⟩:=hrows r (Yu hk);have Zqn:r.cap=0/\r.xs.length=0/\ZbO r.xs=[]\/0<r.cap/\BlkOk w e i.size r.b r.cap (ZbO r.xs) r.xs.length:=hrok.imp id fun h=>⟨h.1,h.2.2⟩
  obtain⟨b',cap',w',hr,hp,hq',e1,e2,e3,e4,e5,e6,e7⟩:=Zp0 (P:=C.P) (c:=capx) (ad:=ad) (m:=ys.length) t o.type e i z ht hi hz hzs Zqn (Zzl hys) k2 (ZCF ys) hy0 h63 hbytes;have hrl:r.b∈L\/r.cap=0:=hrok.elim (fun h=> .inr h.1) fun h=> .inl h.2.1
  have hold2:∀q,q<w.heap.size->(0<r.cap->q≠r.b)->w'.heap[q]? =w.heap[q]?:=fun q hq hne=>by
   rcases e7 with⟨_,h⟩|⟨_,h⟩
   ·exact e5 q hq (hne h)
   ·exact h q hq
  obtain⟨r',hr'⟩:∃r':CRow,r'=⟨b',cap',r.xs++ys⟩:=⟨_,rfl⟩;have hxs:r'.xs=r.xs++ys:=by rw[hr']
  have hcr:0<r'.cap:=by rw[hr'];exact hp
  have hhd:r'.hd=hdV b' (r.xs.length+ys.length) cap':=by rw[hr'];simp only[CRow.hd,Yw]
  have hklt:k<rows.length:=(Ym.1 hk).1;have hother:∀q s,q≠k->rows[q]? =some s->0<s.cap->s.b∈L/\s.b≠b'/\w'.heap[s.b]? =w.heap[s.b]?:=by
   intro q s hqk hqs hs;obtain⟨_,⟨h0,_⟩|⟨_,s2,_⟩⟩:=hrows s (Yu hqs)
   ·omega
   have hlt:=(hA _ s2).1;have hne:0<r.cap->s.b≠r.b:=fun h=>(hdis k q r s (Ycz hqk) hk hqs h hs).symm
   refine⟨s2,fun he=>?_,hold2 _ hlt hne⟩;rcases e7 with⟨h,h2⟩|⟨h,_⟩
   ·exact hne h2 (he.trans h)
   ·omega
  have hg1:=hg.turnGuest (g:=rwG e i.size rows) (g':=rwG e i.size (rows.set k r')) (rem':=[]) (L':=b' :: L) hown hL e1 e2 e3 e4 (fun q hq hkL =>hold2 q hq fun h he =>hrl.elim (fun h' =>hkL (he ▸ h')) fun h' =>by omega) (fun D hD =>hold2 D (YK.1 hD).1 fun h he =>by
    subst he;rcases Zqn with⟨h',_⟩|⟨_,cur,hb,_⟩
    ·omega
    ·rw[hb]at hD;cases hD) (fun q hq=>by
   rcases YF.1 hq with rfl|hq
   ·refine⟨e6,?_⟩;rcases e7 with⟨h,h2⟩|⟨h,_⟩
    ·rcases hrl with h'|h'
     ·exact .inl (h▸h')
     ·omega
    ·exact .inr h
   ·exact⟨YaR (hA q hq).1 e4,.inl hq⟩) (ZtR _ _ _ _) fun M=>by
   refine⟨rfl,fun s hs=>?_,fun p q s s' hpq hp' hq hs hs'=>?_⟩
   ·obtain⟨q,hq,hqs⟩:=Ybb hs;have hqs':(rows.set k r')[q]? =some s:=by rw[Yd hq,hqs]
    rw[Y5]at hqs';split at hqs'
    ·rename_i heq;subst heq;have:=YQ (by simpa [hklt]using hqs':some r'=some s);subst this;refine⟨fun x hx=>?_,.inr ⟨hcr,by rw[hr'];exact YbJ,by rw[hr',Zi0];simp only[Yw];exact hq'⟩⟩;rw[hxs]at hx;rcases YD.1 hx with h|h
     ·exact hsz x h
     ·exact hys x h
    ·rename_i hne;obtain⟨k0,h'|⟨k1,k2,k4⟩⟩:=hrows s (Yu hqs')
     ·exact⟨k0,.inl h'⟩
     ·exact⟨k0,.inr ⟨k1,Ya6 _ k2,k4.trans (hother q s (Ycz hne) hqs' k1).2.2⟩⟩
   ·rw[Y5]at hp' hq;split at hp'<;>split at hq
    ·omega
    ·rename_i h1 h2;subst h1;have:=YQ (by simpa [hklt]using hp':some r'=some s);subst this;rw[hr'];exact(hother q s' (Ycz h2) hq hs').2.1.symm
    ·rename_i h1 h2;subst h2;have:=YQ (by simpa [hklt]using hq:some r'=some s');subst this;rw[hr'];exact(hother p s (Ycz h1) hp' hs).2.1
    ·exact hdis p q s s' hpq hp' hq hs hs'
  rw[<-hhd]at hr;refine⟨_,⟨w',upd loc n (Zc6 (b'::L)),.inl ⟨r'.hd,?_,?_⟩⟩,hK r' hxs hcr⟩
  ·rw[hlen]at hxv;have hrs1:a.eval s0=hdV r.b r.xs.length r.cap:=rs.1;simp[execOp,ho,resolve,invoke,builtin,hrs1,hxv,hr]
  ·rw[hd]at hdl|-;exact hg1.put hdl (by simp only[RepA,RepC];exact⟨trivial,Zyo _ _ _⟩)
end
section
variable{P:Program}{σ:St}{K:St->Prop}
def ZBi{r:CRow}(h:0<r.cap):r.hd= .slice (some ⟨r.b,0,none⟩) r.xs.length r.cap:=by unfold CRow.hd hdV;rw[Yx Kc]
def Zwe{d:Option Nat}{x:X}{n k e sz:Nat}{rows:List CRow}{r:CRow}(hk:rows[k]? =some r)(h1:(σ.val x).dg=true)(hv:(σ.val x).dv= .c (.raw r.hd))(hown:σ.own n=rO e sz rows)(hK:K (σ.put d (.c (.int .i64 r.xs.length)))):Zcn P d (.len x) K σ:=by(refine Zdt (fun C loc a w o hP hci hg=>?_) hK;subst hP;generalize ho:o.op=op at hci;cases hci with|len ht hx=>have rx:=ZaJ hg hx h1;rw[hv]at rx;simp only[RepA,RepC]at rx;have hob:=hg.objs n;rw[hown]at hob;obtain⟨_,L,_,⟨_,hrows,_⟩,_⟩:=hob;obtain⟨_,⟨h0,h2,_⟩|⟨h0,_⟩⟩:=hrows r (Yu hk);{(have e1:r.hd= .slice none 0 0:=by unfold CRow.hd hdV;rw[Yt h0]);rw[e1]at rx;refine⟨.int .i64 r.xs.length,?_,by simp only[RepA,RepC]⟩;rw[h2];simp[execOp,ho,resolve,invoke,builtin,rx.1,Builtin.len_,run_underlying ht,goInt]};{have e1:=ZBi h0;rw[e1]at rx;refine⟨.int .i64 r.xs.length,?_,by simp only[RepA,RepC]⟩;simp[execOp,ho,resolve,invoke,builtin,rx.1,Builtin.len_,run_underlying ht,goInt]})
def Zzr{d:Option Nat}{e sz:Nat}{x i:X}{n k:Nat}{rows:List CRow}{r:CRow}{kk:IntKind}{j:Int}(hk:rows[k]? =some r)(h1:(σ.val x).dg=true)(h2:(σ.val i).dg=true)(hv:(σ.val x).dv= .c (.raw r.hd))(hj:(σ.val i).dv= .c (.int kk j))(hown:σ.own n=rO e sz rows)(h0:0<=j)(hn:j<r.xs.length)(hK:K (σ.put d (qp r.b (j.toNat*sz)))):Zcn P d (.ia sz x i) K σ:=by(refine Zdt (fun C loc a w o hP hci hg=>?_) hK;subst hP;generalize ho:o.op=op at hci;cases hci with|ia ht hs hx hi=>rename_i t0 e0 _ _;have rx:=ZaJ hg hx h1;have ri:=ZaJ hg hi h2;rw[hv]at rx;rw[hj]at ri;simp only[RepA,RepC]at rx ri;have hob:=hg.objs n;rw[hown]at hob;obtain⟨_,L,_,⟨_,hrows,_⟩,_⟩:=hob;obtain⟨_,⟨_,h3,_⟩|⟨h3,_⟩⟩:=hrows r (Yu hk);{omega};(rw[ZBi h3]at rx;refine⟨.pointer (some ⟨r.b,j.toNat*sz,none⟩),?_,by simp only[qp,RepA,RepC];exact⟨trivial,rfl⟩⟩;unfold sizeB at hs;cases hinf:C.P.info? e0 with|none=>simp[hinf]at hs|some inf=>simp[hinf]at hs;simp[execOp,ho,rx.1,ri,Instr.indexAt,asIntOf,run_underlying ht,h0,hn,sizeOf,typeInfo,hinf,hs,ZfG]))
end
def ZpO{C:Ctx}{σ:St}{K:St->Prop}{d:Option Nat}{i:I}{t:OT}(hp:i.plainB=true)(h:Zcn C.P d i (CTree C t K) σ):CTree C (.cons ⟨d,i,none,true⟩ t) K σ:=by simp only[CTree];refine .inr ⟨rfl,(by cases i<;>first|rfl|cases hp),fun ops o hins Q' K' hK' a w hg=>?_⟩;obtain⟨s1,ii,hc,hvw⟩:=hins;simp only at hc hvw;(have hii:ii=i:=by rcases hvw with h|⟨_,_,_,_,_,_,h⟩|⟨_,_,_,_,h⟩|⟨_,_,_,_,h⟩|⟨_,_,_,h⟩;{exact h.symm};all_goals(rw[h]at hp;cases hp));subst hii;obtain⟨loc,hg⟩:=hg;unfold cOp at hc;split at hc;(case h_2=>cases hc);rename_i ins g hi hgd;split at hc;(case isFalse=>cases hc);rename_i hd;simp only[Ya,Ins.mk.injEq]at hc;obtain⟨rfl,rfl,rfl,_⟩:=hc;(have hog:o.guard=none:=by unfold ZhY at hgd;split at hgd;{rename_i h;exact h};{split at hgd<;>simp at hgd});rw[Yt (by simp[Region.wanted,hog])];exact Zbz hg hi hd h fun σ' a' w' hg' hk=>hK' σ' a' w' hg' hk
end Go.V
namespace Go.V
def Zna(l:GL)(k z:List Int):GL:=if(Za0 l k).isSome=true then l else l++[(k,z)]
def ZgA(l:GL)(k z:List Int):Za0 (Zna l k z) k=some ((Za0 l k).getD z):=by unfold Zna;split;{rename_i h;obtain⟨v,hv⟩:=YaA.1 h;rw[hv];rfl};{rename_i h;(have hn:Za0 l k=none:=by cases hg:Za0 l k with|none=>rfl|some v=>simp[hg]at h);rw[hn];unfold Za0 at hn|-;rw[Ybk]at hn;rw[List.find?_append,hn];simp}
def Zju{l:GL}{k:List Int}(h:Za0 l k=none):∀p∈l,p.1≠k:=by unfold Za0 at h;rw[Ybk,YaQ]at h;intro p hp he;exact h p hp (by simpa using he)
def Zml(l:GL)(k z v:List Int):Zlz (Zna l k z) k v=Zlz l k v:=by unfold Zlz;rw[ZgA,Yt (by rfl)];unfold Zna;split;{rfl};{rename_i h;(have hn:Za0 l k=none:=by cases hg:Za0 l k with|none=>rfl|some v=>simp[hg]at h);rw[Yy];(have:l.map (fun p=>if p.1=k then(k,v)else p)=l:=by(conv=>rhs;rw[<-List.map_id l]);refine Yal fun p hp=>?_;rw[Yx (Zju hn p hp)];rfl);rw[this];simp}
def Zsl{l:GL}{k z:List Int}{Q:List Int->Prop}(hk:Q k)(h:∀p∈l,Q p.1):∀p∈Zna l k z,Q p.1:=by unfold Zna;split;{exact h};{intro p hp;rcases YD.1 hp with hp|hp;{exact h p hp};{simp only[Yk]at hp;subst hp;exact hk}}
def ZGm(ka va:Bool)(l:GL)(b:Nat)(key:List Int)(st:Nat)(rem:List Ent)(L:List Nat)(_:Nat->Nat->Prop)(w:World):Prop:=
 rem=[]/\L=[b]/\∃es clock,w.heap[b]? =some (.map es clock)/\MapKept.Stamped es clock/\es.toList.map (fun e=>(e.key,e.val))=ZbG ka va l/\∃(j:Nat)(e0:MapEntry),es.toList[j]? =some e0/\e0.key=ZaH ka key/\e0.born=st
def ZDg(ka va:Bool)(l:GL)(b:Nat)(key:List Int)(st:Nat):Gst:=⟨.bool false,ZGm ka va l b key st⟩
def gms(ka va:Bool)(l:GL)(b:Nat)(key:List Int)(st:Nat):Ob:=.guest (ZDg ka va l b key st) []
def Zyk(P:Program)(ka va:Bool)(l:GL)(b:Nat)(key:List Int)(st:Nat):(ZDg ka va l b key st).Ok P:=by refine⟨rfl,?_,?_⟩;{rintro rem L M w M' w' ⟨h1,h2,es,clock,h3,h4⟩ hk hb hs;exact⟨h1,h2,es,clock,by rw[hb b (by rw[h2];simp)];exact h3,h4⟩};{rintro args wins r rem L M w loc vs ⟨h1,_⟩;cases h1}
section
variable{P:Program}{σ:St}{K:St->Prop}
def Zso{ka va:Bool}{l:GL}{es:Array MapEntry}{Kp:Value->Prop}(hes:es.toList.map (fun e=>(e.key,e.val))=ZbG ka va l)(hkeys:∀p∈l,Kp (ZaH ka p.1)):∀e∈es.toList,Kp e.key:=fun e he=>by have hm:(e.key,e.val)∈es.toList.map (fun e=>(e.key,e.val)):=Ys.2 ⟨e,he,rfl⟩;rw[hes]at hm;obtain⟨p,hp,h3⟩:=Ys.1 hm;simp only[Yj]at h3;rw[<-h3.1];exact hkeys p hp
def Ztx{d:Option Nat}{t k e:TypeId}{x i:Operand}{x' i':X}{n b st:Nat}{ka va:Bool}{l:GL}{key k0 zs:List Int}{Kp:Value->Prop}(ht:P.underlying t=some (.map k e))(hkl:KLaw P k Kp)(hz:(P.info? e).bind (·.zero)=some (ZaH va zs))(hx:cX x=some x')(hi:cX i=some i')(h1:(σ.val x').dg=true)(h2:(σ.val i').dg=true)(hv:(σ.val x').dv= .c (.raw (.map (some b))))(hj:(σ.val i').dv=kav ka key)(hown:σ.own n=gms ka va l b k0 st)(hkey:Kp (ZaH ka key))(hkeys:∀p∈l,Kp (ZaH ka p.1))(hinj:∀p∈l,ZaH ka p.1=ZaH ka key->p.1=key)(hK:K (σ.put d (kav va ((Za0 l key).getD zs)))):Zcn P d (.raw (.lookup t x i false)) K σ:=by refine Zbs (fun C loc a w o hP ho hg=>?_) hK;subst hP;have rx:=ZaJ hg hx h1;have ri:=ZaJ hg hi h2;rw[hv]at rx;rw[hj,ZbA]at ri;simp only[RepA,RepC]at rx;have hob:=hg.objs n;rw[hown]at hob;obtain⟨_,L,hl,⟨_,rfl,es,clock,hb,hst,hes,_⟩,hA⟩:=hob;have hks:=Zso hes hkeys;refine⟨ZaH va ((Za0 l key).getD zs),?_,ZbA.2 rfl⟩;rcases hkl.find w hkey es.toList hks with⟨f1,f2⟩|⟨j,e0,f1,f2,f3⟩;{rw[ZdB hes f2];simp[execOp,ho,rx.1,ri,Instr.lookup,run_underlying ht,MapKept.run_getObj_map hb,hkl.check w _ hkey,f1,ZeT hz]};{obtain⟨v,g1,g2,g3⟩:=ZdC hes hst.2.2 hinj f2 f3;rw[g2];simp[execOp,ho,rx.1,ri,Instr.lookup,run_underlying ht,MapKept.run_getObj_map hb,hkl.check w _ hkey,f1,g3]}
def Zv9{d:Option Nat}{t k e:TypeId}{x i:Operand}{x' i':X}{n b:Nat}{ka va:Bool}{l:GL}{key zs:List Int}{Kp:Value->Prop}(ht:P.underlying t=some (.map k e))(hkl:KLaw P k Kp)(hz:(P.info? e).bind (·.zero)=some (ZaH va zs))(hx:cX x=some x')(hi:cX i=some i')(h1:(σ.val x').dg=true)(h2:(σ.val i').dg=true)(hv:(σ.val x').dv= .c (.raw (.map (some b))))(hj:(σ.val i').dv=kav ka key)(hown:σ.own n=gmap ka va l b)(hkey:Kp (ZaH ka key))(hkeys:∀p∈l,Kp (ZaH ka p.1))(hinj:∀p∈l,ZaH ka p.1=ZaH ka key->p.1=key)(hK:∀st:Nat,K (St.put ⟨σ.env,upd σ.own n (gms ka va (Zna l key zs) b key st)⟩ d (.tup [kav va ((Za0 l key).getD zs),.c (.int .i64 (st:Int))]))):Zcn P d (.raw (.mapEntry t x i)) K σ:=by refine Zb1 fun C loc a w o hP ho hod hdl hg=>?_;subst hP;have rx:=ZaJ hg hx h1;have ri:=ZaJ hg hi h2;rw[hv]at rx;rw[hj,ZbA]at ri;simp only[RepA,RepC]at rx;have hob:=hg.objs n;rw[hown]at hob;obtain⟨_,L,hl,⟨_,rfl,es,clock,hb,hst,hes⟩,hA⟩:=hob;have hks:=Zso hes hkeys;(have hrun:∃(st:Nat)(es':Array MapEntry)(clock':Nat),(Instr.mapEntry t (.map (some b)) (ZaH ka key)).run C.P w= .ok (.tuple #[ZaH va ((Za0 l key).getD zs),goInt st]) {w with heap:=w.heap.setIfInBounds b (.map es' clock')} /\MapKept.Stamped es' clock'/\es'.toList.map (fun e=>(e.key,e.val))=ZbG ka va (Zna l key zs)/\∃(j:Nat)(e0:MapEntry),es'.toList[j]? =some e0/\e0.key=ZaH ka key/\e0.born=st:=by rcases hkl.find w hkey es.toList hks with⟨f1,f2⟩|⟨j,e0,f1,f2,f3⟩;{have hn:=ZdB hes f2;refine⟨clock,es.push {key:=ZaH ka key,val:=ZaH va zs,born:=clock},clock+1,?_,MapKept.stamped_push hst f2,?_,es.size,⟨ZaH ka key,ZaH va zs,clock⟩,Kd,rfl,rfl⟩;{rw[hn];simp[Instr.mapEntry,run_underlying ht,MapKept.run_getObj_map hb,hkl.check w _ hkey,f1,ZeT hz,MapKept.run_setObj_map _ hb]};{unfold Zna;rw[hn,Ycn,Yy,hes];unfold ZbG;simp}};{(have hj':es[j]? =some e0:=by simpa using f2);obtain⟨v,g1,g2,g3⟩:=ZdC hes hst.2.2 hinj f2 f3;(have hself:es.modify j (fun e=> {e with key:=ZaH ka key})=es:=by apply YaS;rw[YcG];refine Yba fun q=>?_;rw[YcA];by_cases hq:j=q;{subst hq;rw[f2];simp[<-f3]};{simp[hq]});refine⟨e0.born,es,clock,?_,hst,?_,j,e0,f2,f3,rfl⟩;{rw[g2];simp[Instr.mapEntry,run_underlying ht,MapKept.run_getObj_map hb,hkl.check w _ hkey,f1,hj',f3,hkl.stays w hkey,hself,MapKept.run_setObj_map _ hb,g3]};{unfold Zna;rw[g2];exact hes}});obtain⟨st,es',clock',hr1,hr2,hr3,hr4⟩:=hrun;have hg1:=hg.setGuest (g:=gmG ka va l b) (g':=ZDg ka va (Zna l key zs) b key st) (rem':=[]) hown hl Kd hb (fun x h=>by cases h) (Zyk _ _ _ _ _ _ _) fun M=>⟨rfl,rfl,es',clock',(MapKept.heap_set hb).1,hr2,hr3,hr4⟩;refine⟨_,⟨{w with heap:=w.heap.setIfInBounds b (.map es' clock')},loc,.inl ⟨.tuple #[ZaH va ((Za0 l key).getD zs),goInt st],?_,?_⟩⟩,hK st⟩;{simp[execOp,ho,rx.1,ri,hr1]};{rw[hod];refine hg1.put hdl ?_;simp only[RepA];refine⟨[_,_],rfl,?_⟩;simp only[RepAs];exact⟨_,_,rfl,ZbA.2 rfl,_,_,rfl,by simp only[RepA,RepC];rfl,rfl⟩}
def Zv7{t:TypeId}{x i v:Operand}{x' i' v':X}{n b st:Nat}{ka va:Bool}{l:GL}{key val:List Int}(hx:cX x=some x')(hi:cX i=some i')(hvx:cX v=some v')(h1:(σ.val x').dg=true)(h2:(σ.val i').dg=true)(h3:(σ.val v').dg=true)(hv:(σ.val x').dv= .c (.raw (.map (some b))))(hj:(σ.val i').dv= .c (.int .i64 (st:Int)))(hw:(σ.val v').dv=kav va val)(hown:σ.own n=gms ka va l b key st)(hinj:∀p∈l,ZaH ka p.1=ZaH ka key->p.1=key)(hK:K ⟨σ.env,upd σ.own n (gmap ka va (Zlz l key val) b)⟩):Zcn P none (.raw (.entryStore t x i v)) K σ:=by refine Zb1 fun C loc a w o hP ho hod hdl hg=>?_;subst hP;have rx:=ZaJ hg hx h1;have ri:=ZaJ hg hi h2;have rv:=ZaJ hg hvx h3;rw[hv]at rx;rw[hj]at ri;rw[hw,ZbA]at rv;simp only[RepA,RepC]at rx ri;have hob:=hg.objs n;rw[hown]at hob;obtain⟨_,L,hl,⟨_,rfl,es,clock,hb,hst,hes,j,e0,f2,f3,rfl⟩,hA⟩:=hob;(have hidx:es.findIdx? (fun e=>((e.born:Nat):Int)==((e0.born:Nat):Int))=some j:=by rw[WideElems.findIdx_arr];exact WideElems.findIdx_born hst.2.1 f2);(have hmod:es.modify j (fun e=> {e with val:=ZaH va val})=es.modify j (fun e=> {e with key:=ZaH ka key,val:=ZaH va val}):=by apply YaS;rw[YcG,YcG];refine Yba fun q=>?_;rw[YcA,YcA];by_cases hq:j=q;{subst hq;rw[f2];simp[<-f3]};{simp[hq]});(have hj':es[j]? =some e0:=by simpa using f2);(have hr1:(Instr.entryStore t (.map (some b)) (.int .i64 (e0.born:Int)) (ZaH va val)).run C.P w= .ok () {w with heap:=w.heap.setIfInBounds b (.map (es.modify j (fun e=> {e with key:=ZaH ka key,val:=ZaH va val})) clock)}:=by simp[Instr.entryStore,MapKept.run_getObj_map hb,asInt,asIntOf,hidx,hmod,MapKept.run_setObj_map _ hb]);refine⟨_,⟨{w with heap:=w.heap.setIfInBounds b (.map (es.modify j (fun e=> {e with key:=ZaH ka key,val:=ZaH va val})) clock)},loc,.inr ⟨?_,?_⟩⟩,hK⟩;{simp[execOp,ho,rx.1,ri,rv,hr1]};{rw[hod];refine hg.setGuest (g:=ZDg ka va l b key e0.born) hown hl Kd hb (fun x h=>by cases h) (ZoU _ _ _ _ _) fun M=>⟨rfl,rfl,_,clock,(MapKept.heap_set hb).1,MapKept.stamped_modify hst j _ (fun e _=>rfl) (fun e _ he=>?_),Ziw hes hst.2.2 hinj f2 f3⟩;rw[hj']at he;rw[<-YQ he,f3]}
end
end Go.V
namespace Go.V
open Go.WideMaps
abbrev SL:=List (List UInt8×Value)
def sv(s:List UInt8):Value:=.string ⟨s.toArray⟩
def ZCT{a b:List UInt8}(h:sv a=sv b):a=b:=by simp only[sv,Value.string.injEq,ByteArray.mk.injEq]at h;exact congrArg Array.toList h
def Zm2(l:SL):List (Value×Value):=l.map fun p=>(sv p.1,p.2)
def Zge(l:SL)(k:List UInt8):Option Value:=(l.find? fun p=>p.1==k).map (·.2)
def ZjR:∀(l:SL)(j:Nat)(p:List UInt8×Value),(l.map (·.1)).Nodup->l[j]? =some p->l.find? (fun q=>q.1==p.1)=some p
 |[],j,p,_,h=>by simp at h
 |q::l,0,p,_,h=>by simp only[YbC,Ya]at h;subst h;simp
 |q::l,j+1,p,hn,h=>by simp only[List.getElem?_cons_succ]at h;simp only[Ye,YbN]at hn;have hp:p∈l:=Yu h;(have hne:(q.1==p.1)=false:=by simp only[Yb3,ne_eq];intro he;exact hn.1 (he▸Yb2 hp));rw[List.find?_cons,hne];exact ZjR l j p hn.2 h
def Zkl{l:SL}{es:Array MapEntry}{k:List UInt8}(h:es.toList.map (fun e=>(e.key,e.val))=Zm2 l)(hn:(es.toList.map (·.key)).Nodup){j:Nat}{e:MapEntry}(he:es.toList[j]? =some e)(hk:e.key=sv k):Zge l k=some e.val:=by(have hj:(es.toList.map (fun e=>(e.key,e.val)))[j]? =some (e.key,e.val):=by rw[Y0,he];rfl);(rw[h]at hj;unfold Zm2 at hj;rw[Y0]at hj;cases hl:l[j]? with|none=>rw[hl]at hj;cases hj|some p=>rw[hl]at hj;simp only[YR,Ya,Yj]at hj;have hpk:p.1=k:=ZCT (hj.1.trans hk);(have hnd:(l.map (·.1)).Nodup:=by(have h2:es.toList.map (·.key)=(l.map (·.1)).map sv:=by have:=congrArg (List.map Prod.fst) h;simpa [Zm2,YcS]using this);rw[h2]at hn;exact List.Pairwise.of_map sv (fun a b hab he=>hab (by rw[he])) hn);have:=ZjR l j p hnd hl;unfold Zge;rw[<-hpk,this];simp[hj.2])
def ZqO{l:SL}{es:Array MapEntry}{k:List UInt8}(h:es.toList.map (fun e=>(e.key,e.val))=Zm2 l)(hk:∀e∈es.toList,e.key≠sv k):Zge l k=none:=by unfold Zge;rw[Ybk,YaQ];intro p hp hpk;simp only[YaX]at hpk;have hm:(sv p.1,p.2)∈Zm2 l:=Ys.2 ⟨p,hp,rfl⟩;rw[<-h]at hm;obtain⟨e,he,h3⟩:=Ys.1 hm;simp only[Yj]at h3;exact hk e he (by rw[h3.1,hpk])
def smJ(l:SL)(b:Nat)(rem:List Ent)(L:List Nat)(_:Nat->Nat->Prop)(w:World):Prop:=
 rem=[]/\L=[b]/\∃es clock,w.heap[b]? =some (.map es clock)/\MapKept.Stamped es clock/\es.toList.map (fun e=>(e.key,e.val))=Zm2 l
def smG(l:SL)(b:Nat):Gst:=⟨.bool false,smJ l b⟩
def smap(l:SL)(b:Nat):Ob:=.guest (smG l b) []
def Zxr(P:Program)(l:SL)(b:Nat):(smG l b).Ok P:=by refine⟨rfl,?_,?_⟩;{rintro rem L M w M' w' ⟨h1,h2,es,clock,h3,h4⟩ hk hb hs;exact⟨h1,h2,es,clock,by rw[hb b (by rw[h2];simp)];exact h3,h4⟩};{rintro args wins r rem L M w loc vs ⟨h1,_⟩;cases h1}
def vbJ(v:Value)(b:Nat)(rem:List Ent)(L:List Nat)(_:Nat->Nat->Prop)(w:World):Prop:=
 rem=[]/\L=[b]/\w.cell? ⟨b,0,none⟩=some v
def vbG(v:Value)(b:Nat):Gst:=⟨.bool false,vbJ v b⟩
def vbox(v:Value)(b:Nat):Ob:=.guest (vbG v b) []
def ZC8(P:Program)(v:Value)(b:Nat):(vbG v b).Ok P:=by refine⟨rfl,?_,?_⟩;{rintro rem L M w M' w' ⟨h1,h2,h3⟩ hk hb hs;exact⟨h1,h2,(World.cell?_of_block (hb b (by rw[h2];simp))).trans h3⟩};{rintro args wins r rem L M w loc vs ⟨h1,_⟩;cases h1}
def ZvP:TypeDesc->Bool
 |.interface _=>false
 |_=>true
section
variable{P:Program}{σ:St}{K:St->Prop}
def Zzp{d:Nat}{t:TypeId}(hn:(σ.own d).isNone=true)(hK:∀b,K (St.new σ d (.c (.raw (.map (some b)))) (smap [] b))):Zcn P (some d) (.raw (.makeMap t none)) K σ:=by refine Zb1 fun C loc a w o hP ho hod hdl hg=>?_;(have hd:d<C.N:=by simpa using hdl);refine⟨_,⟨w.alloc (.map #[] 0),upd loc d (Zc6 [w.heap.size]),.inl ⟨.map (some w.heap.size),?_,?_⟩⟩,hK w.heap.size⟩;{have h1:(Instr.makeMap t none).run C.P w= .ok (.map (some w.heap.size)) (w.alloc (.map #[] 0)):=rfl;simp[execOp,ho,h1]};{rw[hod];refine hg.newblock hd hn (fun b hb=>?_) (fun M loc' hk hl hv=>?_) (fun M loc' hv=>?_);{simp only[smap,Ob.has,Zan,Yk]at hb;exact hb};{refine⟨Zxr _ _ _,[w.heap.size],rfl,⟨rfl,rfl,#[],0,by rw[Zbv],MapKept.stamped_empty 0,rfl⟩,fun b hb=>?_⟩;simp only[Yk]at hb;subst hb;exact⟨Kd,.inl hg.fr.size⟩};{simp only[RepA,RepC];exact⟨trivial,rfl⟩}}
def ZpC{k:TypeId}(hk:P.underlying k=some .string){s:List UInt8}(hs:s.length<=maxLen):∃l,keyOf P k (sv s)=some l:=
 ⟨_,keyOf_string_mk hk (s:=⟨s.toArray⟩) (by simpa [ByteArray.size]using hs)⟩
def Zwa{op:Op}{t k e:TypeId}{x i v:Operand}{x' i' v':X}{n b:Nat}{l:SL}{key:List UInt8}{val:Value}(hop:op= .mapUpdate t x i v\/op= .insert t x i v)(ht:P.underlying t=some (.map k e))(hk:P.underlying k=some .string)(hx:cX x=some x')(hi:cX i=some i')(hvx:cX v=some v')(h1:(σ.val x').dg=true)(h2:(σ.val i').dg=true)(h3:(σ.val v').dg=true)(hv:(σ.val x').dv= .c (.raw (.map (some b))))(hj:(σ.val i').dv= .c (.str key))(hw:∀w M loc u,RepA w M loc (σ.val v').dv u->u=val)(hown:σ.own n=smap l b)(hlen:key.length<=maxLen)(hls:∀p∈l,p.1.length<=maxLen)(hnew:Zge l key=none)(hK:K ⟨σ.env,upd σ.own n (smap (l++[(key,val)]) b)⟩):Zcn P none (.raw op) K σ:=by refine Zb1 fun C loc a w o hP ho hod hdl hg=>?_;subst hP;have hkl:=KLaw.wide (string_law hk);have rx:=ZaJ hg hx h1;have ri:=ZaJ hg hi h2;have rv:=hw _ _ _ _ (ZaJ hg hvx h3);rw[hv]at rx;rw[hj]at ri;simp only[RepA,RepC]at rx ri;change _=sv key at ri;have hkey:=ZpC hk hlen;have hob:=hg.objs n;rw[hown]at hob;obtain⟨_,L,hl,⟨_,rfl,es,clock,hb,hst,hes⟩,hA⟩:=hob;(have hks:∀e∈es.toList,∃l,keyOf C.P k e.key=some l:=fun e he=>by have hm:(e.key,e.val)∈es.toList.map (fun e=>(e.key,e.val)):=Ys.2 ⟨e,he,rfl⟩;rw[hes]at hm;obtain⟨p,hp,h3⟩:=Ys.1 hm;simp only[Yj]at h3;rw[<-h3.1];exact ZpC hk (hls p hp));(have hrun:∃es' clock',(Instr.mapUpdate t (.map (some b)) (sv key) val).run C.P w= .ok () {w with heap:=w.heap.setIfInBounds b (.map es' clock')} /\MapKept.Stamped es' clock'/\es'.toList.map (fun e=>(e.key,e.val))=Zm2 (l++[(key,val)]):=by rcases hkl.find w hkey es.toList hks with⟨f1,f2⟩|⟨j,e0,f1,f2,f3⟩;{refine⟨es.push {key:=sv key,val:=val,born:=clock},clock+1,?_,MapKept.stamped_push hst f2,?_⟩;{simp[Instr.mapUpdate,run_underlying ht,MapKept.run_getObj_map hb,hkl.check w _ hkey,f1,MapKept.run_setObj_map _ hb]};{rw[Ycn,Yy,hes];unfold Zm2;rw[Yy];rfl}};{rw[Zkl hes hst.2.2 f2 f3]at hnew;cases hnew});obtain⟨es',clock',hr1,hr2,hr3⟩:=hrun;refine⟨_,⟨{w with heap:=w.heap.setIfInBounds b (.map es' clock')},loc,.inr ⟨?_,?_⟩⟩,hK⟩;{rcases hop with rfl|rfl<;>simp[execOp,ho,rx.1,ri,rv,hr1]};{rw[hod];refine hg.setGuest (g:=smG l b) hown hl Kd hb (fun x h=>by cases h) (Zxr _ _ _) fun M=>⟨rfl,rfl,es',clock',(MapKept.heap_set hb).1,hr2,hr3⟩}
def Zv8{d:Option Nat}{t k e:TypeId}{x i:Operand}{x' i':X}{n b:Nat}{l:SL}{key:List UInt8}{z:Value}{vr:AV}(ht:P.underlying t=some (.map k e))(hk:P.underlying k=some .string)(hz:(P.info? e).bind (·.zero)=some z)(hx:cX x=some x')(hi:cX i=some i')(h1:(σ.val x').dg=true)(h2:(σ.val i').dg=true)(hv:(σ.val x').dv= .c (.raw (.map (some b))))(hj:(σ.val i').dv= .c (.str key))(hown:σ.own n=smap l b)(hlen:key.length<=maxLen)(hls:∀p∈l,p.1.length<=maxLen)(hr:∀w M loc,RepA w M loc vr ((Zge l key).getD z))(hK:K (σ.put d (.tup [vr,.c (.bool (Zge l key).isSome)]))):Zcn P d (.raw (.lookup t x i true)) K σ:=by refine Zbs (fun C loc a w o hP ho hg=>?_) hK;subst hP;have hkl:=KLaw.wide (string_law hk);have rx:=ZaJ hg hx h1;have ri:=ZaJ hg hi h2;rw[hv]at rx;rw[hj]at ri;simp only[RepA,RepC]at rx ri;change _=sv key at ri;have hkey:=ZpC hk hlen;have hob:=hg.objs n;rw[hown]at hob;obtain⟨_,L,hl,⟨_,rfl,es,clock,hb,hst,hes⟩,hA⟩:=hob;(have hks:∀e∈es.toList,∃l,keyOf C.P k e.key=some l:=fun e he=>by have hm:(e.key,e.val)∈es.toList.map (fun e=>(e.key,e.val)):=Ys.2 ⟨e,he,rfl⟩;rw[hes]at hm;obtain⟨p,hp,h3⟩:=Ys.1 hm;simp only[Yj]at h3;rw[<-h3.1];exact ZpC hk (hls p hp));refine⟨.tuple #[(Zge l key).getD z,.bool (Zge l key).isSome],?_,?_⟩;{rcases hkl.find w hkey es.toList hks with⟨f1,f2⟩|⟨j,e0,f1,f2,f3⟩;{rw[ZqO hes f2];simp[execOp,ho,rx.1,ri,Instr.lookup,run_underlying ht,MapKept.run_getObj_map hb,hkl.check w _ hkey,f1,ZeT hz]};{rw[Zkl hes hst.2.2 f2 f3];simp[execOp,ho,rx.1,ri,Instr.lookup,run_underlying ht,MapKept.run_getObj_map hb,hkl.check w _ hkey,f1]}};{simp only[RepA];refine⟨[_,_],rfl,?_⟩;simp only[RepAs];exact⟨_,_,rfl,hr _ _ _,_,_,rfl,by simp only[RepA,RepC],rfl⟩}
def Zlo{d:Option Nat}{t:TypeId}{x:Operand}{x':X}{v:Value}(ht:(P.underlying t).map ZvP=some true)(hx:cX x=some x')(h1:(σ.val x').dg=true)(hv:∀w M loc u,RepA w M loc (σ.val x').dv u->u=v)(hK:K (σ.put d (.c (.raw (.iface t v))))):Zcn P d (.raw (.makeInterface t x)) K σ:=by(refine Zbs (fun C loc a w o hP ho hg=>?_) hK;subst hP;have rx:=hv _ _ _ _ (ZaJ hg hx h1);refine⟨.iface t v,?_,by simp only[RepA,RepC];exact⟨trivial,rfl⟩⟩;cases hu:C.P.underlying t with|none=>rw[hu]at ht;cases ht|some D=>rw[hu]at ht;simp only[YR,Ya]at ht;cases D<;>simp[ZvP]at ht<;>simp[execOp,ho,rx,Instr.makeInterface,run_underlying hu])
def Zlp{d:Option Nat}{xt t:TypeId}{x:Operand}{x':X}{u:Value}{vr:AV}(ht:(P.underlying t).map ZvP=some true)(hx:cX x=some x')(h1:(σ.val x').dg=true)(hv:(σ.val x').dv= .c (.raw (.iface t u)))(hr:∀w M loc,RepA w M loc vr u)(hK:K (σ.put d (.tup [vr,.c (.bool true)]))):Zcn P d (.raw (.typeAssert x xt t true)) K σ:=by refine Zbs (fun C loc a w o hP ho hg=>?_) hK;subst hP;have rx:=ZaJ hg hx h1;rw[hv]at rx;simp only[RepA,RepC]at rx;refine⟨.tuple #[u,.bool true],?_,?_⟩;{(cases hu:C.P.underlying t with|none=>rw[hu]at ht;cases ht|some D=>rw[hu]at ht;simp only[YR,Ya]at ht;cases D<;>simp[ZvP]at ht<;>simp[execOp,ho,rx.1,Instr.typeAssert,run_underlying hu])};{simp only[RepA];refine⟨[_,_],rfl,?_⟩;simp only[RepAs];exact⟨_,_,rfl,hr _ _ _,_,_,rfl,by simp only[RepA,RepC],rfl⟩}
def ZtA{d:Option Nat}{xt t t':TypeId}{x:Operand}{x':X}{u z:Value}{vr:AV}(hne:t'≠t)(ht:(P.underlying t).map ZvP=some true)(hz:(P.info? t).bind (·.zero)=some z)(hx:cX x=some x')(h1:(σ.val x').dg=true)(hv:(σ.val x').dv= .c (.raw (.iface t' u)))(hr:∀w M loc,RepA w M loc vr z)(hK:K (σ.put d (.tup [vr,.c (.bool false)]))):Zcn P d (.raw (.typeAssert x xt t true)) K σ:=by refine Zbs (fun C loc a w o hP ho hg=>?_) hK;subst hP;have rx:=ZaJ hg hx h1;rw[hv]at rx;simp only[RepA,RepC]at rx;refine⟨.tuple #[z,.bool false],?_,?_⟩;{(cases hu:C.P.underlying t with|none=>rw[hu]at ht;cases ht|some D=>rw[hu]at ht;simp only[YR,Ya]at ht;cases D<;>simp[ZvP]at ht<;>simp[execOp,ho,rx.1,Instr.typeAssert,run_underlying hu,hne,ZeT hz])};{simp only[RepA];refine⟨[_,_],rfl,?_⟩;simp only[RepAs];exact⟨_,_,rfl,hr _ _ _,_,_,rfl,by simp only[RepA,RepC],rfl⟩}
def Zn0{d:Option Nat}{x:X}{n b:Nat}{v:Value}{vr:AV}(h1:(σ.val x).dg=true)(hv:(σ.val x).dv= .c (.raw (Zf5 b 0)))(hown:σ.own n=vbox v b)(hr:∀w M loc,RepA w M loc vr v)(hK:K (σ.put d vr)):Zcn P d (.ld true 1 x) K σ:=by(refine Zdt (fun C loc a w o hP hci hg=>?_) hK;subst hP;generalize ho:o.op=op at hci;generalize hone:true=one at hci;cases hci with|load ha hs hx=>(rename_i t ag;cases ag with|true=>cases hone|false=>have rx:=ZaJ hg hx h1;rw[hv]at rx;simp only[RepA,RepC,Zf5]at rx;have hob:=hg.objs n;rw[hown]at hob;obtain⟨_,L,_,⟨_,_,hcell⟩,_⟩:=hob;exact⟨v,by simp[execOp,ho,rx.1,Instr.loadAt,Instr.sureAddr,Zb9 ha hcell],hr _ _ _⟩))
end
end Go.V
namespace Go.V
section
variable{C:Ctx}{σ:St}
def Zuq{f d t:Nat}{x:AV}{v:Value}(hfd:f≠d)(hof:σ.own f=empO)(hod:σ.own d= .box [x])(ht:σ.env t= .bp d 0)(hx:∀w M loc u,RepA w M loc x u->u=v):
  ∀a w,Gam C σ a w->∃b:Nat,Gam C ⟨upd σ.env t (.c (.raw (Zf5 b 0))),upd (upd σ.own d .none) f (vbox v b)⟩ a w:=by rintro a w ⟨loc,hg⟩;have h1:=hg.objs d;rw[hod]at h1;obtain⟨b,lv,ty,k1,k2,k3,k4⟩:=h1;have h2:=hg.objs f;rw[hof]at h2;obtain⟨_,Lg,m1,⟨_,m3⟩,m6⟩:=h2;subst m3;have h3:=hg.slots t;rw[ht]at h3;simp only[RepA]at h3;obtain⟨b',q1,q2⟩:=h3;rw[k1]at q1;simp only[Value.pointer.injEq,Ya,Addr.mk.injEq,Ya2]at q1;subst q1;simp only[RepAs]at k4;obtain⟨u,_,rfl,hu,rfl⟩:=k4;have huv:=hx _ _ _ _ hu;subst huv;(have hcell:w.cell? ⟨b,0,none⟩=some u:=by rw[cell_of_row w b _ _ _ _ k3.1];rfl);(have hbd:∀x,(σ.own d).has (loc d) x↔b=x:=fun x=>by rw[hod,k1];exact YaK);refine⟨b,?_⟩;obtain⟨own',hown'⟩:∃own',own'=upd (upd σ.own d .none) f (vbox u b):=⟨_,rfl⟩;rw[<-hown'];obtain⟨loc',hloc'⟩:∃loc',loc'=upd loc f (Zc6 [b]):=⟨_,rfl⟩;(have hf1:loc' f=Zc6 [b]:=by rw[hloc'];simp[upd]);(have hf2:∀n,n≠f->loc' n=loc n:=fun n hn=>by rw[hloc'];simp[upd,hn]);(have ho1:own' f=vbox u b:=by rw[hown'];simp[upd]);(have ho2:own' d= .none:=by rw[hown'];simp[upd,Ycz hfd]);(have ho3:∀n,n≠f->n≠d->own' n=σ.own n:=fun n h1 h2=>by rw[hown'];simp[upd,h1,h2]);(have hl:∀n,(loc n).oneCell'=true->loc' n=loc n:=fun n hn=>by by_cases e:n=f;{subst e;rw[m1,ZoN]at hn;cases hn};{exact hf2 n e});(have hhas:∀n x,(own' n).has (loc' n) x->(n≠d/\n≠f/\(σ.own n).has (loc n) x)\/(n=f/\x=b):=by intro n x h;by_cases e:n=f;{subst e;rw[ho1,hf1]at h;simp only[vbox,Ob.has,Zan,Yk]at h;exact .inr ⟨rfl,h⟩};{by_cases e2:n=d;{subst e2;rw[ho2]at h;exact(Ob.has_none _ _ h).elim};{rw[ho3 n e e2,hf2 n e]at h;exact .inl ⟨e2,e,h⟩}});refine⟨loc',hg.reown (fun n hn=>hf2 n fun e=>ZjT hg m1 (e▸hn)) (fun s=>?_) (fun x y hm=>?_) (fun x ⟨n,h⟩=>?_) (fun n=>?_) (fun n m x hnm h1 h2=>?_)⟩;{by_cases e:s=t;{subst e;simp only[upd,YJ,RepA,RepC];exact⟨q2,rfl⟩};{simp only[upd,e,YA];exact RepA.reloc hl (hg.slots s)}};{obtain⟨n,h⟩:=hm;by_cases e:n=f;{subst e;rw[ho1,hf1]at h;simp only[vbox,Ob.mut,Zan,Yk]at h;subst h;exact⟨d,by rw[hod,k1];rfl⟩};{by_cases e2:n=d;{subst e2;rw[ho2]at h;exact(Ob.has_none _ _ (Ob.has_of_mut h)).elim};{rw[ho3 n e e2,hf2 n e]at h;exact⟨n,h⟩}}};{rcases hhas n x h with⟨_,_,h'⟩|⟨_,rfl⟩;{exact⟨n,h'⟩};{exact⟨d,(hbd _).2 rfl⟩}};{by_cases e:n=f;{subst e;rw[ho1,hf1];refine⟨ZC8 _ _ _,[b],rfl,⟨rfl,rfl,hcell⟩,fun x hx=>?_⟩;simp only[Yk]at hx;subst hx;exact⟨k3.lt,k2⟩};{by_cases e2:n=d;{subst e2;rw[ho2];trivial};{rw[ho3 n e e2,hf2 n e];exact ObOk.reloc hl (hg.objs n)}}};{rcases hhas n x h1 with⟨n1,n2,h1'⟩|⟨a1,a2⟩<;>rcases hhas m x h2 with⟨m1',m2',h2'⟩|⟨b1,b2⟩;{exact hg.disj n m x hnm h1' h2'};{exact hg.disj n d x n1 h1' ((hbd x).2 b2.symm)};{exact hg.disj m d x m1' h2' ((hbd x).2 a2.symm)};{exact hnm (a1.trans b1.symm)}}
variable{K:St->Prop}{is:List Ins}{Q:Exit->St->Prop}
def Znh{c:VC}(f d t:Nat){x:AV}{v:Value}(hfd:f≠d)(hof:σ.own f=empO)(hod:σ.own d= .box [x])(ht:σ.env t= .bp d 0)(hx:∀w M loc u,RepA w M loc x u->u=v)(h:∀b:Nat,WV C c Q ⟨upd σ.env t (.c (.raw (Zf5 b 0))),upd (upd σ.own d .none) f (vbox v b)⟩):WV C c Q σ:=
 ZAF (τ:=Nat) (S:=fun b=>⟨upd σ.env t (.c (.raw (Zf5 b 0))),upd (upd σ.own d .none) f (vbox v b)⟩) (p:=fun _=>True)
  (fun a w hg=>by obtain⟨b,hb⟩:=Zuq hfd hof hod ht hx a w hg;exact⟨b,trivial,hb⟩) (fun b _=>h b)
end
def fnV(f:FuncId)(cs:List Value):Value:=.func (.func f) #[] cs.toArray
def Zlq{w:World}{M:Cells}{loc:Nat->Value}{f:FuncId}{u:Value}(h:RepA w M loc (.fn f []) u):u=fnV f []:=by simp only[RepA,RepAs]at h;obtain⟨l,rfl,rfl⟩:=h;rfl
def Zn2{w:World}{M:Cells}{loc:Nat->Value}{f:FuncId}{u x:Value}(h:RepA w M loc (.fn f [.c (.raw x)]) u):u=fnV f [x]:=by simp only[RepA,RepAs,RepC]at h;obtain⟨l,rfl,v,vs,rfl,⟨rfl,_⟩,rfl⟩:=h;rfl
def Zgz(w:World)(M:Cells)(loc:Nat->Value)(f:FuncId):RepA w M loc (.fn f []) (fnV f []):=by simp only[RepA,RepAs];exact⟨[],rfl,rfl⟩
def Zyf(w:World)(M:Cells)(loc:Nat->Value)(f:FuncId){x:Value}(hx:x.oneCell'=true):RepA w M loc (.fn f [.c (.raw x)]) (fnV f [x]):=by simp only[RepA,RepAs,RepC];exact⟨[x],rfl,x,[],rfl,⟨rfl,hx⟩,rfl⟩
def ZcB{C:Ctx}{v w:VC}{Q:Exit->St->Prop}{σ:St}(R:St->Prop)(h2:WV C v (Zaz R Q) σ)(h:∀σ',R σ'->WV C w Q σ'):WV C v (Zaz (WV C w Q) Q) σ:=h2.mono fun e σ' hq=>by cases e;{exact h _ hq};all_goals exact hq
def isI:TypeDesc->Bool
 |.interface _=>true
 |_=>false
def ZtQ{P:Program}{t:TypeId}(w:World)(ht:(P.underlying t).map isI=some true):(Op.equal t .nilIface .nilIface).run P w= .ok true w:=by(cases hu:P.underlying t with|none=>rw[hu]at ht;cases ht|some D=>rw[hu]at ht;simp only[YR,Ya]at ht;cases D<;>simp[isI]at ht;unfold Op.equal Op.maxDepth;rw[show(10000:Nat)=9999+1 from rfl];unfold Op.equalIn;simp[run_underlying hu])
def Zzo{P:Program}{σ:St}{K:St->Prop}{d:Option Nat}{t t':TypeId}{x:Operand}{x':X}(ht:(P.underlying t).map isI=some true)(hx:cX x=some x')(h1:(σ.val x').dg=true)(hv:(σ.val x').dv= .c (.raw .nilIface))(hK:K (σ.put d (.c (.bool true)))):
  Zcn P d (.raw (.binOp .eql t x (.const .nilIface) t')) K σ:=by refine Zbs (fun C loc a w o hP ho hg=>?_) hK;subst hP;have rx:=ZaJ hg hx h1;rw[hv]at rx;simp only[RepA,RepC]at rx;refine⟨.bool true,?_,by simp only[RepA,RepC]⟩;(have h2:(eqGuard .eql t x (.const .nilIface) .nilIface .nilIface).run C.P w= .ok () w:=by simp[eqGuard]);have h3:a.eval (.const .nilIface)= .nilIface:=rfl;simp[execOp,ho,rx.1,h3,h2,binOp,ZtQ w ht]
attribute [go_sem] smap vbox
end Go.V
namespace Go.V
section
variable{C:Ctx}{σ:St}{K:St->Prop}{is:List Ins}{Q:Exit->St->Prop}
def ZwM(n:Nat):(Builtin.zeroCells #[Value.int .i64 0] n).toList=List.replicate n (Value.int .i64 0):=by apply Ybo;{simp[Builtin.zeroCells]};{intro i h1 h2;simp only[Builtin.zeroCells,List.getElem_replicate,Array.getElem_toList,Array.getElem_map];simp[Nat.mod_one]}
def Zpr(w:World)(M:Cells)(loc:Nat->Value):∀n:Nat,RepAs w M loc (List.replicate n (.c (.int .i64 0))) (List.replicate n (Value.int .i64 0))
 |0=>by simp only[List.replicate_zero,RepAs]
 |n+1=>by simp only[YP,RepAs];exact⟨_,_,rfl,by simp only[RepA,RepC],Zpr w M loc n⟩
def Zi1{P:Program}{σ:St}{d:Option Nat}{dT e:TypeId}{x:Operand}{x':X}{n off len cap:Nat}{cs:List AV}{K:St->Prop}(ht:P.underlying dT=some (.slice e))(hz:(P.info? e).bind (·.zero)=some (.int .i64 0))(hx:cX x=some x')(h1:(σ.val x').dg=true)(hv:(σ.val x').dv= .vw 1 n off len cap)(hlen:len≠0)(hown:σ.own n= .box cs)(hfit:off+len<=cs.length)(hK:K (St.put ⟨σ.env,upd σ.own n (.box (splice cs off (List.replicate len (.c (.int .i64 0)))))⟩ d (.tup []))):Zcn P d (.raw (.call {callee:=.builtin .clear,args:=#[x],argTypes:=#[dT]})) K σ:=by refine Zb1 fun C loc a w o hP ho hod hdl hg=>?_;subst hP;have rx:=ZaJ hg hx h1;rw[hv]at rx;simp only[RepA]at rx;obtain⟨b,o',hloc,hxe,hoo,hlc,hcm⟩:=rx;have ho':o'=off:=hoo Kc;subst ho';have hob:=hg.objs n;rw[hown]at hob;obtain⟨b',l,e',hlb,hB,hh,hrs⟩:=hob;rw[hloc]at hlb;simp only[Value.pointer.injEq,Ya,Addr.mk.injEq,Ya2]at hlb;subst hlb;have hll:=hrs.length;obtain⟨us,hus⟩:∃us,us=List.replicate len (Value.int .i64 0):=⟨_,rfl⟩;(have hul:us.length=len:=by rw[hus,Ybe]);have hst:=Zdm C.P b o' e' us 0 l w hh (by rw[hul];omega) (fun v hv=>by rw[hus]at hv;rw[List.eq_of_mem_replicate hv];rfl);simp only[Yad]at hst;(have hrow:(l.take o'++us++l.drop (o'+us.length)).toArray=(splice l o' us).toArray:=by simp[splice]);rw[hrow]at hst;have hry:=Zpr w (MM C σ.own loc) loc len;rw[<-hus]at hry;(have hfit2:o'+us.length<=l.length:=by rw[hul];omega);have hG:=hg.setBox (off:=o') hown hloc hB hh hfit2 hrs hry;refine⟨_,⟨w.setRow b (splice l o' us).toArray,loc,.inl ⟨.tuple #[],?_,?_⟩⟩,hK⟩;{(cases hq:C.P.info? e with|none=>simp[hq]at hz|some i=>(have hi:i.zero=some (.int .i64 0):=by simpa [hq]using hz);have hzr:=ZwM len;rw[<-hus]at hzr;(have hcp:(Builtin.clear_ #[dT] o.type #[.slice (some ⟨b,o',none⟩) len cap]).run C.P w= .ok (.tuple #[]) (w.setRow b (splice l o' us).toArray):=by(cases len with|zero=>exact absurd rfl hlen|succ m=>have hcl:(Value.int IntKind.i64 0).cells= #[Value.int .i64 0]:=rfl;simp[Builtin.clear_,run_underlying ht,zeroValue,typeInfo,hq,hi,hcl,hzr,hst]));simp[execOp,ho,resolve,invoke,builtin,hxe,hcp])};{rw[hod];exact hG.put hdl (by simp only[RepA,RepAs];exact⟨_,rfl,rfl⟩)}
def ZqH{P:Program}{σ:St}{d:Option Nat}{dT e:TypeId}{x:Operand}{x':X}{sz:Nat}{K:St->Prop}(ht:P.underlying dT=some (.slice e))(hx:cX x=some x')(h1:(σ.val x').dg=true)(hv:(σ.val x').dv= .c (.sl sz []))(hK:K (σ.put d (.tup []))):
  Zcn P d (.raw (.call {callee:=.builtin .clear,args:=#[x],argTypes:=#[dT]})) K σ:=by refine Zbs (fun C loc a w o hP ho hg=>?_) hK;subst hP;have rx:=ZaJ hg hx h1;rw[hv]at rx;simp only[RepA,RepC]at rx;obtain⟨A,cap,hxe,_⟩:=rx;refine⟨.tuple #[],?_,by simp only[RepA,RepAs];exact⟨_,rfl,rfl⟩⟩;(have hcp:(Builtin.clear_ #[dT] o.type #[.slice A 0 cap]).run C.P w= .ok (.tuple #[]) w:=by cases A<;>simp[Builtin.clear_,run_underlying ht]);simp[execOp,ho,resolve,invoke,builtin,hxe,hcp]
end
end Go.V
namespace Go.V
inductive HT where
 |l (ks:List Nat)
 |b (ks:List Nat) (ts:List HT)
def HT.put(is:List Ins):List Nat->Option OT->Option OT
 |[],t=>t
 |k::ks,t=>OT.consAt is k (HT.put is ks t)
mutual
def HT.ot(is:List Ins):HT->Option OT
 |.l ks=>HT.put is ks (some .nil)
 |.b ks ts=>HT.put is ks ((HT.ots is ts).map .br)
def HT.ots(is:List Ins):List HT->Option (List OT)
 |[]=>some []
 |t::ts=>match HT.ot is t,HT.ots is ts with|some a,some r=>some (a::r)|_,_=>none
end
abbrev HR:=List (Nat×Nat×List HT)
def ZnC(m:List Nat)(q:Nat):Nat->List Ins->List Ins
 |_,[]=>[]
 |k,i::is=> {vwI m i with s:=q.testBit k} ::ZnC m q (k+1) is
def ZGb(is:List Ins):List HT->Option VC
 |[]=>some (.dops is)
 |t::_=>match HT.ot is t with|some o=>(match o.list? with|some r=>some (.dops r)|none=>some (.drw o))|none=>none
def cIH(P:Program)(o:Op):Option I:=
 match o with
 |.binOp op t x y _=>
  match P.underlying t,op with
  |some (.struct _),.eql=>do some (.seq false (offsB P t) (<-cX x) (<-cX y))
  |some (.struct _),.neq=>do some (.seq true (offsB P t) (<-cX x) (<-cX y))
  |_,_=>cI P o
 |_=>cI P o
def ZGl(P:Program)(N:Nat)(ops:Array Oper)(o:Oper):Option Ins:=
 match cIH P o.op,ZhY ops o with
 |some i,some g=>if(o.dst.all (·<N))then some ⟨o.dst,i,g,true⟩else none
 |_,_=>none
def ZkU(P:Program)(N:Nat)(m:List Nat)(hs:HR):Code->Option VC
 |.skip=>some .skip
 |.region id ops draw=>
  match ops.toList.mapM (ZGl P N ops)with
  |some is=>if draw then(match hs.find? (·.1==id)with|some (_,q,l)=>ZGb (ZnC m q 0 is) l|none=>ZGb (ZnC m 0 0 is) [])else some (.ops (is.map (vwI m)))
  |none=>some .bad
 |.seq a b=>match ZkU P N m hs a,ZkU P N m hs b with|some x,some y=>some (.seq x y)|_,_=>none
 |.cond x a b=>match cX x,ZkU P N m hs a,ZkU P N m hs b with|some x,some a,some b=>some (.cond x a b)|_,_,_=>none
 |.block id a=>(ZkU P N m hs a).map (.block id)
 |.loop a=>(ZkU P N m hs a).map .loop
 |.exit id=>some (.exit id)
 |.ret=>some .ret
 |.rangeFunc g ps a b=>match cX g,ZkU P N m hs a,ZkU P N m hs b with|some g,some a,some b=>some (.rng g ps.toList a b)|_,_,_=>none
 |_=>some .bad
def ZA2(P:Program)(m:List Nat)(hs:HR)(f:FuncId):Option FC:=
 match P.funcs[f]? with
 |some fn=>
  match fn.body with
  |some c=>match ZkU P fn.ntmps m hs c,fn.results.toList.mapM (Zx2 P)with
   |some vc,some rs=>some ⟨fn.params.size+fn.nfree,fn.ntmps,rs,vc⟩
   |_,_=>none
  |none=>none
 |none=>none
def u8n(n:Nat)(h:n<2^8):UInt8.ofBitVec (BitVec.ofFin ⟨n,h⟩)=UInt8.ofNat n:=by rw[UInt8.ofNat,BitVec.ofNat];congr;simp;omega
structure Ec(P:Program)(m:List Nat)(f:FuncId) where
 v:FC
 h:compM P m f=some v
abbrev ec{P:Program}{m:List Nat}{f:FuncId}{v:FC}(q:HR:=[])(_:ZA2 P m q f=some v:=by conv=>(lhs;reduce;try simp only[Int.reduceOfNat,Int.reduceNegSucc,u8n,UInt8.reduceOfNat]))(h:compM P m f=some v:=by kernel_rfl):Ec P m f:=⟨v,h⟩
def VC.l:VC->VC
 |.seq a _|.cond _ a _|.block _ a|.loop a|.rng _ _ a _=>a
 |x=>x
def VC.r:VC->VC
 |.seq _ b|.cond _ _ b|.rng _ _ _ b=>b
 |x=>x
def VC.i:VC->List Ins
 |.ops l|.dops l=>l
 |_=>[]
def VC.o:VC->OT
 |.drw t=>t
 |_=> .nil
def Zov{C:Ctx}{c c':VC}{Q:Exit->St->Prop}{σ:St}(h:WV C c' Q σ)(_:c=c':=by conv=>(lhs;reduce;try simp only[Int.reduceOfNat,Int.reduceNegSucc,u8n,UInt8.reduceOfNat])):WV C c Q σ:=by subst c';exact h
end Go.V
