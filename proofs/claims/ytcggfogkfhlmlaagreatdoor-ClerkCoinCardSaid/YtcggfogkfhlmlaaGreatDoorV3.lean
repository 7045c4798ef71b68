/-
  An abstract machine over small instructions, sound over the model; no condition.
-/
import Derived.Test.YtcggfogkfhlmlaaGreatDoorV2
import Derived.WideKeyEntry
import Derived.StringKeys
set_option linter.unusedVariables false
set_option linter.unusedSimpArgs false
/-
 Such maps:made,looked into,written.
-/
namespace Go.V
def Zb0 (l:GL) (k:List Int):Option (List Int):=(l.find? fun p=>p.1==k).map (·.2)
def Zoh (l:GL) (k v:List Int):GL:=if (Zb0 l k).isSome=true then l.map (fun p=>if p.1=k then (k,v) else p) else l++[(k,v)]
theorem ZuU {ka va:Bool} {l:GL} {es:List MapEntry} (h:es.map (fun e=>(e.key,e.val))=ZbB ka va l) {j:Nat} {e:MapEntry} (he:es[j]? =some e):∃p,l[j]? =some p∧e.key=Za2 ka p.1∧e.val=Za2 va p.2:=by
 have h1:(es.map (fun e=>(e.key,e.val)))[j]? =some (e.key,e.val):=by rw[List.getElem?_map,he];rfl
 rw[h] at h1;unfold ZbB at h1;rw[List.getElem?_map] at h1;obtain ⟨p,hp,h2⟩:=Option.map_eq_some_iff.1 h1;simp only[Prod.mk.injEq] at h2;exact ⟨p,hp,h2.1.symm,h2.2.symm⟩
theorem ZuV {ka va:Bool} {l:GL} {es:List MapEntry} (h:es.map (fun e=>(e.key,e.val))=ZbB ka va l) {p:List Int×List Int} (hp:p∈l):∃e∈es,e.key=Za2 ka p.1∧e.val=Za2 va p.2:=by
 have h1:(Za2 ka p.1,Za2 va p.2)∈ZbB ka va l:=List.mem_map.2 ⟨p,hp,rfl⟩;rw[←h] at h1;obtain ⟨e,he,h2⟩:=List.mem_map.1 h1;simp only[Prod.mk.injEq] at h2;exact ⟨e,he,h2.1,h2.2⟩
theorem Zkc {ka va:Bool} {l:GL} {es:List MapEntry} (h:es.map (fun e=>(e.key,e.val))=ZbB ka va l) (hn:(es.map (·.key)).Nodup):(l.map fun p=>Za2 ka p.1).Nodup:=by
 have:es.map (·.key)=l.map fun p=>Za2 ka p.1:=by
  have h2:=congrArg (List.map Prod.fst) h;unfold ZbB at h2;rw[List.map_map,List.map_map] at h2;exact h2
 rwa [←this]
theorem Zen {ka va:Bool} {l:GL} {es:List MapEntry} {k:List Int} (h:es.map (fun e=>(e.key,e.val))=ZbB ka va l) (hno:∀e∈es,e.key≠Za2 ka k):Zb0 l k=none:=by
 unfold Zb0;rw[List.find?_eq_none.2 fun p hp hk=> ?_]
 ·rfl
 ·obtain ⟨e,he,h1,_⟩:=ZuV h hp;have:p.1=k:=by simpa using hk
  exact hno e he (by rw[h1,this])
theorem Zeo {ka va:Bool} {l:GL} {es:List MapEntry} {k:List Int} (h:es.map (fun e=>(e.key,e.val))=ZbB ka va l) (hn:(es.map (·.key)).Nodup) (hinj:∀p∈l,Za2 ka p.1=Za2 ka k→p.1=k) {j:Nat} {e:MapEntry} (he:es[j]? =some e) (hk:e.key=Za2 ka k):
  ∃v,l[j]? =some (k,v)∧Zb0 l k=some v∧e.val=Za2 va v:=by
 obtain ⟨p,hp,h1,h2⟩:=ZuU h he;have hpm:=List.mem_of_getElem? hp;have hpk:p.1=k:=hinj p hpm (h1.symm.trans hk);refine ⟨p.2,by rw[hp,←hpk],?_,h2⟩;unfold Zb0;have hs:(l.find? fun p=>p.1==k).isSome=true:=by
  rw[List.find?_isSome];exact ⟨p,hpm,by simpa using hpk⟩
 obtain ⟨q,hq⟩:=Option.isSome_iff_exists.1 hs;have hqm:=List.mem_of_find?_eq_some hq;have hqk:q.1=k:=by simpa using List.find?_some hq
 rw[hq];have hnd:=Zkc h hn;obtain ⟨i,hi,hqi⟩:=List.getElem_of_mem hqm;obtain ⟨hj,hpj⟩:=List.getElem?_eq_some_iff.1 hp;have hij:i=j:=by
  have e1:(l.map fun p=>Za2 ka p.1)[i]'(by simpa using hi)=(l.map fun p=>Za2 ka p.1)[j]'(by simpa using hj):=by
   simp only[List.getElem_map];rw[hqi,hpj,hqk,hpk]
  exact (List.getElem_inj hnd).1 e1
 subst hij;rw[←hqi,hpj];rfl
theorem Zka {l:GL} {k v:List Int} (h:Zb0 l k=none):Zoh l k v=l++[(k,v)]:=by unfold Zoh;rw[h];rfl
theorem Zo3 {l:GL} {k v u:List Int} (h:Zb0 l k=some u):Zoh l k v=l.map (fun p=>if p.1=k then (k,v) else p):=by unfold Zoh;rw[h];rfl
theorem Zjs {ka va:Bool} {l:GL} {es:Array MapEntry} {k v:List Int} (h:es.toList.map (fun e=>(e.key,e.val))=ZbB ka va l) (hn:(es.toList.map (·.key)).Nodup) (hinj:∀p∈l,Za2 ka p.1=Za2 ka k→p.1=k) {j:Nat} {e:MapEntry} (he:es.toList[j]? =some e) (hk:e.key=Za2 ka k):
  (es.modify j fun e=> {e with key:=Za2 ka k,val:=Za2 va v}).toList.map (fun e=>(e.key,e.val))=ZbB ka va (Zoh l k v):=by
 obtain ⟨u,hu,hlk,_⟩:=Zeo h hn hinj he hk;rw[Zo3 hlk];have hnd:=Zkc h hn;refine List.ext_getElem? fun q=> ?_
 have e1:(es.modify j fun e=> {e with key:=Za2 ka k,val:=Za2 va v}).toList[q]? =if j=q then (es.toList[q]?).map (fun e=> {e with key:=Za2 ka k,val:=Za2 va v}) else es.toList[q]?:=by
  rw[Array.getElem?_toList,Array.getElem?_modify,Array.getElem?_toList]
 unfold ZbB at h⊢;rw[List.getElem?_map,e1,List.getElem?_map,List.getElem?_map];have h2:(es.toList.map (fun e=>(e.key,e.val)))[q]? =(l.map fun p=>(Za2 ka p.1,Za2 va p.2))[q]?:=by rw[h]
 rw[List.getElem?_map,List.getElem?_map] at h2;by_cases hjq:j=q
 ·subst hjq;rw[if_pos rfl,he,hu];simp
 ·rw[if_neg hjq,h2];cases hq:l[q]? with
  |none=>rfl
  |some p=>
   have hpk:p.1≠k:=by
    intro hpk;obtain ⟨hq1,hq2⟩:=List.getElem?_eq_some_iff.1 hq;obtain ⟨hj1,hj2⟩:=List.getElem?_eq_some_iff.1 hu;have e2:(l.map fun p=>Za2 ka p.1)[j]'(by simpa using hj1)=(l.map fun p=>Za2 ka p.1)[q]'(by simpa using hq1):=by
     simp only[List.getElem_map];rw[hj2,hq2,hpk]
    exact hjq ((List.getElem_inj hnd).1 e2)
   simp[hpk]
theorem Zfb {P:Program} {w:World} {e:TypeId} {z:Value} (hz:(P.info? e).bind (·.zero)=some z):(zeroValue e).run P w= .ok z w:=by
 cases hinf:P.info? e with
 |none=>simp[hinf] at hz
 |some inf=>
  simp only[hinf,Option.bind_some] at hz;simp[zeroValue,typeInfo,hinf,hz]
section
variable {P:Program} {σ:St} {K:St→Prop}
theorem ZnD {d:Nat} {t:TypeId} (ka va:Bool) (hn:(σ.own d).isNone=true) (hK:∀b,K (St.new σ d (.c (.raw (.map (some b)))) (gmap ka va [] b))):Zcq P (some d) (.raw (.makeMap t none)) K σ:=by
 refine Zb6 fun C loc a w o hP ho hod hdl hg=> ?_
 have hd:d<C.N:=by simpa using hdl
 refine ⟨_,⟨w.alloc (.map #[] 0),upd loc d (Zcu [w.heap.size]),.inl ⟨.map (some w.heap.size),?_,?_⟩⟩,hK w.heap.size⟩
 ·have h1:(Instr.makeMap t none).run C.P w= .ok (.map (some w.heap.size)) (w.alloc (.map #[] 0)):=rfl;simp[execOp,ho,h1]
 ·rw[hod];refine hg.newblock hd hn (fun b hb=> ?_) (fun M loc' hk hl hv=> ?_) (fun M loc' hv=> ?_)
  ·simp only[gmap,Ob.has,Zan,List.mem_singleton] at hb;exact hb
  ·refine ⟨ZmC _ _ _ _ _,[w.heap.size],rfl,⟨rfl,rfl,#[],0,by rw[Zbf],MapKept.stamped_empty 0,rfl⟩,fun b hb=> ?_⟩;simp only[List.mem_singleton] at hb;subst hb;exact ⟨by simp,.inl hg.fr.size⟩
  ·simp only[RepA,RepC];exact ⟨trivial,rfl⟩
theorem ZiF {d:Option Nat} {t k e:TypeId} {x i:Operand} {x' i':X} {n b:Nat} {ka va:Bool} {l:GL} {key zs:List Int} {Kp:Value→Prop} (ht:P.underlying t=some (.map k e)) (hkl:KLaw P k Kp) (hz:(P.info? e).bind (·.zero)=some (Za2 va zs))
  (hx:cX x=some x') (hi:cX i=some i') (h1:(σ.val x').dg=true) (h2:(σ.val i').dg=true) (hv:(σ.val x').dv= .c (.raw (.map (some b)))) (hj:(σ.val i').dv=kav ka key) (hown:σ.own n=gmap ka va l b)
  (hkey:Kp (Za2 ka key)) (hkeys:∀p∈l,Kp (Za2 ka p.1)) (hinj:∀p∈l,Za2 ka p.1=Za2 ka key→p.1=key)
  (hK:K (σ.put d (.tup [kav va ((Zb0 l key).getD zs),.c (.bool (Zb0 l key).isSome)]))):Zcq P d (.raw (.lookup t x i true)) K σ:=by
 refine Zbr (fun C loc a w o hP ho hg=> ?_) hK;subst hP;have rx:=ZaN hg hx h1;have ri:=ZaN hg hi h2;rw[hv] at rx;rw[hj,Zb5] at ri;simp only[RepA,RepC] at rx;have hob:=hg.objs n;rw[hown] at hob;obtain ⟨_,L,hl,⟨_,rfl,es,clock,hb,hst,hes⟩,hA⟩:=hob;have hks:∀e∈es.toList,Kp e.key:=fun e he=>by
  have hm:(e.key,e.val)∈es.toList.map (fun e=>(e.key,e.val)):=List.mem_map.2 ⟨e,he,rfl⟩;rw[hes] at hm;obtain ⟨p,hp,h3⟩:=List.mem_map.1 hm;simp only[Prod.mk.injEq] at h3;rw[←h3.1];exact hkeys p hp
 refine ⟨.tuple #[Za2 va ((Zb0 l key).getD zs),.bool (Zb0 l key).isSome],?_,?_⟩
 ·rcases hkl.find w hkey es.toList hks with ⟨f1,f2⟩|⟨j,e0,f1,f2,f3⟩
  ·rw[Zen hes f2];simp[execOp,ho,rx.1,ri,Instr.lookup,run_underlying ht,MapKept.run_getObj_map hb,hkl.check w _ hkey,f1,Zfb hz]
  ·obtain ⟨v,g1,g2,g3⟩:=Zeo hes hst.2.2 hinj f2 f3;rw[g2];simp[execOp,ho,rx.1,ri,Instr.lookup,run_underlying ht,MapKept.run_getObj_map hb,hkl.check w _ hkey,f1,g3]
 ·simp only[RepA];refine ⟨[_,_],rfl,?_⟩;simp only[RepAs];exact ⟨_,_,rfl,Zb5.2 rfl,_,_,rfl,by simp only[RepA,RepC],rfl⟩
theorem Zfa {op:Op} {t k e:TypeId} {x i v:Operand} {x' i' v':X} {n b:Nat} {ka va:Bool} {l:GL} {key val:List Int} {Kp:Value→Prop} (hop:op= .mapUpdate t x i v∨op= .insert t x i v) (ht:P.underlying t=some (.map k e)) (hkl:KLaw P k Kp)
  (hx:cX x=some x') (hi:cX i=some i') (hvx:cX v=some v') (h1:(σ.val x').dg=true) (h2:(σ.val i').dg=true) (h3:(σ.val v').dg=true) (hv:(σ.val x').dv= .c (.raw (.map (some b)))) (hj:(σ.val i').dv=kav ka key) (hw:(σ.val v').dv=kav va val) (hown:σ.own n=gmap ka va l b)
  (hkey:Kp (Za2 ka key)) (hkeys:∀p∈l,Kp (Za2 ka p.1)) (hinj:∀p∈l,Za2 ka p.1=Za2 ka key→p.1=key)
  (hK:K ⟨σ.env,upd σ.own n (gmap ka va (Zoh l key val) b)⟩):Zcq P none (.raw op) K σ:=by
 refine Zb6 fun C loc a w o hP ho hod hdl hg=> ?_
 subst hP;have rx:=ZaN hg hx h1;have ri:=ZaN hg hi h2;have rv:=ZaN hg hvx h3;rw[hv] at rx;rw[hj,Zb5] at ri;rw[hw,Zb5] at rv;simp only[RepA,RepC] at rx;have hob:=hg.objs n;rw[hown] at hob;obtain ⟨_,L,hl,⟨_,rfl,es,clock,hb,hst,hes⟩,hA⟩:=hob;have hks:∀e∈es.toList,Kp e.key:=fun e he=>by
  have hm:(e.key,e.val)∈es.toList.map (fun e=>(e.key,e.val)):=List.mem_map.2 ⟨e,he,rfl⟩;rw[hes] at hm;obtain ⟨p,hp,h3⟩:=List.mem_map.1 hm;simp only[Prod.mk.injEq] at h3;rw[←h3.1];exact hkeys p hp
 have hrun:∃es' clock',(Instr.mapUpdate t (.map (some b)) (Za2 ka key) (Za2 va val)).run C.P w= .ok () {w with heap:=w.heap.setIfInBounds b (.map es' clock')} ∧MapKept.Stamped es' clock'∧es'.toList.map (fun e=>(e.key,e.val))=ZbB ka va (Zoh l key val):=by
  rcases hkl.find w hkey es.toList hks with ⟨f1,f2⟩|⟨j,e0,f1,f2,f3⟩
  ·refine ⟨es.push {key:=Za2 ka key,val:=Za2 va val,born:=clock},clock+1,?_,MapKept.stamped_push hst f2,?_⟩
   ·simp[Instr.mapUpdate,run_underlying ht,MapKept.run_getObj_map hb,hkl.check w _ hkey,f1,MapKept.run_setObj_map _ hb]
   ·rw[Zka (Zen hes f2),Array.toList_push,List.map_append,hes];unfold ZbB;rw[List.map_append];rfl
  ·have hj':es[j]? =some e0:=by simpa using f2
   refine ⟨es.modify j fun e=> {e with key:=Za2 ka key,val:=Za2 va val},clock,?_,MapKept.stamped_modify hst j _ (fun e _=>rfl) (fun e _ he=> ?_),Zjs hes hst.2.2 hinj f2 f3⟩
   ·simp[Instr.mapUpdate,run_underlying ht,MapKept.run_getObj_map hb,hkl.check w _ hkey,f1,hj',f3,hkl.stays w hkey,MapKept.run_setObj_map _ hb]
   ·rw[hj'] at he;rw[←Option.some.inj he,f3]
 obtain ⟨es',clock',hr1,hr2,hr3⟩:=hrun;refine ⟨_,⟨{w with heap:=w.heap.setIfInBounds b (.map es' clock')},loc,.inr ⟨?_,?_⟩⟩,hK⟩
 ·rcases hop with rfl|rfl<;>simp[execOp,ho,rx.1,ri,rv,hr1]
 ·rw[hod];refine hg.setGuest (g:=gmG ka va l b) hown hl (by simp) hb (fun x h=>by cases h) (ZmC _ _ _ _ _) fun M=>⟨rfl,rfl,es',clock',(MapKept.heap_set hb).1,hr2,hr3⟩
end
end Go.V

/-
 Ranges over such maps:in whatever order.
-/
namespace Go.V
def gmE (es:Array MapEntry) (clock b:Nat):Gst:=⟨.bool false,fun rem L _ w=>rem=[]∧L=[b]∧w.heap[b]? =some (.map es clock)⟩
def mapE (es:Array MapEntry) (clock b:Nat):Ob:=.guest (gmE es clock b) []
def gIt (r b since:Nat) (seen:Array Nat) (last:Nat):Gst:=⟨.bool false,fun rem L _ w=>rem=[]∧L=[r]∧w.heap[r]? =some (.mapIter (some b) since seen last)⟩
def iterE (r b since:Nat) (seen:Array Nat) (last:Nat):Ob:=.guest (gIt r b since seen last) []
theorem ZuS (P:Program) (es:Array MapEntry) (clock b:Nat):(gmE es clock b).Ok P:=by
 refine ⟨rfl,?_,?_⟩
 ·rintro rem L M w M' w' ⟨h1,h2,h3⟩ hk hb hs;exact ⟨h1,h2,by rw[hb b (by rw[h2];simp)];exact h3⟩
 ·rintro args wins r rem L M w loc vs ⟨h1,_⟩;cases h1
theorem ZqD (P:Program) (r b since:Nat) (seen:Array Nat) (last:Nat):(gIt r b since seen last).Ok P:=by
 refine ⟨rfl,?_,?_⟩
 ·rintro rem L M w M' w' ⟨h1,h2,h3⟩ hk hb hs;exact ⟨h1,h2,by rw[hb r (by rw[h2];simp)];exact h3⟩
 ·rintro args wins r rem L M w loc vs ⟨h1,_⟩;cases h1
section
variable {C:Ctx} {σ:St} {loc:Nat→Value} {a:Act} {w:World}
theorem G.reguest (hg:G C σ loc a w) {n:Nat} {L:List Nat} {g g':Gst} {rem rem':List Ent} (hown:σ.own n= .guest g rem) (hloc:loc n=Zcu L) (hok:g'.Ok C.P) (hJ:∀M,g'.J rem' L M w):G C ⟨σ.env,upd σ.own n (.guest g' rem')⟩ loc a w:=by
 have hob:=hg.objs n;rw[hown] at hob;obtain ⟨_,L2,hl2,_,hA⟩:=hob;have hLL:∀x,x∈L↔x∈L2:=Zhc (hloc.symm.trans hl2);have hhas:∀(k b2:Nat),(upd σ.own n (.guest g' rem') k).has (loc k) b2↔(σ.own k).has (loc k) b2:=by
  intro k b2;by_cases hkn:k=n
  ·subst hkn;simp only[upd,if_true];rw[hown];exact Iff.rfl
  ·simp only[upd,hkn,if_false]
 have hmut:∀(k b2 o2:Nat),(upd σ.own n (.guest g' rem') k).mut (loc k) b2 o2↔(σ.own k).mut (loc k) b2 o2:=by
  intro k b2 o2;by_cases hkn:k=n
  ·subst hkn;simp only[upd,if_true];rw[hown];exact Iff.rfl
  ·simp only[upd,hkn,if_false]
 refine hg.reown (fun _ _=>rfl) hg.slots (fun b o ⟨m,h⟩=>⟨m,(hmut m b o).1 h⟩) (fun b ⟨m,h⟩=>⟨m,(hhas m b).1 h⟩) (fun m=> ?_) (fun m k b hmk h1 h2=>hg.disj m k b hmk ((hhas m b).1 h1) ((hhas k b).1 h2));by_cases hmn:m=n
 ·subst hmn;simp only[upd,if_true];exact ⟨hok,L,hloc,hJ _,fun b hb=>hA b ((hLL b).1 hb)⟩
 ·simp only[upd,hmn,if_false];exact hg.objs m
theorem ZlH {n b:Nat} {ka va:Bool} {l:GL} (hown:σ.own n=gmap ka va l b):∀a w,Gam C σ a w→∃x:Array MapEntry×Nat,(MapKept.Stamped x.1 x.2∧x.1.toList.map (fun e=>(e.key,e.val))=ZbB ka va l)∧Gam C ⟨σ.env,upd σ.own n (mapE x.1 x.2 b)⟩ a w:=by
 rintro a w ⟨loc,hg⟩;have hob:=hg.objs n;rw[hown] at hob;obtain ⟨_,L,hl,⟨_,rfl,es,clock,hb,hst,hes⟩,_⟩:=hob;exact ⟨(es,clock),⟨hst,hes⟩,loc,hg.reguest (g:=gmG ka va l b) hown hl (ZuS _ _ _ _) fun M=>⟨rfl,rfl,hb⟩⟩
theorem ZkP {n b:Nat} {ka va:Bool} {l:GL} {es:Array MapEntry} {clock:Nat} (hown:σ.own n=mapE es clock b) (hst:MapKept.Stamped es clock) (hes:es.toList.map (fun e=>(e.key,e.val))=ZbB ka va l):∀a w,Gam C σ a w→Gam C ⟨σ.env,upd σ.own n (gmap ka va l b)⟩ a w:=by
 rintro a w ⟨loc,hg⟩;have hob:=hg.objs n;rw[hown] at hob;obtain ⟨_,L,hl,⟨_,rfl,hb⟩,_⟩:=hob;exact ⟨loc,hg.reguest (g:=gmE es clock b) hown hl (ZmC _ _ _ _ _) fun M=>⟨rfl,rfl,es,clock,hb,hst,hes⟩⟩
end
section
variable {C:Ctx} {σ:St} {K:St→Prop} {is:List Ins} {Q:Exit→St→Prop}
theorem Zos {v:VC} (n:Nat) {b:Nat} {ka va:Bool} {l:GL} (hown:σ.own n=gmap ka va l b) (h:∀es clock,MapKept.Stamped es clock→es.toList.map (fun e=>(e.key,e.val))=ZbB ka va l→WV C v Q ⟨σ.env,upd σ.own n (mapE es clock b)⟩):WV C v Q σ:=
 Zun (ZlH hown) fun x hx=>h x.1 x.2 hx.1 hx.2
theorem ZlT {v:VC} (n:Nat) {b:Nat} (ka va:Bool) (l:GL) {es:Array MapEntry} {clock:Nat} (hown:σ.own n=mapE es clock b) (hst:MapKept.Stamped es clock) (hes:es.toList.map (fun e=>(e.key,e.val))=ZbB ka va l) (h:WV C v Q ⟨σ.env,upd σ.own n (gmap ka va l b)⟩):WV C v Q σ:=
 Zg1 (ZkP hown hst hes) h
end
section
variable {P:Program} {σ:St} {K:St→Prop}
theorem Zls {d:Nat} {t k e:TypeId} {x:Operand} {x':X} {n b clock:Nat} {es:Array MapEntry} (ht:P.underlying t=some (.map k e)) (hx:cX x=some x') (h1:(σ.val x').dg=true) (hv:(σ.val x').dv= .c (.raw (.map (some b)))) (hown:σ.own n=mapE es clock b) (hn:(σ.own d).isNone=true)
  (hK:∀r,K (St.new σ d (.c (.raw (.pointer (some ⟨r,0,none⟩)))) (iterE r b clock #[] clock))):Zcq P (some d) (.raw (.range t x)) K σ:=by
 refine Zb6 fun C loc a w o hP ho hod hdl hg=> ?_
 subst hP;have hd:d<C.N:=by simpa using hdl
 have rx:=ZaN hg hx h1;rw[hv] at rx;simp only[RepA,RepC] at rx;have hob:=hg.objs n;rw[hown] at hob;obtain ⟨_,L,hl,⟨_,rfl,hb⟩,_⟩:=hob;refine ⟨_,⟨w.alloc (.mapIter (some b) clock #[] clock),upd loc d (Zcu [w.heap.size]),.inl ⟨.pointer (some ⟨w.heap.size,0,none⟩),?_,?_⟩⟩,hK w.heap.size⟩
 ·have h:=run_range_map (P:=C.P) w t k e b es clock ht hb;simp[execOp,ho,rx.1,h]
 ·rw[hod];refine hg.newblock hd hn (fun b hb=> ?_) (fun M loc' hk hl hv=> ?_) (fun M loc' hv=> ?_)
  ·simp only[iterE,Ob.has,Zan,List.mem_singleton] at hb;exact hb
  ·refine ⟨ZqD _ _ _ _ _ _,[w.heap.size],rfl,⟨rfl,rfl,by rw[Zbf]⟩,fun b hb=> ?_⟩;simp only[List.mem_singleton] at hb;subst hb;exact ⟨by simp,.inl hg.fr.size⟩
  ·simp only[RepA,RepC];exact ⟨trivial,rfl⟩
theorem ZnE {d:Option Nat} {x:Operand} {x':X} {n m b r since last clock:Nat} {seen:Array Nat} {es:Array MapEntry} {ka va:Bool} {l:GL} (hx:cX x=some x') (h1:(σ.val x').dg=true) (hv:(σ.val x').dv= .c (.raw (.pointer (some ⟨r,0,none⟩)))) (hown:σ.own n=mapE es clock b)
  (hit:σ.own m=iterE r b since seen last) (ZqG:∀x∈es.toList,x.born<since) (hsl:since≤last) (hes:es.toList.map (fun e=>(e.key,e.val))=ZbB ka va l)
  (hK0:(leftOf es seen).size=0→K (σ.put d (.tup [.c (.bool false)])))
  (hK1:∀e k v,e∈(leftOf es seen).toList→(k,v)∈l→e.key=Za2 ka k→e.val=Za2 va v→K (St.put ⟨σ.env,upd σ.own m (iterE r b since (seen.push e.born) clock)⟩ d (.tup [.c (.bool true),kav ka k,kav va v]))):Zcq P d (.raw (.next x false)) K σ:=by
 refine Zb6 fun C loc a w o hP ho hod hdl hg=> ?_
 subst hP;have rx:=ZaN hg hx h1;rw[hv] at rx;simp only[RepA,RepC] at rx;have hob:=hg.objs n;rw[hown] at hob;obtain ⟨_,L,hl,⟨_,rfl,hb⟩,_⟩:=hob;have hob2:=hg.objs m;rw[hit] at hob2;obtain ⟨_,L2,hl2,⟨_,rfl,hr⟩,_⟩:=hob2;rcases run_next_at (P:=C.P) w o.type r b since last seen es clock hr hb ZqG hsl with ⟨k1,k2⟩|⟨e,he,w1,hw1,k2⟩
 ·refine ⟨_,⟨w,loc,.inl ⟨.tuple #[.bool false],by simp[execOp,ho,rx.1,k2],?_⟩⟩,hK0 k1⟩;rw[hod];refine hg.put hdl ?_;simp only[RepA];exact ⟨[_],rfl,by simp only[RepAs,RepA,RepC];exact ⟨_,_,rfl,rfl,rfl⟩⟩
 ·have hem:e∈es.toList:=by
   unfold leftOf at he;simp at he;simpa using he.1
  have hpm:(e.key,e.val)∈ZbB ka va l:=by rw[←hes];exact List.mem_map.2 ⟨e,hem,rfl⟩
  obtain ⟨⟨k,v⟩,hkv,hkv2⟩:=List.mem_map.1 hpm;simp only[Prod.mk.injEq] at hkv2;have hg1:G C σ loc a w1:=by rcases hw1 with rfl|rfl;exact hg;exact hg.drew
  have hr1:w1.heap[r]? =some (.mapIter (some b) since seen last):=by rcases hw1 with rfl|rfl<;>exact hr
  have hg2:=hg1.setGuest (g:=gIt r b since seen last) (g':=gIt r b since (seen.push e.born) clock) (rem':=[]) (o':=.mapIter (some b) since (seen.push e.born) clock) hit hl2 (by simp) hr1 (fun x h=>by cases h) (ZqD _ _ _ _ _ _) fun M=>⟨rfl,rfl,(MapKept.heap_set hr1).1⟩
  refine ⟨_,⟨_,loc,.inl ⟨.tuple #[.bool true,e.key,e.val],by simp only[execOp,ho,rx.1];simp[k2];rfl,?_⟩⟩,hK1 e k v he hkv hkv2.1.symm hkv2.2.symm⟩;rw[hod];refine hg2.put hdl ?_;simp only[RepA];exact ⟨[_,_,_],rfl,by simp only[RepAs];exact ⟨_,_,rfl,by simp only[RepA,RepC],_,_,rfl,Zb5.2 hkv2.1.symm,_,_,rfl,Zb5.2 hkv2.2.symm,rfl⟩⟩
theorem Zlr {d:Option Nat} {x:Operand} {x':X} {n m b r since clock:Nat} {seen:Array Nat} {es:Array MapEntry} {e:MapEntry} {ka va:Bool} {k v:List Int} (hx:cX x=some x') (h1:(σ.val x').dg=true) (hv:(σ.val x').dv= .c (.raw (.pointer (some ⟨r,0,none⟩)))) (hown:σ.own n=mapE es clock b)
  (hit:σ.own m=iterE r b since (seen.push e.born) clock) (hst:MapKept.Stamped es clock) (he:e∈es.toList) (hk:e.key=Za2 ka k) (hvv:e.val=Za2 va v) (hK:K (σ.put d (.tup [kav ka k,kav va v]))):Zcq P d (.raw (.entry x)) K σ:=by
 refine Zbr (fun C loc a w o hP ho hg=> ?_) hK;subst hP;have rx:=ZaN hg hx h1;rw[hv] at rx;simp only[RepA,RepC] at rx;have hob:=hg.objs n;rw[hown] at hob;obtain ⟨_,L,hl,⟨_,rfl,hb⟩,_⟩:=hob;have hob2:=hg.objs m;rw[hit] at hob2;obtain ⟨_,L2,hl2,⟨_,rfl,hr⟩,_⟩:=hob2;have h:=run_entry_at (P:=C.P) w r b since seen es clock e hr hb he hst.2.1;refine ⟨.tuple #[e.key,e.val],by simp[execOp,ho,rx.1,h],?_⟩;simp only[RepA];exact ⟨[_,_],rfl,by simp only[RepAs];exact ⟨_,_,rfl,Zb5.2 hk,_,_,rfl,Zb5.2 hvv,rfl⟩⟩
end
end Go.V

/-
 Slices of numbers,each one object and known by its address:made,read,cut,grown.
-/
namespace Go.V
section
variable {C:Ctx} {σ:St} {loc:Nat→Value} {a:Act} {w:World}
theorem G.turnGuest (hg:G C σ loc a w) {n:Nat} {L L':List Nat} {g g':Gst} {rem rem':List Ent} {w':World} (hown:σ.own n= .guest g rem) (hloc:loc n=Zcu L) (h1:w'.os=w.os) (h2:w'.tape=w.tape) (h3:w'.output=w.output)
  (hs:w.heap.size≤w'.heap.size) (hb:∀k,k<w.heap.size→k∉L→w'.heap[k]? =w.heap[k]?) (hd:∀D:Nat,w.heap[D]? =some markO→w'.heap[D]? =w.heap[D]?) (hL:∀k∈L',k<w'.heap.size∧(k∈L∨w.heap.size≤k))
  (hok:g'.Ok C.P) (hJ:∀M,g'.J rem' L' M w'):G C ⟨σ.env,upd σ.own n (.guest g' rem')⟩ (upd loc n (Zcu L')) a w':=by
 have hob:=hg.objs n;rw[hown] at hob;obtain ⟨_,L2,hl2,_,hA⟩:=hob;have hLL:∀x,x∈L↔x∈L2:=Zhc (hloc.symm.trans hl2);have hnp:¬C.pin n:=Zgy hg hloc;have hl:∀m,(loc m).oneCell'=true→upd loc n (Zcu L') m=loc m:=fun m hm=>by
  by_cases e:m=n
  ·subst e;rw[hloc,Zj2] at hm;cases hm
  ·simp[upd,e]
 have hnb:∀b,(σ.own n).has (loc n) b↔b∈L:=fun b=>by rw[hown,hloc];simp only[Ob.has,Zan]
 have hB:∀b∈L,C.A b:=fun b hb=>(hA b ((hLL b).1 hb)).2
 have hlt:∀b∈L,b<w.heap.size:=fun b hb=>(hA b ((hLL b).1 hb)).1
 have hfr:Fr C w':=⟨h1.trans hg.fr.os,h2.trans hg.fr.tape,h3.trans hg.fr.output,Nat.le_trans hg.fr.size hs,fun k hk hx => by
  rw[hb k (Nat.lt_of_lt_of_le hk hg.fr.size) fun hkL=>by rcases hB k hkL with h|h;omega;exact hx h];exact hg.fr.block k hk hx⟩
 have hhas:∀m b,(upd σ.own n (.guest g' rem') m).has (upd loc n (Zcu L') m) b→(m=n∧b∈L')∨(m≠n∧(σ.own m).has (loc m) b):=by
  intro m b h;by_cases e:m=n
  ·subst e;simp only[upd,if_true,Ob.has,Zan] at h;exact .inl ⟨rfl,h⟩
  ·simp only[upd,e,if_false] at h;exact .inr ⟨e,h⟩
 have hmut:∀m b o,(upd σ.own n (.guest g' rem') m).mut (upd loc n (Zcu L') m) b o→(m=n∧b∈L')∨(m≠n∧(σ.own m).mut (loc m) b o):=by
  intro m b o h;by_cases e:m=n
  ·subst e;simp only[upd,if_true,Ob.mut,Zan] at h;exact .inl ⟨rfl,h⟩
  ·simp only[upd,e,if_false] at h;exact .inr ⟨e,h⟩
 have hk:Keeps w w' (MM C σ.own loc) (MM C (upd σ.own n (.guest g' rem')) (upd loc n (Zcu L'))):=by
  refine ⟨fun p hp hm=> ?_,fun p hp hm hm'=> ?_⟩
  ·refine World.cell?_of_block (hb _ (Zbg hp) fun hpL=>hm (.inr ⟨n,?_⟩));rw[hown,hloc];simp only[Ob.mut,Zan];exact hpL
  ·rcases hm' with h0|⟨m,h0⟩
   ·exact hm (.inl h0)
   ·rcases hmut m _ _ h0 with ⟨rfl,hbL⟩|⟨_,h4⟩
    ·rcases (hL _ hbL).2 with h5|h5
     ·refine hm (.inr ⟨m,?_⟩);rw[hown,hloc];simp only[Ob.mut,Zan];exact h5
     ·have:=Zbg hp;omega
    ·exact hm (.inr ⟨m,h4⟩)
 refine ⟨hfr,hg.m0,hg.kp.trans hk,fun x hx=> ?_,hg.mnd,fun m hm=> ?_,hg.size,fun t=>RepA.reloc hl (RepA.keep hk _ _ (hg.slots t)),fun m=> ?_,fun m k b hmk e1 e2=> ?_⟩
 ·obtain ⟨D,e1,e2,e3,e4⟩:=hg.marks x hx;refine ⟨D,e1,e2,(hd D e3).trans e3,fun ⟨m,hm⟩=> ?_⟩;rcases hhas m D hm with ⟨rfl,h5⟩|⟨_,h5⟩
  ·rcases (hL D h5).2 with h6|h6
   ·exact e4 ⟨m,(hnb D).2 h6⟩
   ·have:=(Array.getElem?_eq_some_iff.1 e3).1;omega
  ·exact e4 ⟨m,h5⟩
 ·obtain ⟨p1,p2,p3⟩:=hg.pin m hm;have:m≠n:=fun e=>hnp (e▸hm)
  exact ⟨p1,by simp only[upd,this,if_false];exact p2,p3⟩
 ·by_cases e:m=n
  ·subst e;simp only[upd,if_true];refine ⟨hok,L',rfl,hJ _,fun b hbL=>⟨(hL b hbL).1,?_⟩⟩;rcases (hL b hbL).2 with h5|h5
   ·exact hB b h5
   ·exact .inl (Nat.le_trans hg.fr.size h5)
  ·simp only[upd,e,if_false];exact ObOk.reloc hl (ObOk.keep' hk hs (fun b hb'=>hb b ((hg.objs m).lt hb') fun hbL=>hg.disj m n b e hb' ((hnb b).2 hbL)) (hg.objs m))
 ·rcases hhas m b e1 with ⟨rfl,h5⟩|⟨hm,h5⟩<;>rcases hhas k b e2 with ⟨rfl,h6⟩|⟨hk',h6⟩
  ·exact hmk rfl
  ·rcases (hL b h5).2 with h7|h7
   ·exact hg.disj k m b hk' h6 ((hnb b).2 h7)
   ·have:=(hg.objs k).lt h6;omega
  ·rcases (hL b h6).2 with h7|h7
   ·exact hg.disj m k b hm h5 ((hnb b).2 h7)
   ·have:=(hg.objs m).lt h5;omega
  ·exact hg.disj m k b hmk h5 h6
end
def ZbK (xs:List (List Int)):List Value:=xs.flatten.map (Value.int .i64)
def ZyY (e:TypeId) (sz:Nat) (xs:List (List Int)) (b off cap:Nat) (rem:List Ent) (L:List Nat) (_:Nat→Nat→Prop) (w:World):Prop:=
 rem=[]∧L=[b]∧∃cur:Array Value,w.heap[b]? =some (.cells cur e (0,0))∧off+cap*sz≤cur.size∧(∀x∈xs,x.length=sz)∧xs.length≤cap∧cap≤maxLen∧(cur.toList.drop off).take (xs.length*sz)=ZbK xs
def qG (e:TypeId) (sz:Nat) (xs:List (List Int)) (b off cap:Nat):Gst:=⟨.bool false,ZyY e sz xs b off cap⟩
def qO (e:TypeId) (sz:Nat) (xs:List (List Int)) (b off cap:Nat):Ob:=.guest (qG e sz xs b off cap) []
def qv (b off n cap:Nat):AV:=.c (.raw (.slice (some ⟨b,off,none⟩) n cap))
def qp (b off:Nat):AV:=.c (.raw (.pointer (some ⟨b,off,none⟩)))
def ZmH (xs:List (List Int)):List (List CD):=xs.map fun x=>x.map (CD.int .i64)
theorem ZsO (P:Program) (e:TypeId) (sz:Nat) (xs:List (List Int)) (b off cap:Nat):(qG e sz xs b off cap).Ok P:=by
 refine ⟨rfl,?_,?_⟩
 ·rintro rem L M w M' w' ⟨h1,h2,cur,h3,h4⟩ hk hb hs;exact ⟨h1,h2,cur,by rw[hb b (by rw[h2];simp)];exact h3,h4⟩
 ·rintro args wins r rem L M w loc vs ⟨h1,_⟩;cases h1
theorem Zgq (b off j:Nat):(⟨b,off,none⟩:Addr).add j=⟨b,off+j,none⟩:=by unfold Addr.add;split<;>simp_all
theorem ZmI (xs:List (List Int)):(ZmH xs).flatten=xs.flatten.map (CD.int .i64):=by unfold ZmH;rw[List.map_flatten]
theorem ZiH {w:World} {M:Cells} {loc:Nat→Value} {xs:List (List Int)} {l:List Value}:RepAs w M loc ((ZmH xs).flatten.map .c) l↔l=ZbK xs:=by
 rw[ZmI,List.map_map];exact ZbN (xs.flatten) l
theorem ZwC {sz:Nat} {xs:List (List Int)} (h:∀x∈xs,x.length=sz):(ZbK xs).length=xs.length*sz:=by
 unfold ZbK;rw[List.length_map];induction xs with
 |nil=>simp
 |cons x xs ih=>rw[List.flatten_cons,List.length_append,ih fun y hy=>h y (by simp[hy]),h x (by simp),List.length_cons,Nat.add_mul];omega
theorem ZiD (xs ys:List (List Int)):ZbK (xs++ys)=ZbK xs++ZbK ys:=by unfold ZbK;simp
theorem Zex {sz:Nat}:∀{xs:List (List Int)} (k:Nat),(∀x∈xs,x.length=sz)→ZbK (xs.drop k)=(ZbK xs).drop (k*sz)
 |xs,0,_=>by simp
 |[],k+1,_=>by simp[ZbK]
 |x::xs,k+1,h=>by
  rw[List.drop_succ_cons,Zex k fun y hy=>h y (by simp[hy])];have hx:=h x (by simp);have:ZbK (x::xs)=x.map (Value.int .i64)++ZbK xs:=by simp[ZbK]
  rw[this,show (k+1)*sz=sz+k*sz by rw[Nat.add_mul];omega,←List.drop_drop,List.drop_left' (by rw[List.length_map,hx])]
theorem ZpF {sz:Nat} {xs:List (List Int)} {i:Nat} {x:List Int} (h:∀x∈xs,x.length=sz) (hi:xs[i]? =some x) {j:Nat} (hj:j<sz):(ZbK xs)[i*sz+j]? =(x.map (Value.int .i64))[j]?:=by
 have h1:=Zex (sz:=sz) i h;obtain ⟨hlt,hx⟩:=List.getElem?_eq_some_iff.1 hi;rw[List.drop_eq_getElem_cons hlt,hx] at h1;have h2:ZbK (x::xs.drop (i+1))=x.map (Value.int .i64)++ZbK (xs.drop (i+1)):=by simp[ZbK]
 rw[←List.getElem?_drop,←h1,h2,List.getElem?_append_left (by rw[List.length_map,h x (List.mem_of_getElem? hi)];exact hj)]
section
variable {P:Program} {σ:St} {K:St→Prop}
theorem Zfk {d:Option Nat} {i:I} {v:AV} (h:∀(C:Ctx) (loc:Nat→Value) (a:Act) (w:World) (o:Oper),C.P=P→CI P o.op i→G C σ loc a w→Snd C σ loc a w o v) (hK:K (σ.put d v)):Zcq P d i K σ:=by
 intro C loc a w o hP hc hd hdl hg;obtain ⟨u,hrun,hr⟩:=h C loc a w o hP (by rw[←hP];exact ZbZ hc) hg;exact ⟨_,⟨w,loc,.inl ⟨u,hrun,by rw[hd] at hdl⊢;exact hg.put hdl hr⟩⟩,hK⟩
theorem ZwF {d:Option Nat} {sz:Nat} {x i:X} {b off n cap:Nat} {k:IntKind} {j:Int} (h1:(σ.val x).dg=true) (h2:(σ.val i).dg=true) (hv:(σ.val x).dv=qv b off n cap) (hj:(σ.val i).dv= .c (.int k j)) (h0:0≤j) (hn:j<n)
  (hK:K (σ.put d (qp b (off+j.toNat*sz)))):Zcq P d (.ia sz x i) K σ:=by
 refine Zfk (fun C loc a w o hP hci hg=> ?_) hK;subst hP;generalize ho:o.op=op at hci;cases hci with
 |ia ht hs hx hi=>
  have rx:=ZaN hg hx h1;have ri:=ZaN hg hi h2;rw[hv] at rx;rw[hj] at ri;simp only[qv,RepA,RepC] at rx ri;refine ⟨.pointer (some ⟨b,off+j.toNat*sz,none⟩),?_,by simp only[qp,RepA,RepC];exact ⟨trivial,rfl⟩⟩;unfold sizeB at hs;rename_i t e _ _;cases hinf:C.P.info? e with
  |none=>simp[hinf] at hs
  |some inf=>
   simp[hinf] at hs;simp[execOp,ho,rx.1,ri,Instr.indexAt,asIntOf,run_underlying ht,h0,hn,sizeOf,typeInfo,hinf,hs,Zgq]
theorem ZsT {d:Option Nat} {sz:Nat} {x:X} {n b off cap i:Nat} {e:TypeId} {xs:List (List Int)} {r:List Int} (h1:(σ.val x).dg=true) (hv:(σ.val x).dv=qp b (off+i*sz)) (hown:σ.own n=qO e sz xs b off cap) (hi:xs[i]? =some r)
  (hK:K (σ.put d (.agg (r.map fun m=> .c (.int .i64 m))))):Zcq P d (.ld false sz x) K σ:=by
 refine Zfk (fun C loc a w o hP hci hg=> ?_) hK;subst hP;generalize ho:o.op=op at hci;generalize hone:false=one at hci;cases hci with
 |load ha hs hx=>
  rename_i t ag;cases ag with
  |false=>cases hone
  |true=>
  have rx:=ZaN hg hx h1;rw[hv] at rx;simp only[qp,RepA,RepC] at rx;have hob:=hg.objs n;rw[hown] at hob;obtain ⟨_,L,_,⟨_,_,cur,hb,hcs,hsz,hle,hcm,hcur⟩,_⟩:=hob;have hr:=hsz r (List.mem_of_getElem? hi);obtain ⟨hil,_⟩:=List.getElem?_eq_some_iff.1 hi;refine ⟨.agg (r.map (Value.int .i64)).toArray,?_,?_⟩
  ·refine (show _ from by simp [execOp,ho,rx.1,Instr.loadAt,Instr.sureAddr,ZbO (ad:=⟨b,off + i * sz,none⟩) (l:=r.map (Value.int .i64)) ha hs (by simpa using hr) (w:=w) (fun j u hj => by
    rw[Zgq,cell_of_row w b _ cur e (0,0) hb];have hjl:j<sz:=by have:=(List.getElem?_eq_some_iff.1 hj).1;simpa [hr] using this
    have h2:=ZpF hsz hi hjl;rw[←hcur,List.getElem?_take] at h2;have h3:i*sz+j<xs.length*sz:=by
     have:(i+1)*sz≤xs.length*sz:=Nat.mul_le_mul_right _ hil;rw[Nat.add_mul] at this;omega
    rw[if_pos h3,List.getElem?_drop,hj] at h2;rw[←Array.getElem?_toList,Nat.add_assoc];exact h2)])
  ·simp only[RepA];exact ⟨_,rfl,(ZbN r _).2 rfl⟩
theorem ZpK {d:Option Nat} {sz:Nat} {x lo:X} {n b off cap l m:Nat} {k:IntKind} {e:TypeId} {xs:List (List Int)} (h1:(σ.val x).dg=true) (h2:(σ.val lo).dg=true) (hv:(σ.val x).dv=qv b off m cap) (hm:xs.length=m) (hlo:(σ.val lo).dv= .c (.int k l)) (hown:σ.own n=qO e sz xs b off cap) (hl:l≤m)
  (hK:∀off',K (St.put ⟨σ.env,upd σ.own n (qO e sz (xs.drop l) b off' (cap -l))⟩ d (qv b off' (m -l) (cap -l)))):Zcq P d (.slc sz x (some lo) none) K σ:=by
 subst hm;intro C loc a w o hP hc hd hdl hg;subst hP;have hci:=ZbZ hc;generalize ho:o.op=op at hci;generalize hlo':some lo=lo' at hci;generalize hhi':(none:Option X)=hi' at hci;cases hci with
 |slc ht hs hx hcl hch=>
  subst hlo';subst hhi';rename_i t e0 x0 lo0 hi0;obtain ⟨lo1,rfl,hlo1⟩:∃l1,lo0=some l1∧cX l1=some lo:=by
   cases lo0 with
   |none=>simp[cOX] at hcl
   |some l1=>simp[cOX] at hcl;exact ⟨l1,rfl,hcl⟩
  have hnone:hi0=none:=by
   cases hi0 with
   |none=>rfl
   |some l1=>simp[cOX] at hch
  subst hnone;have rx:=ZaN hg hx h1;have rl:=ZaN hg hlo1 h2;rw[hv] at rx;rw[hlo] at rl;simp only[qv,RepA,RepC] at rx rl;have hob:=hg.objs n;rw[hown] at hob;obtain ⟨_,L,hL,⟨_,rfl,cur,hb,hcs,hsz,hle,hcm,hcur⟩,_⟩:=hob;unfold sizeB at hs;cases hinf:C.P.info? e0 with
  |none=>simp[hinf] at hs
  |some inf=>
  simp[hinf] at hs;obtain ⟨off',hoff',ho2⟩:∃off',(if cap=l then (some ⟨b,off,none⟩:Option Addr) else some ((⟨b,off,none⟩:Addr).add (l*sz)))=some ⟨b,off',none⟩∧(l<cap→off'=off+l*sz)∧(cap=l→off'=off):=by
   by_cases h:cap=l
   ·exact ⟨off,by rw[if_pos h],fun h'=>by omega,fun _=>rfl⟩
   ·exact ⟨off+l*sz,by rw[if_neg h,Zgq],fun _=>rfl,fun h'=>absurd h' h⟩
  have hg1:=hg.setGuest (g:=qG e sz xs b off cap) (g':=qG e sz (xs.drop l) b off' (cap -l)) (rem':=[]) hown hL (by simp) hb (fun x h=>by cases h) (o':=.cells cur e (0,0)) (ZsO _ _ _ _ _ _ _) fun M=>by
   refine ⟨rfl,rfl,cur,(MapKept.heap_set hb).1,?_,fun x hx=>hsz x (List.mem_of_mem_drop hx),by simp;omega,by omega,?_⟩
   ·by_cases h:cap=l
    ·rw[ho2.2 h,h];simp;have:off+cap*sz≤cur.size:=hcs;omega
    ·rw[ho2.1 (by omega)];have h5:l*sz+(cap -l)*sz=cap*sz:=by rw[←Nat.add_mul,show l+(cap -l)=cap by omega]
     omega
   ·rw[Zex l hsz,←hcur,List.drop_take,List.length_drop,←Nat.sub_mul];by_cases h:cap=l
    ·have:xs.length -l=0:=by omega
     rw[this];simp
    ·rw[ho2.1 (by omega),List.drop_drop]
  have hww:({w with heap:=w.heap.setIfInBounds b (.cells cur e (0,0))}:World)=w:=by
   have:w.heap.setIfInBounds b (.cells cur e (0,0))=w.heap:=by
    apply Array.ext_getElem?;intro i;rw[Array.getElem?_setIfInBounds];split
    ·rename_i h;subst h;split
     ·exact hb.symm
     ·rename_i h;rw[Array.getElem?_eq_none (by omega)]
    ·rfl
   rw[this]
  rw[hww] at hg1;refine ⟨_,⟨w,loc,.inl ⟨.slice (some ⟨b,off',none⟩) (xs.length -l) (cap -l),?_,?_⟩⟩,hK off'⟩
  ·by_cases h:cap=l
   ·rw[ho2.2 h];have:xs.length=cap:=by omega
    subst h;simp[execOp,ho,rx.1,rl,Instr.sliceAt,Instr.slice,run_underlying ht,Instr.sliceBounds,Instr.sliceBound,asIntOf,sizeOf,typeInfo,hinf,hs,this]
   ·rw[ho2.1 (by omega)];simp[execOp,ho,rx.1,rl,Instr.sliceAt,Instr.slice,run_underlying ht,Instr.sliceBounds,Instr.sliceBound,asIntOf,sizeOf,typeInfo,hinf,hs,hl,h,Zgq]
  ·rw[hd] at hdl⊢;exact hg1.put hdl (by simp only[qv,RepA,RepC];exact ⟨trivial,rfl⟩)
end
theorem ZhA {P:Program} (w:World) (t ty e:TypeId) (i:TypeInfo) (ht:P.underlying t=some (.slice e)) (hi:P.info? e=some i)
  (g off sLen sCap:Nat) (cur:Array Value) (hg:w.heap[g]? =some (.cells cur e (0,0)))
  (a:Addr) (m c:Nat) (news:List Value) (hl:news.length=m*i.size) (hnews:∀j u,news[j]? =some u→w.cell? (a.add j)=some u) (h1:∀u∈news,u.oneCell'=true)
  (hroom:sLen+m≤sCap) (hfit:off+sLen*i.size+news.length≤cur.size):
  (Builtin.append_ #[t,t] ty #[.slice (some ⟨g,off,none⟩) sLen sCap,.slice (some a) m c]).run P w=
   .ok (.slice (some ⟨g,off,none⟩) (sLen+m) sCap) (w.setRow g (cur.toList.take (off+sLen*i.size)++news++cur.toList.drop (off+sLen*i.size+news.length)).toArray):=by
 have hf:=run_firstCells_some (P:=P) w i.size m a m c news hl hnews;have hst:=run_storeCells_at P g (off+sLen*i.size) e news 0 cur w hg (by simpa using hfit) h1;simp only[Nat.add_zero] at hst;simp[Builtin.append_,run_underlying ht,sizeOf,typeInfo,hi,Builtin.lenOf,hroom,hf,Addr.add_lit,hst]
theorem ZyX (ys:List (List Int)):∀u∈ZbK ys,u.oneCell'=true:=fun u hu=>by
 unfold ZbK at hu;obtain ⟨n,_,rfl⟩:=List.mem_map.1 hu;rfl
section
variable {P:Program} {σ:St} {K:St→Prop}
theorem Zoy {P:Program} {w:World} (t ty e:TypeId) (i:TypeInfo) (z:Value) (ht:P.underlying t=some (.slice e)) (hi:P.info? e=some i) (hz:i.zero=some z) (hzs:z.cells.size=i.size)
  {b off cap:Nat} {xs ys:List (List Int)} {A:Option Addr} {m c:Nat} {L:List Nat} {rem:List Ent} {Mx:Nat→Nat→Prop} (hq:ZyY e i.size xs b off cap rem L Mx w) (hm:m=ys.length) (hys:∀y∈ys,y.length=i.size) (hA:ys=[]∨∃ad,A=some ad∧∀j u,(ZbK ys)[j]? =some u→w.cell? (ad.add j)=some u)
  (h63:xs.length+m≤maxLen) (hbytes:(xs.length+m)*i.bytes≤140737488355328):
  ∃b' off' cap' w',(Builtin.append_ #[t,t] ty #[.slice (some ⟨b,off,none⟩) xs.length cap,.slice A m c]).run P w= .ok (.slice (some ⟨b',off',none⟩) (xs.length+m) cap') w'∧(∀M,ZyY e i.size (xs++ys) b' off' cap' [] [b'] M w')∧
   w'.os=w.os∧w'.tape=w.tape∧w'.output=w.output∧w.heap.size≤w'.heap.size∧(∀k,k<w.heap.size→k≠b→w'.heap[k]? =w.heap[k]?)∧b'<w'.heap.size∧(b'=b∨w.heap.size≤b'):=by
 obtain ⟨rfl,rfl,cur,hb,hcs,hsz,hle,hcm,hcur⟩:=hq;have hbl:b<w.heap.size:=(Array.getElem?_eq_some_iff.1 hb).1;have h63':xs.length+m≤9223372036854775807:=by simp only[maxLen] at h63;omega
 rcases hA with rfl|⟨ad,rfl,hnews⟩
 ·simp only[List.length_nil] at hm;subst hm;refine ⟨b,off,cap,w,?_,fun M=>⟨rfl,rfl,cur,hb,hcs,by simpa using hsz,by simpa using hle,hcm,by simpa using hcur⟩,rfl,rfl,rfl,Nat.le_refl _,fun _ _ _=>rfl,hbl,.inl rfl⟩;cases A<;>simp[Builtin.append_,run_underlying ht,sizeOf,typeInfo,hi,Builtin.lenOf,Builtin.firstCells,hle,storeCells,loadCells,loadCellsFrom]
 ·subst hm;have hl:(ZbK ys).length=ys.length*i.size:=ZwC hys;have hall:∀x∈xs++ys,x.length=i.size:=fun x hx=>by rcases List.mem_append.1 hx with h|h;exact hsz x h;exact hys x h
  have hxl:(ZbK xs).length=xs.length*i.size:=ZwC hsz;by_cases hroom:xs.length+ys.length≤cap
  ·have hsum:xs.length*i.size+ys.length*i.size≤cap*i.size:=by rw[←Nat.add_mul];exact Nat.mul_le_mul_right _ hroom
   have hr:=ZhA (P:=P) w t ty e i ht hi b off xs.length cap cur hb ad ys.length c (ZbK ys) hl hnews (ZyX ys) hroom (by rw[hl];omega);refine ⟨b,off,cap,_,hr,fun M=>⟨rfl,rfl,_,setRow_heap w b cur _ e _ hb,?_,hall,by simpa using hroom,hcm,?_⟩,rfl,rfl,rfl,by simp,fun k _ hk=>setRow_other w b k _ hk,by simpa using hbl,.inl rfl⟩
   ·simp only[List.size_toArray,List.length_append,List.length_take,List.length_drop,Array.length_toList,hl];omega
   ·have e1:(cur.toList.take (off+xs.length*i.size)).drop off=ZbK xs:=by rw[List.drop_take,Nat.add_sub_cancel_left,hcur]
    have e2:off≤(cur.toList.take (off+xs.length*i.size)).length:=by have hx2:cur.toList.length=cur.size:=Array.length_toList;rw[List.length_take,hx2];omega
    rw[List.append_assoc,List.drop_append_of_le_length e2,e1,ZiD,←List.append_assoc,List.take_append_of_le_length (by rw[List.length_append,List.length_append,hxl,hl,Nat.add_mul];exact Nat.le_refl _),List.take_of_length_le (by rw[List.length_append,List.length_append,hxl,hl,Nat.add_mul];exact Nat.le_refl _)]
  ·have holds:∀j u,(ZbK xs)[j]? =some u→w.cell? ((⟨b,off,none⟩:Addr).add j)=some u:=fun j u hj=>by
    rw[Zgq,cell_of_row w b _ cur e (0,0) hb];rw[←hcur,List.getElem?_take] at hj;split at hj
    ·rw[List.getElem?_drop] at hj;rw[←Array.getElem?_toList];exact hj
    ·cases hj
   have hr:=run_append_grow (P:=P) w t ty e i z ht hi hz ⟨b,off,none⟩ xs.length cap (ZbK xs) hxl holds ad ys.length c (ZbK ys) hl hnews (by omega) (by omega) (growslice_fits (by omega) hbytes);have hge:=grownCap_ge w (xs.length+ys.length) cap e;have hcm2:grownCap w (xs.length+ys.length) cap e≤maxLen:=grownCap_le_maxLen w _ cap e h63;refine ⟨_,0,_,_,hr,fun M=>⟨rfl,rfl,_,heap_alloc_new w.drew _,?_,hall,by simpa using hge,hcm2,?_⟩,rfl,rfl,rfl,by simp,fun k hk _=>Zcc w.drew _ k hk,by simp,.inr (Nat.le_refl _)⟩
   ·simp only[Array.size_append,List.size_toArray,size_zeroCells,hzs,hxl,hl,←Nat.add_mul,Nat.zero_add];exact Nat.mul_le_mul_right _ (by omega)
   ·simp only[Array.toList_append,List.append_assoc,List.drop_zero,List.length_append];rw[←List.append_assoc,←ZiD,List.take_append_of_le_length (by rw[ZwC hall,List.length_append];exact Nat.le_refl _),List.take_of_length_le (by rw[ZwC hall,List.length_append];exact Nat.le_refl _)]
theorem ZpI {d:Option Nat} {e sz bytes:Nat} {s x:X} {n b off cap m:Nat} {xs ys:List (List Int)} (h1:(σ.val s).dg=true) (h2:(σ.val x).dg=true) (hv:(σ.val s).dv=qv b off m cap) (hm:xs.length=m) (hx:(σ.val x).dv.elems σ.own=some (ZmH ys)) (hown:σ.own n=qO e sz xs b off cap)
  (hys:∀y∈ys,y.length=sz) (h63:m+ys.length≤maxLen) (hbytes:(m+ys.length)*bytes≤140737488355328)
  (hK:∀b' off' cap',K (St.put ⟨σ.env,upd σ.own n (qO e sz (xs++ys) b' off' cap')⟩ d (qv b' off' (m+ys.length) cap'))):Zcq P d (.app e sz bytes s x) K σ:=by
 subst hm;intro C loc a w o hP hc hd hdl hg;subst hP;have hci:=ZbZ hc;generalize ho:o.op=op at hci;cases hci with
 |app ht hi hz hzs hpos hcs hcx=>
  rename_i t s0 x0 i z;have rs:=ZaN hg hcs h1;have rx:=ZaN hg hcx h2;rw[hv] at rs;simp only[qv,RepA,RepC] at rs;obtain ⟨szx,hrx⟩:=hg.elems rx hx;simp only[RepC] at hrx;obtain ⟨A,capx,hxv,_,_,hxe⟩:=hrx;have hob:=hg.objs n;rw[hown] at hob;obtain ⟨_,L,hL,hq,_⟩:=hob;have hLb:=hq.2.1;have hA:ys=[]∨∃ad,A=some ad∧∀j u,(ZbK ys)[j]? =some u→w.cell? (ad.add j)=some u:=by
   rcases hxe with h|⟨ad,rfl,hE⟩
   ·left;simpa [ZmH] using h
   ·obtain ⟨news,k1,k2,k3,k4⟩:=hE.vals (loc:=fun _=>undef);rw[ZiH] at k3;subst k3;exact .inr ⟨ad,rfl,k2⟩
  have hlen:(ZmH ys).length=ys.length:=by simp[ZmH]
  obtain ⟨b',off',cap',w',hr,hq',e1,e2,e3,e4,e5,e6,e7⟩:=Zoy (P:=C.P) (A:=A) (c:=capx) (Mx:=fun _ _=>True) t o.type e i z ht hi hz hzs hq hlen hys hA (by rw[hlen];exact h63) (by rw[hlen];exact hbytes);subst hLb;have hg1:=hg.turnGuest (g:=qG e i.size xs b off cap) (g':=qG e i.size (xs ++ ys) b' off' cap') (rem':=[]) (L':=[b']) hown hL e1 e2 e3 e4 (fun k hk hkL => e5 k hk (by simpa using hkL)) (fun D hD => e5 D (Array.getElem?_eq_some_iff.1 hD).1 (fun h => by
    subst h;obtain ⟨_,_,cur,hb,_⟩:=hq;rw[hb] at hD;cases hD)) (fun k hk=>by simp only[List.mem_singleton] at hk⊢;subst hk;exact ⟨e6,e7⟩) (ZsO _ _ _ _ _ _ _) hq'
  refine ⟨_,⟨w',upd loc n (Zcu [b']),.inl ⟨.slice (some ⟨b',off',none⟩) (xs.length+ys.length) cap',?_,?_⟩⟩,hK b' off' cap'⟩
  ·rw[hlen] at hxv hr;simp[execOp,ho,resolve,invoke,builtin,rs.1,hxv,hr]
  ·rw[hd] at hdl⊢;exact hg1.put hdl (by simp only[qv,RepA,RepC];exact ⟨trivial,rfl⟩)
end
section
variable {C:Ctx} {σ:St} {K:St→Prop} {is:List Ins} {Q:Exit→St→Prop}
def I.plainB:I→Bool
 | .appv _ _ _ _ _=>false
 | .bslv _ _ _=>false
 | .ldd _ _ _=>false
 | .calln _ _=>false
 |_=>true
theorem ZlQ {d:Option Nat} {i:I} {s:Bool} (hp:i.plainB=true) (h:Zcq C.P d i (ZgZ C is K) σ):ZgZ C (⟨d,i,none,s⟩::is) K σ:=by
 refine ZjP fun ops o hins Q' K' hK' a w hg=> ?_
 obtain ⟨s1,ii,hc,hvw⟩:=hins;simp only at hc hvw;have hii:ii=i:=by
  rcases hvw with h|⟨_,_,_,_,_,_,h⟩|⟨_,_,_,_,h⟩|⟨_,_,_,_,h⟩|⟨_,_,_,h⟩
  ·exact h.symm
  all_goals (rw[h] at hp;cases hp)
 subst hii;obtain ⟨loc,hg⟩:=hg;unfold cOp at hc;split at hc;case h_2=>cases hc
 rename_i ins g hi hgd;split at hc;case isFalse=>cases hc
 rename_i hd;simp only[Option.some.injEq,Ins.mk.injEq] at hc;obtain ⟨rfl,rfl,rfl,_⟩:=hc;have hog:o.guard=none:=by
  unfold ZhU at hgd;split at hgd
  ·rename_i h;exact h
  ·split at hgd<;>simp at hgd
 rw[if_pos (by simp[Region.wanted,hog])];exact Zbp hg hi hd h fun σ' a' w' hg' hk=>hK' σ' a' w' hg' hk
end
section
variable {P:Program} {σ:St} {K:St→Prop}
theorem ZpJ {d e sz:Nat} {parts:List X} {xs:List (List Int)} (hes:(parts.mapM fun x=>(σ.val x).dv.cds σ.own)=some (ZmH xs)) (hn:(σ.own d).isNone=true) (hdg:(parts.all fun x=>(σ.val x).dg)=true) (hel:∀x∈xs,x.length=sz)
  (hK:∀b,K ⟨upd (ZcM d σ.env) d (qv b 0 xs.length xs.length),upd (Zbk d σ.own) d (qO e sz xs b 0 xs.length)⟩):Zcq P (some d) (.bsl e sz parts) K σ:=by
 intro C loc a w o hP hc hd hdl hg;subst hP;have hci:=ZbZ hc;generalize ho:o.op=op at hci;cases hci with
 |bsl ht hs hz hpr hpos hlim hzl hxs=>
  rename_i t n ps z;have hel':((ZmH xs).all fun e=>e.length==sz)=true:=by
   unfold ZmH;rw[List.all_eq_true];intro y hy;obtain ⟨x,hx,rfl⟩:=List.mem_map.1 hy;simpa using hel x hx
  obtain ⟨arr',hrun,ZrF,hlen,hrs⟩:=Zl9 hg ho ht hs hz hpr hpos hlim hzl hxs hes hdg hel';rw[ZiH] at hrs;have hlx:xs.length=n:=by simpa [ZmH] using hlen
  subst hlx;rw[hd] at hdl;have hdN:d<C.N:=by simpa using hdl
  refine ⟨_,⟨w.alloc (.cells arr' e),upd loc d (Zcu [w.heap.size]),.inl ⟨.slice (some ⟨w.heap.size,0,none⟩) xs.length xs.length,hrun,?_⟩⟩,hK w.heap.size⟩;rw[hd];refine hg.newblock (ob:=qO e sz xs w.heap.size 0 xs.length) hdN hn (fun b hb=> ?_) (fun M loc' hk hl' hv=> ?_) (fun M loc' hv=> ?_)
  ·simp only[qO,Ob.has,Zan,List.mem_singleton] at hb;exact hb
  ·refine ⟨ZsO _ _ _ _ _ _ _,[w.heap.size],rfl,⟨rfl,rfl,arr',by rw[Zbf],by omega,hel,Nat.le_refl _,?_,?_⟩,fun b hb=> ?_⟩
   ·simp only[maxLen];have:xs.length≤xs.length*sz:=Nat.le_mul_of_pos_right _ hpos;omega
   ·rw[List.drop_zero,hrs,List.take_of_length_le (by rw[ZwC hel];exact Nat.le_refl _)]
   ·simp only[List.mem_singleton] at hb;subst hb;exact ⟨by simp,.inl hg.fr.size⟩
  ·simp only[qv,RepA,RepC];exact ⟨trivial,rfl⟩
end
end Go.V

/-
 Arrays of four numbers compared;a look into a map that does not tell whether there is something.
-/
namespace Go.V
theorem ZsY {P:Program} (w:World) {t e:TypeId} {k:IntKind} {a b c d a' b' c' d':Int} (ht:P.underlying t=some (.array 4 e)) (he:P.underlying e=some (.int k)) (hs:sizeB P e=some 1) (ha:isAggB P e=some false):
  (Op.equal t (.agg #[.int .i64 a,.int .i64 b,.int .i64 c,.int .i64 d]) (.agg #[.int .i64 a',.int .i64 b',.int .i64 c',.int .i64 d'])).run P w= .ok (a==a'&&(b==b'&&(c==c'&&d==d'))) w:=by
 have hie:∃ie,P.info? e=some ie∧ie.size=1:=by
  unfold sizeB at hs;simpa using hs
 obtain ⟨ie,hie,hsz⟩:=hie;have hsr:(sizeOf e).run P w= .ok 1 w:=by simp[sizeOf,typeInfo,hie,hsz]
 have hpart:∀(cs:Array Value) (i:Nat) (v:Value),cs[i]? =some v→(part e cs i).run P w= .ok v w:=fun cs i v h=>Zb1 (w:=w) ha h
 have hint:∀(n:Nat) (x y:Int),(Op.equalIn (n+1) e (.int .i64 x) (.int .i64 y)).run P w= .ok (x==y) w:=fun n x y=>by simp[Op.equalIn,run_underlying he]
 have hgen:∀n:Nat,(Op.equalIn (n+1+1) t (.agg #[.int .i64 a,.int .i64 b,.int .i64 c,.int .i64 d]) (.agg #[.int .i64 a',.int .i64 b',.int .i64 c',.int .i64 d'])).run P w= .ok (a==a'&&(b==b'&&(c==c'&&d==d'))) w:=by
  intro n;rw[Op.equalIn];simp only[Sem.run_bind,run_underlying ht,Result.andThen_ok,hsr];simp only[Std.Legacy.Range.forIn_eq_forIn_range',Std.Legacy.Range.size];by_cases h1:a=a'<;>by_cases h2:b=b'<;>by_cases h3:c=c'<;>by_cases h4:d=d'<;>simp[List.range',hpart,hint,h1,h2,h3,h4]
 exact hgen 9998
section
variable {P:Program} {σ:St} {K:St→Prop}
theorem ZsQ {d:Option Nat} {t t' e:TypeId} {k:IntKind} {x y:Operand} {x' y':X} {a b c f a' b' c' f':Int} (ht:P.underlying t=some (.array 4 e)) (he:P.underlying e=some (.int k)) (hs:sizeB P e=some 1) (ha:isAggB P e=some false) (hgt:P.eqGuardType P.depth t=false)
  (hx:cX x=some x') (hy:cX y=some y') (h1:(σ.val x').dg=true) (h2:(σ.val y').dg=true) (hv:(σ.val x').dv=kav true [a,b,c,f]) (hw:(σ.val y').dv=kav true [a',b',c',f'])
  (hK:K (σ.put d (.c (.bool (a==a'&&(b==b'&&(c==c'&&f==f'))))))):Zcq P d (.raw (.binOp .eql t x y t')) K σ:=by
 refine Zbr (fun C loc ac w o hP ho hg=> ?_) hK;subst hP;have rx:=ZaN hg hx h1;have ry:=ZaN hg hy h2;rw[hv,Zb5] at rx;rw[hw,Zb5] at ry;refine ⟨.bool (a==a'&&(b==b'&&(c==c'&&f==f'))),?_,by simp only[RepA,RepC]⟩;have hr:=ZsY (a:=a) (b:=b) (c:=c) (d:=f) (a':=a') (b':=b') (c':=c') (d':=f') w ht he hs ha;simp only[Za2,if_true,List.map_cons,List.map_nil] at rx ry;simp[execOp,ho,rx,ry,run_eqGuard_agg w _ _ _ _ _ _ hgt,binOp,hr]
theorem Zf3 {d:Option Nat} {t k e:TypeId} {x i:Operand} {x' i':X} {n b:Nat} {ka va:Bool} {l:GL} {key zs:List Int} {Kp:Value→Prop} (ht:P.underlying t=some (.map k e)) (hkl:KLaw P k Kp) (hz:(P.info? e).bind (·.zero)=some (Za2 va zs))
  (hx:cX x=some x') (hi:cX i=some i') (h1:(σ.val x').dg=true) (h2:(σ.val i').dg=true) (hv:(σ.val x').dv= .c (.raw (.map (some b)))) (hj:(σ.val i').dv=kav ka key) (hown:σ.own n=gmap ka va l b)
  (hkey:Kp (Za2 ka key)) (hkeys:∀p∈l,Kp (Za2 ka p.1)) (hinj:∀p∈l,Za2 ka p.1=Za2 ka key→p.1=key)
  (hK:K (σ.put d (kav va ((Zb0 l key).getD zs)))):Zcq P d (.raw (.lookup t x i false)) K σ:=by
 refine Zbr (fun C loc a w o hP ho hg=> ?_) hK;subst hP;have rx:=ZaN hg hx h1;have ri:=ZaN hg hi h2;rw[hv] at rx;rw[hj,Zb5] at ri;simp only[RepA,RepC] at rx;have hob:=hg.objs n;rw[hown] at hob;obtain ⟨_,L,hl,⟨_,rfl,es,clock,hb,hst,hes⟩,hA⟩:=hob;have hks:∀e∈es.toList,Kp e.key:=fun e he=>by
  have hm:(e.key,e.val)∈es.toList.map (fun e=>(e.key,e.val)):=List.mem_map.2 ⟨e,he,rfl⟩;rw[hes] at hm;obtain ⟨p,hp,h3⟩:=List.mem_map.1 hm;simp only[Prod.mk.injEq] at h3;rw[←h3.1];exact hkeys p hp
 refine ⟨Za2 va ((Zb0 l key).getD zs),?_,Zb5.2 rfl⟩;rcases hkl.find w hkey es.toList hks with ⟨f1,f2⟩|⟨j,e0,f1,f2,f3⟩
 ·rw[Zen hes f2];simp[execOp,ho,rx.1,ri,Instr.lookup,run_underlying ht,MapKept.run_getObj_map hb,hkl.check w _ hkey,f1,Zfb hz]
 ·obtain ⟨v,g1,g2,g3⟩:=Zeo hes hst.2.2 hinj f2 f3;rw[g2];simp[execOp,ho,rx.1,ri,Instr.lookup,run_underlying ht,MapKept.run_getObj_map hb,hkl.check w _ hkey,f1,g3]
def ZAl (P:Program) (f:FuncId) (av:AV) (fv:Value) (rem:List Ent) (L:List Nat) (M:Nat→Nat→Prop) (w:World):Prop:=
 L=[]∧fv.oneCell'=true∧(∃wv,fv= .func (.func f) #[wv] #[]∧RepA w M ZvX av wv)∧∀e∈rem,AV.pureL e.args=true∧e.res.scal=true∧FSpec P f (av::e.args) e.res
def gB (P:Program) (f:FuncId) (av:AV) (fv:Value):Gst:=⟨fv,ZAl P f av fv⟩
theorem Zx5 (f:FuncId) (av:AV) (fv:Value) (h1:fv.oneCell'=true):(gB P f av fv).Ok P:=by
 refine ⟨h1,?_,?_⟩
 ·rintro rem L M w M' w' ⟨k1,k2,⟨wv,k3,k4⟩,k5⟩ hk hb hs;exact ⟨k1,k2,⟨wv,k3,RepA.keep hk _ _ k4⟩,k5⟩
 ·rintro args wins r rem L M w loc vs ⟨k1,k2,⟨wv,k3,k4⟩,k5⟩ hM hL hr hl hw hd;obtain ⟨j1,j2,j3,j4⟩:=k5 ⟨args,wins,r⟩ (by simp);simp only at j1 j2 j4;subst k1;refine ⟨j2,.inl ⟨f,#[wv],#[],k3,j3,?_⟩⟩;have h5:=j4 w M (wv::vs) hM (by simp only[RepAs];exact ⟨wv,vs,rfl,k4,pures_loc j1 hr⟩);have e1:#[wv]++vs.toArray++ #[]=(wv::vs).toArray:=by apply Array.ext';simp
  show Calls P f (#[wv]++vs.toArray++ #[]) w _;rw[e1];refine h5.mono fun e w' ⟨v,e2,e3,e4⟩=>⟨v,[],e2,scal_rep j2 e3,⟨e4.os,e4.tape,e4.output,e4.size,fun k hk _=>e4.block k hk⟩,(fun b hb=>by cases hb),⟨rfl,k2,⟨wv,k3,?_⟩,fun e he=>k5 e (List.mem_cons_of_mem _ he)⟩⟩
  have hsub:∀b o,(M b o∧b∉([]:List Nat))∨b∈([]:List Nat)→M b o:=fun b o h=>by
   rcases h with h|h
   ·exact h.1
   ·cases h
  exact RepA.keep (⟨fun p hp _=>World.cell?_of_block (e4.block _ (Zbg hp)),fun p hp hm hm'=>hm (hsub _ _ hm')⟩:Keeps w w' M _) _ _ k4
theorem ZnC {d:Nat} {f:FuncId} {x:Operand} {x':X} {av:AV} (rem:List Ent) (hx:cX x=some x') (h1:(σ.val x').dg=true) (hv:(σ.val x').dv=av) (hp:av.pureB=true) (hn:(σ.own d).isNone=true)
  (hrem:∀e∈rem,AV.pureL e.args=true∧e.res.scal=true∧FSpec P f (av::e.args) e.res)
  (hK:∀g:Gst,K ⟨upd (ZcM d σ.env) d (.c (.raw g.fv)),upd (Zbk d σ.own) d (.guest g rem)⟩):Zcq P (some d) (.raw (.makeFunc (.func f) #[x] #[])) K σ:=by
 refine Zb6 fun C loc a w o hP ho hod hdl hg=> ?_
 subst hP;have hd:d<C.N:=by simpa using hdl
 have rx:=ZaN hg hx h1;rw[hv] at rx;have hnone:σ.own d= .none:=by cases h:σ.own d<;>simp_all [Ob.isNone]
 have hpd:¬C.pin d:=fun h=>by have:=(hg.pin d h).1.1;omega
 have h2:=hg.forget hnone hpd;have hk0:=Keeps.less (w:=w) (M:=MM C σ.own loc) (M':=MM C (Zbk d σ.own) (upd loc d undef)) (fun b o h => by
  rcases h with h|⟨m,h⟩
  ·exact .inl h
  ·simp only[Zbk,Ob.mut_prg] at h;by_cases hm:m=d
   ·subst hm;rw[hnone] at h;exact (Ob.has_none _ _ (Ob.has_of_mut h)).elim
   ·exact .inr ⟨m,by simpa [upd,hm] using h⟩)
 have rx2:=RepA.keep hk0 _ _ rx;obtain ⟨fv,hfv⟩:∃fv,fv=Value.func (.func f) #[a.eval x] #[]:=⟨_,rfl⟩;have hone:fv.oneCell'=true:=by rw[hfv];rfl
 have hl:∀m,(upd loc d undef m).oneCell'=true→upd loc d (Zcu []) m=upd loc d undef m:=by
  intro m hm;by_cases e:m=d
  ·subst e;simp[upd] at hm;cases hm
  ·simp[upd,e]
 have hfo:∀m b,(upd (Zbk d σ.own) d (.guest (gB C.P f av fv) rem) m).has (upd loc d (Zcu []) m) b→(Zbk d σ.own m).has (upd loc d undef m) b:=by
  intro m b h;by_cases e':m=d
  ·subst e';simp only[upd,if_true,Ob.has,Zan] at h;cases h
  ·simp only[upd,e',if_false] at h⊢;exact h
 have h3:G C ⟨ZcM d σ.env,upd (Zbk d σ.own) d (.guest (gB C.P f av fv) rem)⟩ (upd loc d (Zcu [])) a w:=by
  refine h2.reown (fun n hn'=> ?_) (fun t=>RepA.reloc hl (h2.slots t)) (fun b o hm=> ?_) (fun b ⟨n,h⟩=>⟨n,hfo n b h⟩) (fun n=> ?_) (fun n m b hnm k1 k2=>h2.disj n m b hnm (hfo n b k1) (hfo m b k2))
  ·have:n≠d:=fun e=>hpd (e▸hn')
   simp[upd,this]
  ·obtain ⟨n,h⟩:=hm;by_cases e':n=d
   ·subst e';simp only[upd,if_true,Ob.mut,Zan] at h;cases h
   ·exact ⟨n,by simp only[upd,e',if_false] at h⊢;exact h⟩
  ·by_cases e':n=d
   ·subst e';simp only[upd,if_true];exact ⟨Zx5 _ _ _ hone,[],rfl,⟨rfl,hone,⟨_,hfv,pure_loc hp rx2⟩,hrem⟩,fun b hb=>by cases hb⟩
   ·have:=h2.objs n;simp only[upd,e',if_false] at this⊢;exact ObOk.reloc (loc:=upd loc d undef) hl this
 refine ⟨_,⟨w,upd loc d (Zcu []),.inl ⟨fv,?_,?_⟩⟩,hK (gB C.P f av fv)⟩
 ·simp[execOp,ho,Instr.makeFunc,hfv]
 ·rw[hod];exact h3.put (d:=some d) hdl (by simp only[gB,RepA,RepC];first|exact ⟨trivial,hone⟩|exact ⟨hone,trivial⟩)
theorem ZbM {d:Option Nat} {t e:TypeId} {n:Nat} {x i:Operand} {x' i':X} {k:IntKind} {j:Int} {cs:List AV} {v:AV} (hu:P.underlying t=some (.array n e)) (ha:isAggB P e=some false) (hs:sizeB P e=some 1)
  (hx:cX x=some x') (hi:cX i=some i') (h1:(σ.val x').dg=true) (h2:(σ.val i').dg=true) (hv:(σ.val x').dv= .agg cs) (hj:(σ.val i').dv= .c (.int k j)) (hr:0≤j∧j<n) (hc:cs[j.toNat]? =some v)
  (hK:K (σ.put d v)):Zcq P d (.raw (.index t x i)) K σ:=by
 refine Zbr (fun C loc a w o hP ho hg=> ?_) hK;subst hP;have rx:=ZaN hg hx h1;have ri:=ZaN hg hi h2;rw[hv] at rx;rw[hj] at ri;simp only[RepA,RepC] at rx ri;obtain ⟨l,ex,hrs⟩:=rx;have hie:∃ie,C.P.info? e=some ie∧ie.size=1:=by
  unfold sizeB at hs;simpa using hs
 obtain ⟨ie,hie,hsz⟩:=hie;have hsr:(sizeOf e).run C.P w= .ok 1 w:=by simp[sizeOf,typeInfo,hie,hsz]
 obtain ⟨u,hu2,hru⟩:=hrs.get _ hc;refine ⟨u,?_,hru⟩;simp[execOp,ho,ex,ri,Instr.index,run_underlying hu,asIntOf,hr.1,hr.2,hsr,Zb1 (w:=w) ha (cs:=l.toArray) (off:=j.toNat) (by simpa using hu2)]
end
attribute [go_sem] gmap qO qv qp
end Go.V

/-
 Ranges over maps,with the entries that are left;an empty guest,which something can come back as.
-/
namespace Go.V
def Zd7 (ka va:Bool) (es:Array MapEntry) (seen:Array Nat) (rest:GL):Prop:=(leftOf es seen).toList.map (fun e=>(e.key,e.val))=ZbB ka va rest
theorem Zcl (es:Array MapEntry) (seen:Array Nat):(leftOf es seen).toList=es.toList.filter fun x=> !seen.contains x.born:=by unfold leftOf;exact Array.toList_filter
theorem Zlv {ka va:Bool} {es:Array MapEntry} {l:GL} (h:es.toList.map (fun e=>(e.key,e.val))=ZbB ka va l):Zd7 ka va es #[] l:=by
 unfold Zd7;rw[Zcl,List.filter_eq_self.2 fun x _=>by simp,h]
theorem Zmx {e:MapEntry}:∀{A B:List MapEntry},((A++e::B).map (·.born)).Nodup→(A++e::B).filter (fun x=> !(x.born==e.born))=A++B:=by
 intro A B h;rw[List.map_append,List.map_cons,List.nodup_append] at h;obtain ⟨_,h2,h3⟩:=h;rw[List.nodup_cons] at h2;rw[List.filter_append,List.filter_cons];simp only[beq_self_eq_true,Bool.not_true,Bool.false_eq_true,if_false];rw[List.filter_eq_self.2 fun x hx=> ?_,List.filter_eq_self.2 fun x hx=> ?_]
 ·simp only[Bool.not_eq_true',beq_eq_false_iff_ne];exact fun hb=>h2.1 (hb▸List.mem_map_of_mem hx)
 ·simp only[Bool.not_eq_true',beq_eq_false_iff_ne];exact h3 _ (List.mem_map_of_mem hx) _ (by simp)
theorem ZnI {ka va:Bool} {es:Array MapEntry} {clock:Nat} {seen:Array Nat} {rest:GL} (hst:MapKept.Stamped es clock) (h:Zd7 ka va es seen rest) {e:MapEntry} (he:e∈(leftOf es seen).toList):
  ∃pre k v post,rest=pre++(k,v)::post∧e.key=Za2 ka k∧e.val=Za2 va v∧Zd7 ka va es (seen.push e.born) (pre++post):=by
 unfold Zd7 at h;obtain ⟨A,B,hAB⟩:=List.append_of_mem he;have hpush:(leftOf es (seen.push e.born)).toList=(leftOf es seen).toList.filter fun x=> !(x.born==e.born):=by
  rw[Zcl,Zcl,List.filter_filter];refine List.filter_congr fun x _=> ?_
  rw[Array.contains_push];cases seen.contains x.born<;>cases (x.born==e.born)<;>rfl
 have hnd:((A++e::B).map (·.born)).Nodup:=by
  rw[←hAB,Zcl];exact (hst.2.1).sublist (List.Sublist.map _ List.filter_sublist)
 rw[hAB,List.map_append,List.map_cons] at h;unfold ZbB at h;obtain ⟨pre,r2,rfl,h1,h2⟩:=List.map_eq_append_iff.1 h.symm;obtain ⟨p,post,rfl,h3,h4⟩:=List.map_eq_cons_iff.1 h2;simp only[Prod.mk.injEq] at h3;refine ⟨pre,p.1,p.2,post,rfl,h3.1.symm,h3.2.symm,?_⟩;unfold Zd7 ZbB;rw[hpush,hAB,Zmx hnd,List.map_append,List.map_append,h1,h4]
theorem ZfK {ag:Bool} {a b:List Int} (h:Za2 ag a=Za2 ag b):kav ag a=kav ag b:=by
 cases ag
 ·simp only[Za2,Bool.false_eq_true,if_false,Value.int.injEq,true_and] at h;simp only[kav,Bool.false_eq_true,if_false,h]
 ·rw[Zdp h]
section
variable {P:Program} {σ:St} {K:St→Prop}
theorem ZnF {d:Option Nat} {x:Operand} {x':X} {n m b r since last clock:Nat} {seen:Array Nat} {es:Array MapEntry} {ka va:Bool} {l rest:GL} (hx:cX x=some x') (h1:(σ.val x').dg=true) (hv:(σ.val x').dv= .c (.raw (.pointer (some ⟨r,0,none⟩)))) (hown:σ.own n=mapE es clock b)
  (hit:σ.own m=iterE r b since seen last) (hst:MapKept.Stamped es clock) (ZqG:since=clock) (hsl:last=clock) (hes:es.toList.map (fun e=>(e.key,e.val))=ZbB ka va l) (hrest:Zd7 ka va es seen rest)
  (hK0:rest=[]→K (σ.put d (.tup [.c (.bool false)])))
  (hK1:∀e pre k v post,rest=pre++(k,v)::post→e∈es.toList→e.key=Za2 ka k→e.val=Za2 va v→Zd7 ka va es (seen.push e.born) (pre++post)→K (St.put ⟨σ.env,upd σ.own m (iterE r b since (seen.push e.born) clock)⟩ d (.tup [.c (.bool true),kav ka k,kav va v]))):Zcq P d (.raw (.next x false)) K σ:=by
 refine ZnE (l:=l) hx h1 hv hown hit (by rw[ZqG];exact hst.1) (by omega) hes (fun h0=>hK0 ?_) fun e k v he _ h2 h3=> ?_
 ·have:=congrArg List.length hrest;rw[List.length_map,Array.length_toList,h0] at this;unfold ZbB at this;rw[List.length_map] at this;exact List.eq_nil_of_length_eq_zero this.symm
 ·obtain ⟨pre,k',v',post,e1,e2,e3,e4⟩:=ZnI hst hrest he;have:=hK1 e pre k' v' post e1 (by rw[Zcl] at he;exact (List.mem_filter.1 he).1) e2 e3 e4;have ek:kav ka k'=kav ka k:=by
   have h5:Za2 ka k'=Za2 ka k:=by rw[←e2,h2]
   exact ZfK h5
  have ev:kav va v'=kav va v:=by
   have h5:Za2 va v'=Za2 va v:=by rw[←e3,h3]
   exact ZfK h5
  rwa [ek,ev] at this
end
def gE:Gst:=⟨.bool false,fun rem L _ _=>rem=[]∧L=[]⟩
def empO:Ob:=.guest gE []
theorem Zx6 (P:Program):gE.Ok P:=by
 refine ⟨rfl,?_,?_⟩
 ·rintro rem L M w M' w' h hk hb hs;exact h
 ·rintro args wins r rem L M w loc vs ⟨h1,_⟩;cases h1
section
variable {C:Ctx} {σ:St}
theorem ZhJ {f:Nat} (hn:σ.own f= .none) (hp:¬C.pin f):∀a w,Gam C σ a w→Gam C ⟨ZcM f σ.env,upd (Zbk f σ.own) f empO⟩ a w:=by
 rintro a w ⟨loc,hg⟩;have h1:=hg.forget hn hp;have hl:∀m,(upd loc f undef m).oneCell'=true→upd loc f (Zcu []) m=upd loc f undef m:=by
  intro m hm;by_cases e:m=f
  ·subst e;simp[upd] at hm;cases hm
  ·simp[upd,e]
 have hfo:∀m b,(upd (Zbk f σ.own) f empO m).has (upd loc f (Zcu []) m) b→(Zbk f σ.own m).has (upd loc f undef m) b:=by
  intro m b h;by_cases e':m=f
  ·subst e';simp only[upd,if_true,empO,Ob.has,Zan] at h;cases h
  ·simp only[upd,e',if_false] at h⊢;exact h
 refine ⟨upd loc f (Zcu []),h1.reown (fun n hn'=> ?_) (fun t=>RepA.reloc hl (h1.slots t)) (fun b o hm=> ?_) (fun b ⟨n,h⟩=>⟨n,hfo n b h⟩) (fun n=> ?_) (fun n m b hnm k1 k2=>h1.disj n m b hnm (hfo n b k1) (hfo m b k2))⟩
 ·have:n≠f:=fun e=>hp (e▸hn')
  simp[upd,this]
 ·obtain ⟨n,h⟩:=hm;by_cases e':n=f
  ·subst e';simp only[upd,if_true,empO,Ob.mut,Zan] at h;cases h
  ·exact ⟨n,by simp only[upd,e',if_false] at h⊢;exact h⟩
 ·by_cases e':n=f
  ·subst e';simp only[upd,if_true];exact ⟨Zx6 _,[],rfl,⟨rfl,rfl⟩,fun b hb=>by cases hb⟩
  ·have:=h1.objs n;simp only[upd,e',if_false] at this⊢;exact ObOk.reloc (loc:=upd loc f undef) hl this
theorem Ze0 {v:VC} {Q:Exit→St→Prop} (f:Nat) (hf:f<1000) (hn:σ.own f= .none) (h:WV C v Q ⟨ZcM f σ.env,upd (Zbk f σ.own) f empO⟩):WV C v Q σ:=
 Zg1 (fun a w hg=>ZhJ hn (fun hp=>by obtain ⟨_,hg'⟩:=hg;have:=(hg'.pin f hp).1;omega) a w hg) h
end
attribute [go_sem] empO mapE iterE
end Go.V

/-
 A contract out of a call that leaves all that lay there as it was.
-/
namespace Go.V
open Go.RowKit
theorem Zfg {P:Program} {f:FuncId} {args:List AV} {l:List Ob} {Post:AV→Prop} (hf:Zbs P f) (hl:l.length≤1000)
  (h:∀ (w:World) (M:Cells) (loc:Nat → Value) (vs:List Value),LentOk P w M loc (ZaV l []) → RepAs w (AddM M (ZaV l []) loc) loc args vs →
   Calls P f vs.toArray w fun e w'=>∃v r,e= .returned v∧Post r∧Below w.heap.size w w'∧∀M':Cells,(∀b o,M' b o→b<w.heap.size)→RepA w' M' loc r v):
  ZaE P f args l [] (fun r l'=>Post r∧l'=l):=by
 refine ⟨hf,hl,fun w M loc vs hM hLO hrep=>(h w M loc vs hLO hrep).mono ?_⟩;rintro e w' ⟨v,r,rfl,hp,hb,hr⟩;have hlt:∀b o,AddM M (ZaV l []) loc b o→b<w.heap.size:=by
  rintro b o (h|⟨n,h⟩)
  ·exact (hM b o h).1
  ·exact (hLO.objs n).lt (Ob.has_of_mut h)
 have hk:Keeps w w' (AddM M (ZaV l []) loc) (AddM M (ZaV l []) loc):=⟨fun p hp _=>World.cell?_of_block (hb.block _ (Zbg hp)),fun p hp h=>h⟩;exact ⟨v,r,l,loc,rfl,⟨hp,rfl⟩,rfl,⟨hb.os,hb.tape,hb.output,hb.size,fun k hk _=>hb.block k hk⟩,hk,⟨fun n=>ObOk.keep' hk hb.size (fun b hb'=>hb.block b ((hLO.objs n).lt hb')) (hLO.objs n),hLO.disj⟩,fun n b h=> .inl ⟨n,h⟩,fun n h=>⟨h,rfl⟩,hr _ hlt⟩
end Go.V

/-
 Slices of slices of numbers that grow:one object;its array and its rows are known by their addresses.
-/
namespace Go.V
section
variable {C:Ctx} {σ:St}
variable {K:St→Prop} {is:List Ins} {Q:Exit→St→Prop}
end
section
variable {P:Program} {σ:St} {K:St→Prop}
end
section
variable {P:Program} {σ:St} {K:St→Prop}
end
end Go.V

/-
 An entry of a map that is written behind its reading (m[k]++):the place first,the value later.
-/
namespace Go.V
section
variable {P:Program} {σ:St} {K:St→Prop}
end
end Go.V

/-
 Maps whose keys are strings,boxes that are known by their place,values behind interfaces.
-/
namespace Go.V
open Go.WideMaps
abbrev SL:=List (List UInt8×Value)
def sv (s:List UInt8):Value:=.string ⟨s.toArray⟩
theorem ZwR {a b:List UInt8} (h:sv a=sv b):a=b:=by
 simp only[sv,Value.string.injEq,ByteArray.mk.injEq] at h;exact congrArg Array.toList h
def ZiR (l:SL):List (Value×Value):=l.map fun p=>(sv p.1,p.2)
def Zd8 (l:SL) (k:List UInt8):Option Value:=(l.find? fun p=>p.1==k).map (·.2)
theorem Zgx:∀(l:SL) (j:Nat) (p:List UInt8×Value),(l.map (·.1)).Nodup→l[j]? =some p→l.find? (fun q=>q.1==p.1)=some p
 |[],j,p,_,h=>by simp at h
 |q::l,0,p,_,h=>by
  simp only[List.getElem?_cons_zero,Option.some.injEq] at h;subst h;simp
 |q::l,j+1,p,hn,h=>by
  simp only[List.getElem?_cons_succ] at h;simp only[List.map_cons,List.nodup_cons] at hn;have hp:p∈l:=List.mem_of_getElem? h;have hne:(q.1==p.1)=false:=by
   simp only[beq_eq_false_iff_ne,ne_eq];intro he;exact hn.1 (he▸List.mem_map_of_mem hp)
  rw[List.find?_cons,hne];exact Zgx l j p hn.2 h
theorem ZgO {l:SL} {es:Array MapEntry} {k:List UInt8} (h:es.toList.map (fun e=>(e.key,e.val))=ZiR l) (hn:(es.toList.map (·.key)).Nodup) {j:Nat} {e:MapEntry} (he:es.toList[j]? =some e) (hk:e.key=sv k):Zd8 l k=some e.val:=by
 have hj:(es.toList.map (fun e=>(e.key,e.val)))[j]? =some (e.key,e.val):=by rw[List.getElem?_map,he];rfl
 rw[h] at hj;unfold ZiR at hj;rw[List.getElem?_map] at hj;cases hl:l[j]? with
 |none=>rw[hl] at hj;cases hj
 |some p=>
  rw[hl] at hj;simp only[Option.map_some,Option.some.injEq,Prod.mk.injEq] at hj;have hpk:p.1=k:=ZwR (hj.1.trans hk);have hnd:(l.map (·.1)).Nodup:=by
   have h2:es.toList.map (·.key)=(l.map (·.1)).map sv:=by
    have:=congrArg (List.map Prod.fst) h;simpa [ZiR,Function.comp_def] using this
   rw[h2] at hn;exact List.Pairwise.of_map sv (fun a b hab he=>hab (by rw[he])) hn
  have:=Zgx l j p hnd hl;unfold Zd8;rw[←hpk,this];simp[hj.2]
theorem Zlx {l:SL} {es:Array MapEntry} {k:List UInt8} (h:es.toList.map (fun e=>(e.key,e.val))=ZiR l) (hk:∀e∈es.toList,e.key≠sv k):Zd8 l k=none:=by
 unfold Zd8;rw[Option.map_eq_none_iff,List.find?_eq_none];intro p hp hpk;simp only[beq_iff_eq] at hpk;have hm:(sv p.1,p.2)∈ZiR l:=List.mem_map.2 ⟨p,hp,rfl⟩;rw[←h] at hm;obtain ⟨e,he,h3⟩:=List.mem_map.1 hm;simp only[Prod.mk.injEq] at h3;exact hk e he (by rw[h3.1,hpk])
def smJ (l:SL) (b:Nat) (rem:List Ent) (L:List Nat) (_:Nat→Nat→Prop) (w:World):Prop:=
 rem=[]∧L=[b]∧∃es clock,w.heap[b]? =some (.map es clock)∧MapKept.Stamped es clock∧es.toList.map (fun e=>(e.key,e.val))=ZiR l
def smG (l:SL) (b:Nat):Gst:=⟨.bool false,smJ l b⟩
def smap (l:SL) (b:Nat):Ob:=.guest (smG l b) []
theorem ZqU (P:Program) (l:SL) (b:Nat):(smG l b).Ok P:=by
 refine ⟨rfl,?_,?_⟩
 ·rintro rem L M w M' w' ⟨h1,h2,es,clock,h3,h4⟩ hk hb hs;exact ⟨h1,h2,es,clock,by rw[hb b (by rw[h2];simp)];exact h3,h4⟩
 ·rintro args wins r rem L M w loc vs ⟨h1,_⟩;cases h1
def vbJ (v:Value) (b:Nat) (rem:List Ent) (L:List Nat) (_:Nat→Nat→Prop) (w:World):Prop:=
 rem=[]∧L=[b]∧w.cell? ⟨b,0,none⟩=some v
def vbG (v:Value) (b:Nat):Gst:=⟨.bool false,vbJ v b⟩
def vbox (v:Value) (b:Nat):Ob:=.guest (vbG v b) []
theorem ZxM (P:Program) (v:Value) (b:Nat):(vbG v b).Ok P:=by
 refine ⟨rfl,?_,?_⟩
 ·rintro rem L M w M' w' ⟨h1,h2,h3⟩ hk hb hs;exact ⟨h1,h2,(World.cell?_of_block (hb b (by rw[h2];simp))).trans h3⟩
 ·rintro args wins r rem L M w loc vs ⟨h1,_⟩;cases h1
def Zpm:TypeDesc→Bool
 | .interface _=>false
 |_=>true
section
variable {P:Program} {σ:St} {K:St→Prop}
theorem ZsS {d:Nat} {t:TypeId} (hn:(σ.own d).isNone=true) (hK:∀b,K (St.new σ d (.c (.raw (.map (some b)))) (smap [] b))):Zcq P (some d) (.raw (.makeMap t none)) K σ:=by
 refine Zb6 fun C loc a w o hP ho hod hdl hg=> ?_
 have hd:d<C.N:=by simpa using hdl
 refine ⟨_,⟨w.alloc (.map #[] 0),upd loc d (Zcu [w.heap.size]),.inl ⟨.map (some w.heap.size),?_,?_⟩⟩,hK w.heap.size⟩
 ·have h1:(Instr.makeMap t none).run C.P w= .ok (.map (some w.heap.size)) (w.alloc (.map #[] 0)):=rfl;simp[execOp,ho,h1]
 ·rw[hod];refine hg.newblock hd hn (fun b hb=> ?_) (fun M loc' hk hl hv=> ?_) (fun M loc' hv=> ?_)
  ·simp only[smap,Ob.has,Zan,List.mem_singleton] at hb;exact hb
  ·refine ⟨ZqU _ _ _,[w.heap.size],rfl,⟨rfl,rfl,#[],0,by rw[Zbf],MapKept.stamped_empty 0,rfl⟩,fun b hb=> ?_⟩;simp only[List.mem_singleton] at hb;subst hb;exact ⟨by simp,.inl hg.fr.size⟩
  ·simp only[RepA,RepC];exact ⟨trivial,rfl⟩
theorem ZkC {k:TypeId} (hk:P.underlying k=some .string) {s:List UInt8} (hs:s.length≤maxLen):∃l,keyOf P k (sv s)=some l:=
 ⟨_,keyOf_string_mk hk (s:=⟨s.toArray⟩) (by simpa [ByteArray.size] using hs)⟩
theorem ZpH {op:Op} {t k e:TypeId} {x i v:Operand} {x' i' v':X} {n b:Nat} {l:SL} {key:List UInt8} {val:Value} (hop:op= .mapUpdate t x i v∨op= .insert t x i v) (ht:P.underlying t=some (.map k e)) (hk:P.underlying k=some .string)
  (hx:cX x=some x') (hi:cX i=some i') (hvx:cX v=some v') (h1:(σ.val x').dg=true) (h2:(σ.val i').dg=true) (h3:(σ.val v').dg=true) (hv:(σ.val x').dv= .c (.raw (.map (some b)))) (hj:(σ.val i').dv= .c (.str key)) (hw:∀w M loc u,RepA w M loc (σ.val v').dv u→u=val) (hown:σ.own n=smap l b)
  (hlen:key.length≤maxLen) (hls:∀p∈l,p.1.length≤maxLen) (hnew:Zd8 l key=none)
  (hK:K ⟨σ.env,upd σ.own n (smap (l++[(key,val)]) b)⟩):Zcq P none (.raw op) K σ:=by
 refine Zb6 fun C loc a w o hP ho hod hdl hg=> ?_
 subst hP;have hkl:=KLaw.wide (string_law hk);have rx:=ZaN hg hx h1;have ri:=ZaN hg hi h2;have rv:=hw _ _ _ _ (ZaN hg hvx h3);rw[hv] at rx;rw[hj] at ri;simp only[RepA,RepC] at rx ri;change _=sv key at ri
 have hkey:=ZkC hk hlen;have hob:=hg.objs n;rw[hown] at hob;obtain ⟨_,L,hl,⟨_,rfl,es,clock,hb,hst,hes⟩,hA⟩:=hob;have hks:∀e∈es.toList,∃l,keyOf C.P k e.key=some l:=fun e he=>by
  have hm:(e.key,e.val)∈es.toList.map (fun e=>(e.key,e.val)):=List.mem_map.2 ⟨e,he,rfl⟩;rw[hes] at hm;obtain ⟨p,hp,h3⟩:=List.mem_map.1 hm;simp only[Prod.mk.injEq] at h3;rw[←h3.1];exact ZkC hk (hls p hp)
 have hrun:∃es' clock',(Instr.mapUpdate t (.map (some b)) (sv key) val).run C.P w= .ok () {w with heap:=w.heap.setIfInBounds b (.map es' clock')} ∧MapKept.Stamped es' clock'∧es'.toList.map (fun e=>(e.key,e.val))=ZiR (l++[(key,val)]):=by
  rcases hkl.find w hkey es.toList hks with ⟨f1,f2⟩|⟨j,e0,f1,f2,f3⟩
  ·refine ⟨es.push {key:=sv key,val:=val,born:=clock},clock+1,?_,MapKept.stamped_push hst f2,?_⟩
   ·simp[Instr.mapUpdate,run_underlying ht,MapKept.run_getObj_map hb,hkl.check w _ hkey,f1,MapKept.run_setObj_map _ hb]
   ·rw[Array.toList_push,List.map_append,hes];unfold ZiR;rw[List.map_append];rfl
  ·rw[ZgO hes hst.2.2 f2 f3] at hnew;cases hnew
 obtain ⟨es',clock',hr1,hr2,hr3⟩:=hrun;refine ⟨_,⟨{w with heap:=w.heap.setIfInBounds b (.map es' clock')},loc,.inr ⟨?_,?_⟩⟩,hK⟩
 ·rcases hop with rfl|rfl<;>simp[execOp,ho,rx.1,ri,rv,hr1]
 ·rw[hod];refine hg.setGuest (g:=smG l b) hown hl (by simp) hb (fun x h=>by cases h) (ZqU _ _ _) fun M=>⟨rfl,rfl,es',clock',(MapKept.heap_set hb).1,hr2,hr3⟩
theorem ZpG {d:Option Nat} {t k e:TypeId} {x i:Operand} {x' i':X} {n b:Nat} {l:SL} {key:List UInt8} {z:Value} {vr:AV} (ht:P.underlying t=some (.map k e)) (hk:P.underlying k=some .string) (hz:(P.info? e).bind (·.zero)=some z)
  (hx:cX x=some x') (hi:cX i=some i') (h1:(σ.val x').dg=true) (h2:(σ.val i').dg=true) (hv:(σ.val x').dv= .c (.raw (.map (some b)))) (hj:(σ.val i').dv= .c (.str key)) (hown:σ.own n=smap l b)
  (hlen:key.length≤maxLen) (hls:∀p∈l,p.1.length≤maxLen) (hr:∀w M loc,RepA w M loc vr ((Zd8 l key).getD z))
  (hK:K (σ.put d (.tup [vr,.c (.bool (Zd8 l key).isSome)]))):Zcq P d (.raw (.lookup t x i true)) K σ:=by
 refine Zbr (fun C loc a w o hP ho hg=> ?_) hK;subst hP;have hkl:=KLaw.wide (string_law hk);have rx:=ZaN hg hx h1;have ri:=ZaN hg hi h2;rw[hv] at rx;rw[hj] at ri;simp only[RepA,RepC] at rx ri;change _=sv key at ri
 have hkey:=ZkC hk hlen;have hob:=hg.objs n;rw[hown] at hob;obtain ⟨_,L,hl,⟨_,rfl,es,clock,hb,hst,hes⟩,hA⟩:=hob;have hks:∀e∈es.toList,∃l,keyOf C.P k e.key=some l:=fun e he=>by
  have hm:(e.key,e.val)∈es.toList.map (fun e=>(e.key,e.val)):=List.mem_map.2 ⟨e,he,rfl⟩;rw[hes] at hm;obtain ⟨p,hp,h3⟩:=List.mem_map.1 hm;simp only[Prod.mk.injEq] at h3;rw[←h3.1];exact ZkC hk (hls p hp)
 refine ⟨.tuple #[(Zd8 l key).getD z,.bool (Zd8 l key).isSome],?_,?_⟩
 ·rcases hkl.find w hkey es.toList hks with ⟨f1,f2⟩|⟨j,e0,f1,f2,f3⟩
  ·rw[Zlx hes f2];simp[execOp,ho,rx.1,ri,Instr.lookup,run_underlying ht,MapKept.run_getObj_map hb,hkl.check w _ hkey,f1,Zfb hz]
  ·rw[ZgO hes hst.2.2 f2 f3];simp[execOp,ho,rx.1,ri,Instr.lookup,run_underlying ht,MapKept.run_getObj_map hb,hkl.check w _ hkey,f1]
 ·simp only[RepA];refine ⟨[_,_],rfl,?_⟩;simp only[RepAs];exact ⟨_,_,rfl,hr _ _ _,_,_,rfl,by simp only[RepA,RepC],rfl⟩
theorem Zhu {d:Option Nat} {t:TypeId} {x:Operand} {x':X} {v:Value} (ht:(P.underlying t).map Zpm=some true) (hx:cX x=some x') (h1:(σ.val x').dg=true) (hv:∀w M loc u,RepA w M loc (σ.val x').dv u→u=v)
  (hK:K (σ.put d (.c (.raw (.iface t v))))):Zcq P d (.raw (.makeInterface t x)) K σ:=by
 refine Zbr (fun C loc a w o hP ho hg=> ?_) hK;subst hP;have rx:=hv _ _ _ _ (ZaN hg hx h1);refine ⟨.iface t v,?_,by simp only[RepA,RepC];exact ⟨trivial,rfl⟩⟩;cases hu:C.P.underlying t with
 |none=>rw[hu] at ht;cases ht
 |some D=>
  rw[hu] at ht;simp only[Option.map_some,Option.some.injEq] at ht;cases D<;>simp[Zpm] at ht<;>simp[execOp,ho,rx,Instr.makeInterface,run_underlying hu]
theorem Zhv {d:Option Nat} {xt t:TypeId} {x:Operand} {x':X} {u:Value} {vr:AV} (ht:(P.underlying t).map Zpm=some true) (hx:cX x=some x') (h1:(σ.val x').dg=true) (hv:(σ.val x').dv= .c (.raw (.iface t u)))
  (hr:∀w M loc,RepA w M loc vr u) (hK:K (σ.put d (.tup [vr,.c (.bool true)]))):Zcq P d (.raw (.typeAssert x xt t true)) K σ:=by
 refine Zbr (fun C loc a w o hP ho hg=> ?_) hK;subst hP;have rx:=ZaN hg hx h1;rw[hv] at rx;simp only[RepA,RepC] at rx;refine ⟨.tuple #[u,.bool true],?_,?_⟩
 ·cases hu:C.P.underlying t with
  |none=>rw[hu] at ht;cases ht
  |some D=>
   rw[hu] at ht;simp only[Option.map_some,Option.some.injEq] at ht;cases D<;>simp[Zpm] at ht<;>simp[execOp,ho,rx.1,Instr.typeAssert,run_underlying hu]
 ·simp only[RepA];refine ⟨[_,_],rfl,?_⟩;simp only[RepAs];exact ⟨_,_,rfl,hr _ _ _,_,_,rfl,by simp only[RepA,RepC],rfl⟩
theorem ZnG {d:Option Nat} {xt t t':TypeId} {x:Operand} {x':X} {u z:Value} {vr:AV} (hne:t'≠t) (ht:(P.underlying t).map Zpm=some true) (hz:(P.info? t).bind (·.zero)=some z) (hx:cX x=some x') (h1:(σ.val x').dg=true) (hv:(σ.val x').dv= .c (.raw (.iface t' u)))
  (hr:∀w M loc,RepA w M loc vr z) (hK:K (σ.put d (.tup [vr,.c (.bool false)]))):Zcq P d (.raw (.typeAssert x xt t true)) K σ:=by
 refine Zbr (fun C loc a w o hP ho hg=> ?_) hK;subst hP;have rx:=ZaN hg hx h1;rw[hv] at rx;simp only[RepA,RepC] at rx;refine ⟨.tuple #[z,.bool false],?_,?_⟩
 ·cases hu:C.P.underlying t with
  |none=>rw[hu] at ht;cases ht
  |some D=>
   rw[hu] at ht;simp only[Option.map_some,Option.some.injEq] at ht;cases D<;>simp[Zpm] at ht<;>simp[execOp,ho,rx.1,Instr.typeAssert,run_underlying hu,hne,Zfb hz]
 ·simp only[RepA];refine ⟨[_,_],rfl,?_⟩;simp only[RepAs];exact ⟨_,_,rfl,hr _ _ _,_,_,rfl,by simp only[RepA,RepC],rfl⟩
theorem ZjB {d:Option Nat} {x:X} {n b:Nat} {v:Value} {vr:AV} (h1:(σ.val x).dg=true) (hv:(σ.val x).dv= .c (.raw (Zd6 b 0))) (hown:σ.own n=vbox v b) (hr:∀w M loc,RepA w M loc vr v)
  (hK:K (σ.put d vr)):Zcq P d (.ld true 1 x) K σ:=by
 refine Zfk (fun C loc a w o hP hci hg=> ?_) hK;subst hP;generalize ho:o.op=op at hci;generalize hone:true=one at hci;cases hci with
 |load ha hs hx=>
  rename_i t ag;cases ag with
  |true=>cases hone
  |false=>
  have rx:=ZaN hg hx h1;rw[hv] at rx;simp only[RepA,RepC,Zd6] at rx;have hob:=hg.objs n;rw[hown] at hob;obtain ⟨_,L,_,⟨_,_,hcell⟩,_⟩:=hob;exact ⟨v,by simp[execOp,ho,rx.1,Instr.loadAt,Instr.sureAddr,ZbP ha hcell],hr _ _ _⟩
end
end Go.V

/-
 A box becomes an object that is known by its place.
-/
namespace Go.V
section
variable {C:Ctx} {σ:St}
theorem Zoo {f d t:Nat} {x:AV} {v:Value} (hfd:f≠d) (hof:σ.own f=empO) (hod:σ.own d= .box [x]) (ht:σ.env t= .bp d 0) (hx:∀w M loc u,RepA w M loc x u→u=v):
  ∀a w,Gam C σ a w→∃b:Nat,Gam C ⟨upd σ.env t (.c (.raw (Zd6 b 0))),upd (upd σ.own d .none) f (vbox v b)⟩ a w:=by
 rintro a w ⟨loc,hg⟩;have h1:=hg.objs d;rw[hod] at h1;obtain ⟨b,lv,ty,k1,k2,k3,k4⟩:=h1;have h2:=hg.objs f;rw[hof] at h2;obtain ⟨_,Lg,m1,⟨_,m3⟩,m6⟩:=h2;subst m3;have h3:=hg.slots t;rw[ht] at h3;simp only[RepA] at h3;obtain ⟨b',q1,q2⟩:=h3;rw[k1] at q1;simp only[Value.pointer.injEq,Option.some.injEq,Addr.mk.injEq,and_true] at q1;subst q1;simp only[RepAs] at k4;obtain ⟨u,_,rfl,hu,rfl⟩:=k4;have huv:=hx _ _ _ _ hu;subst huv;have hcell:w.cell? ⟨b,0,none⟩=some u:=by rw[cell_of_row w b _ _ _ _ k3.1];rfl
 have hbd:∀x,(σ.own d).has (loc d) x↔b=x:=fun x=>by rw[hod,k1];exact Iff.rfl
 refine ⟨b,?_⟩;obtain ⟨own',hown'⟩:∃own',own'=upd (upd σ.own d .none) f (vbox u b):=⟨_,rfl⟩;rw[←hown'];obtain ⟨loc',hloc'⟩:∃loc',loc'=upd loc f (Zcu [b]):=⟨_,rfl⟩;have hf1:loc' f=Zcu [b]:=by rw[hloc'];simp[upd]
 have hf2:∀n,n≠f→loc' n=loc n:=fun n hn=>by rw[hloc'];simp[upd,hn]
 have ho1:own' f=vbox u b:=by rw[hown'];simp[upd]
 have ho2:own' d= .none:=by rw[hown'];simp[upd,Ne.symm hfd]
 have ho3:∀n,n≠f→n≠d→own' n=σ.own n:=fun n h1 h2=>by rw[hown'];simp[upd,h1,h2]
 have hl:∀n,(loc n).oneCell'=true→loc' n=loc n:=fun n hn=>by
  by_cases e:n=f
  ·subst e;rw[m1,Zj2] at hn;cases hn
  ·exact hf2 n e
 have hhas:∀n x,(own' n).has (loc' n) x→(n≠d∧n≠f∧(σ.own n).has (loc n) x)∨(n=f∧x=b):=by
  intro n x h;by_cases e:n=f
  ·subst e;rw[ho1,hf1] at h;simp only[vbox,Ob.has,Zan,List.mem_singleton] at h;exact .inr ⟨rfl,h⟩
  ·by_cases e2:n=d
   ·subst e2;rw[ho2] at h;exact (Ob.has_none _ _ h).elim
   ·rw[ho3 n e e2,hf2 n e] at h;exact .inl ⟨e2,e,h⟩
 refine ⟨loc',hg.reown (fun n hn=>hf2 n fun e=>Zgy hg m1 (e▸hn)) (fun s=> ?_) (fun x y hm=> ?_) (fun x ⟨n,h⟩=> ?_) (fun n=> ?_) (fun n m x hnm h1 h2=> ?_)⟩
 ·by_cases e:s=t
  ·subst e;simp only[upd,if_true,RepA,RepC];exact ⟨q2,rfl⟩
  ·simp only[upd,e,if_false];exact RepA.reloc hl (hg.slots s)
 ·obtain ⟨n,h⟩:=hm;by_cases e:n=f
  ·subst e;rw[ho1,hf1] at h;simp only[vbox,Ob.mut,Zan,List.mem_singleton] at h;subst h;exact ⟨d,by rw[hod,k1];rfl⟩
  ·by_cases e2:n=d
   ·subst e2;rw[ho2] at h;exact (Ob.has_none _ _ (Ob.has_of_mut h)).elim
   ·rw[ho3 n e e2,hf2 n e] at h;exact ⟨n,h⟩
 ·rcases hhas n x h with ⟨_,_,h'⟩|⟨_,rfl⟩
  ·exact ⟨n,h'⟩
  ·exact ⟨d,(hbd _).2 rfl⟩
 ·by_cases e:n=f
  ·subst e;rw[ho1,hf1];refine ⟨ZxM _ _ _,[b],rfl,⟨rfl,rfl,hcell⟩,fun x hx=> ?_⟩;simp only[List.mem_singleton] at hx;subst hx;exact ⟨k3.lt,k2⟩
  ·by_cases e2:n=d
   ·subst e2;rw[ho2];trivial
   ·rw[ho3 n e e2,hf2 n e];exact ObOk.reloc hl (hg.objs n)
 ·rcases hhas n x h1 with ⟨n1,n2,h1'⟩|⟨a1,a2⟩<;>rcases hhas m x h2 with ⟨m1',m2',h2'⟩|⟨b1,b2⟩
  ·exact hg.disj n m x hnm h1' h2'
  ·exact hg.disj n d x n1 h1' ((hbd x).2 b2.symm)
  ·exact hg.disj m d x m1' h2' ((hbd x).2 a2.symm)
  ·exact hnm (a1.trans b1.symm)
variable {K:St→Prop} {is:List Ins} {Q:Exit→St→Prop}
theorem Zi8 {c:VC} (f d t:Nat) {x:AV} {v:Value} (hfd:f≠d) (hof:σ.own f=empO) (hod:σ.own d= .box [x]) (ht:σ.env t= .bp d 0) (hx:∀w M loc u,RepA w M loc x u→u=v)
  (h:∀b:Nat,WV C c Q ⟨upd σ.env t (.c (.raw (Zd6 b 0))),upd (upd σ.own d .none) f (vbox v b)⟩):WV C c Q σ:=
 Zun (τ:=Nat) (S:=fun b=>⟨upd σ.env t (.c (.raw (Zd6 b 0))),upd (upd σ.own d .none) f (vbox v b)⟩) (p:=fun _=>True)
  (fun a w hg=>by obtain ⟨b,hb⟩:=Zoo hfd hof hod ht hx a w hg;exact ⟨b,trivial,hb⟩) (fun b _=>h b)
end
def fnV (f:FuncId) (cs:List Value):Value:=.func (.func f) #[] cs.toArray
theorem Zhx {w:World} {M:Cells} {loc:Nat→Value} {f:FuncId} {u:Value} (h:RepA w M loc (.fn f []) u):u=fnV f []:=by
 simp only[RepA,RepAs] at h;obtain ⟨l,rfl,rfl⟩:=h;rfl
theorem ZjD {w:World} {M:Cells} {loc:Nat→Value} {f:FuncId} {u x:Value} (h:RepA w M loc (.fn f [.c (.raw x)]) u):u=fnV f [x]:=by
 simp only[RepA,RepAs,RepC] at h;obtain ⟨l,rfl,v,vs,rfl,⟨rfl,_⟩,rfl⟩:=h;rfl
theorem Zem (w:World) (M:Cells) (loc:Nat→Value) (f:FuncId):RepA w M loc (.fn f []) (fnV f []):=by
 simp only[RepA,RepAs];exact ⟨[],rfl,rfl⟩
theorem ZrC (w:World) (M:Cells) (loc:Nat→Value) (f:FuncId) {x:Value} (hx:x.oneCell'=true):RepA w M loc (.fn f [.c (.raw x)]) (fnV f [x]):=by
 simp only[RepA,RepAs,RepC];exact ⟨[x],rfl,x,[],rfl,⟨rfl,hx⟩,rfl⟩
theorem Zdx {C:Ctx} {v w:VC} {Q:Exit→St→Prop} {σ:St} (R:St→Prop) (h2:WV C v (Zaq R Q) σ) (h:∀σ',R σ'→WV C w Q σ'):WV C v (Zaq (WV C w Q) Q) σ:=h2.mono fun e σ' hq=>by
 cases e
 ·exact h _ hq
 all_goals exact hq
def isI:TypeDesc→Bool
 | .interface _=>true
 |_=>false
theorem ZnR {P:Program} {t:TypeId} (w:World) (ht:(P.underlying t).map isI=some true):(Op.equal t .nilIface .nilIface).run P w= .ok true w:=by
 cases hu:P.underlying t with
 |none=>rw[hu] at ht;cases ht
 |some D=>
  rw[hu] at ht;simp only[Option.map_some,Option.some.injEq] at ht;cases D<;>simp[isI] at ht
  unfold Op.equal Op.maxDepth;rw[show (10000:Nat)=9999+1 from rfl];unfold Op.equalIn;simp[run_underlying hu]
theorem ZsR {P:Program} {σ:St} {K:St→Prop} {d:Option Nat} {t t':TypeId} {x:Operand} {x':X} (ht:(P.underlying t).map isI=some true) (hx:cX x=some x') (h1:(σ.val x').dg=true) (hv:(σ.val x').dv= .c (.raw .nilIface)) (hK:K (σ.put d (.c (.bool true)))):
  Zcq P d (.raw (.binOp .eql t x (.const .nilIface) t')) K σ:=by
 refine Zbr (fun C loc a w o hP ho hg=> ?_) hK;subst hP;have rx:=ZaN hg hx h1;rw[hv] at rx;simp only[RepA,RepC] at rx;refine ⟨.bool true,?_,by simp only[RepA,RepC]⟩;have h2:(eqGuard .eql t x (.const .nilIface) .nilIface .nilIface).run C.P w= .ok () w:=by simp[eqGuard]
 have h3:a.eval (.const .nilIface)= .nilIface:=rfl;simp[execOp,ho,rx.1,h3,h2,binOp,ZnR w ht]
attribute [go_sem] smap vbox
end Go.V

/-
 A slice of an own object is cleared;no condition.
-/
namespace Go.V
section
variable {C:Ctx} {σ:St} {K:St→Prop} {is:List Ins} {Q:Exit→St→Prop}
theorem Zp4 (n:Nat):(Builtin.zeroCells #[Value.int .i64 0] n).toList=List.replicate n (Value.int .i64 0):=by
 apply List.ext_getElem
 ·simp[Builtin.zeroCells]
 ·intro i h1 h2;simp only[Builtin.zeroCells,List.getElem_replicate,Array.getElem_toList,Array.getElem_map];simp[Nat.mod_one]
theorem Zkw (w:World) (M:Cells) (loc:Nat→Value):∀n:Nat,RepAs w M loc (List.replicate n (.c (.int .i64 0))) (List.replicate n (Value.int .i64 0))
 |0=>by simp only[List.replicate_zero,RepAs]
 |n+1=>by
  simp only[List.replicate_succ,RepAs];exact ⟨_,_,rfl,by simp only[RepA,RepC],Zkw w M loc n⟩
theorem Zf2 {P:Program} {σ:St} {d:Option Nat} {dT e:TypeId} {x:Operand} {x':X} {n off len cap:Nat} {cs:List AV} {K:St→Prop} (ht:P.underlying dT=some (.slice e)) (hz:(P.info? e).bind (·.zero)=some (.int .i64 0))
  (hx:cX x=some x') (h1:(σ.val x').dg=true) (hv:(σ.val x').dv= .vw 1 n off len cap) (hlen:len≠0) (hown:σ.own n= .box cs) (hfit:off+len≤cs.length)
  (hK:K (St.put ⟨σ.env,upd σ.own n (.box (splice cs off (List.replicate len (.c (.int .i64 0)))))⟩ d (.tup []))):Zcq P d (.raw (.call {callee:=.builtin .clear,args:=#[x],argTypes:=#[dT]})) K σ:=by
 refine Zb6 fun C loc a w o hP ho hod hdl hg=> ?_
 subst hP;have rx:=ZaN hg hx h1;rw[hv] at rx;simp only[RepA] at rx;obtain ⟨b,o',hloc,hxe,hoo,hlc,hcm⟩:=rx;have ho':o'=off:=hoo (by omega);subst ho';have hob:=hg.objs n;rw[hown] at hob;obtain ⟨b',l,e',hlb,hB,hh,hrs⟩:=hob;rw[hloc] at hlb;simp only[Value.pointer.injEq,Option.some.injEq,Addr.mk.injEq,and_true] at hlb;subst hlb;have hll:=hrs.length;obtain ⟨us,hus⟩:∃us,us=List.replicate len (Value.int .i64 0):=⟨_,rfl⟩;have hul:us.length=len:=by rw[hus,List.length_replicate]
 have hst:=ZcB C.P b o' e' us 0 l w hh (by rw[hul];omega) (fun v hv=>by rw[hus] at hv;rw[List.eq_of_mem_replicate hv];rfl);simp only[Nat.add_zero] at hst;have hrow:(l.take o'++us++l.drop (o'+us.length)).toArray=(splice l o' us).toArray:=by simp[splice]
 rw[hrow] at hst;have hry:=Zkw w (MM C σ.own loc) loc len;rw[←hus] at hry;have hfit2:o'+us.length≤l.length:=by rw[hul];omega
 have hG:=hg.setBox (off:=o') hown hloc hB hh hfit2 hrs hry;refine ⟨_,⟨w.setRow b (splice l o' us).toArray,loc,.inl ⟨.tuple #[],?_,?_⟩⟩,hK⟩
 ·cases hq:C.P.info? e with
  |none=>simp[hq] at hz
  |some i=>
   have hi:i.zero=some (.int .i64 0):=by simpa [hq] using hz
   have hzr:=Zp4 len;rw[←hus] at hzr;have hcp:(Builtin.clear_ #[dT] o.type #[.slice (some ⟨b,o',none⟩) len cap]).run C.P w= .ok (.tuple #[]) (w.setRow b (splice l o' us).toArray):=by
    cases len with
    |zero=>exact absurd rfl hlen
    |succ m=>
     have hcl:(Value.int IntKind.i64 0).cells= #[Value.int .i64 0]:=rfl;simp[Builtin.clear_,run_underlying ht,zeroValue,typeInfo,hq,hi,hcl,hzr,hst]
   simp[execOp,ho,resolve,invoke,builtin,hxe,hcp]
 ·rw[hod];exact hG.put hdl (by simp only[RepA,RepAs];exact ⟨_,rfl,rfl⟩)
end
end Go.V
