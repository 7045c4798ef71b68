/-
  Contracts of the layer's functions, of the laws' helpers and of the law; conditions: as each theorem states.
-/
import Derived.Test.YtcggfogkfhlmlaaGreatDoorV2
import Derived.ProofKit
import Derived.Test.YtcggfogkfhlmlaaGreatDoorU9
import Derived.Test.YtcggfogkfhlmlaaGreatDoorU5
import Derived.Test.YtcggfogkfhlmlaaGreatDoorU8
import Derived.LaidSub
import Derived.OpenShut
import Derived.Test.YtcggfogkfhlmlaaGreatDoorRows
set_option linter.unusedVariables false
set_option linter.unusedSimpArgs false
/-
 Arguments that come in,as data.
-/
namespace Go.V
open Go
def M0:Cells:=fun _ _=>False
def Zfl (w:World):List CD→List Value→Prop
 |[],vs=>vs=[]
 |d::ds,vs=>∃v vs',vs=v::vs'∧RepC w M0 d v∧Zfl w ds vs'
def Op1 (P:Program) (t:TypeId) (g:CD→Prop):Prop:=
 ∀(H:Type) (enc:TypeId×Value→H) (w:World) (sp:Nat→Bool) (fuel:Nat) (cs:List Value) (x:DataW H×List MemPlace),DataW.trod enc P w 0 sp true fuel t cs=some x→∃d v,cs=[v]∧g d∧RepC w M0 d v
def OpN (P:Program) (t:TypeId) (G:List CD→Prop):Prop:=
 ∀(H:Type) (enc:TypeId×Value→H) (w:World) (sp:Nat→Bool) (fuel:Nat) (cs:List Value) (x:DataW H×List MemPlace),DataW.trod enc P w 0 sp true fuel t cs=some x→∃ds,G ds∧ds.length=cs.length∧Zfl w ds cs
theorem ZlM {P:Program} {t:TypeId} {g:CD→Prop} (h:Op1 P t g):OpN P t fun ds=>∃d,ds=[d]∧g d:=by
 intro H enc w sp fuel cs x hx;obtain ⟨d,v,rfl,hg,hr⟩:=h H enc w sp fuel cs x hx;exact ⟨[d],⟨d,rfl,hg⟩,rfl,v,[],rfl,hr,rfl⟩
theorem Zq8 {P:Program} {t:TypeId} {k:IntKind} (ht:P.underlying t=some (.int k)):Op1 P t fun d=>∃n,d= .int k n:=by
 intro H enc w sp fuel cs x hx;obtain ⟨n,rfl,_,_⟩:=DataW.trod_int ht hx;exact ⟨.int k n,_,rfl,⟨n,rfl⟩,by simp only[RepC]⟩
theorem ZlO {w:World}:∀{ds:List CD} {cs:List Value} {ad:Addr},Zfl w ds cs→(∀j,j<cs.length→w.cell? (ad.add j)=cs[j]?)→RepL w M0 ds ad
 |[],cs,ad,_,_=>by simp only[RepL]
 |d::ds,cs,ad,h,hc=>by
  obtain ⟨v,vs,rfl,h1,h2⟩:=h;simp only[RepL];refine ⟨⟨v,?_,id,h1⟩,ZlO h2 fun j hj=> ?_⟩
  ·have:=hc 0 (by simp);simpa [Addr.add] using this
  ·have:=hc (j+1) (by simpa using hj);rw[ZbS,Nat.add_comm 1 j];simpa using this
theorem ZlN {w:World} {n:Nat}:∀{es:List (List CD)} {ad:Addr},(∀i e,es[i]? =some e→e.length=n∧RepL w M0 e (ad.add (i*n)))→RepE w M0 n es ad
 |[],ad,_=>by simp only[RepE]
 |e::es,ad,h=>by
  simp only[RepE];refine ⟨?_,ZlN fun i e' hi=> ?_⟩
  ·have:=h 0 e rfl;simpa [Addr.add] using this
  ·have:=h (i+1) e' (by simpa using hi);have e:ad.add ((i+1)*n)=(ad.add n).add (i*n):=by rw[ZbS,Nat.add_mul,Nat.one_mul,Nat.add_comm]
   rw[e] at this;exact this
theorem Zfi {P:Program} {t e:TypeId} {G:List CD→Prop} (ht:P.underlying t=some (.slice e)) (h:OpN P e G):Op1 P t fun d=>∃es,d= .sl (P.cellsOf e) es∧∀x∈es,G x:=by
 intro H enc w sp fuel cs x hx;rcases DataW.trod_slice ht hx with ⟨rfl,rfl⟩|⟨a,len,cap,elems,rest,n,rfl,rfl,rfl,_,hlc,hcm,hel,hE,_,_⟩
 ·refine ⟨.sl (P.cellsOf e) [],_,rfl,⟨[],rfl,by simp⟩,?_⟩;simp only[RepC];exact ⟨none,0,rfl,Nat.le_refl _,Nat.zero_le _,.inl trivial⟩
 ·have each:∀i,i<len→∃ds,G ds∧ds.length=P.cellsOf e∧RepL w M0 ds (a.add (i*P.cellsOf e)):=by
   intro i hi;have h1:=hE i hi;rw[List.getElem?_eq_getElem (by omega),Option.bind_eq_some_iff] at h1;obtain ⟨cs',hcs,hd⟩:=h1;obtain ⟨ds,hg,hl,hr⟩:=h H enc w sp n cs' _ hd;obtain ⟨_,hlen,hcell⟩:=World.cells?_some hcs;exact ⟨ds,hg,by omega,ZlO hr fun j hj=>hcell j (by omega)⟩
  have hex:∀m,m≤len→∃es:List (List CD),es.length=m∧∀(i:Nat) (e':List CD),es[i]? =some e'→G e'∧e'.length=P.cellsOf e∧RepL w M0 e' (a.add (i*P.cellsOf e)):=by
   intro m;induction m with
   |zero=>intro _;exact ⟨[],rfl,by simp⟩
   |succ m ih=>
    intro hm;obtain ⟨es,hes,hh⟩:=ih (by omega);obtain ⟨ds,h1,h2,h3⟩:=each m (by omega);refine ⟨es++[ds],by simp[hes],fun i e' hi=> ?_⟩;rcases Nat.lt_or_ge i es.length with hlt|hge
    ·rw[List.getElem?_append_left hlt] at hi;exact hh i e' hi
    ·rw[List.getElem?_append_right hge] at hi;have:i -es.length=0:=by
      have:=(List.getElem?_eq_some_iff.1 hi).1;simp at this;omega
     rw[this] at hi;simp at hi;subst hi;have:i=m:=by omega
     subst this;exact ⟨h1,h2,h3⟩
  obtain ⟨es,hes,hh⟩:=hex len (Nat.le_refl _);refine ⟨.sl (P.cellsOf e) es,_,rfl,⟨es,rfl,fun x hx=> ?_⟩,?_⟩
  ·obtain ⟨i,hi⟩:=List.getElem?_of_mem hx;exact (hh i x hi).1
  ·simp only[RepC];exact ⟨some a,cap,by rw[hes],by omega,hcm,.inr ⟨a,rfl,ZlN fun i e' hi=>(hh i e' hi).2⟩⟩
theorem ZcE {P:Program} {t:TypeId} {fs:Array Field} {gs:List (CD→Prop)} (ht:P.underlying t=some (.struct fs)) (hn:P.cellsOf t=fs.size) (hgs:gs.length=fs.size)
  (h:∀(i:Nat) (f:Field) (g:CD→Prop),fs[i]? =some f→gs[i]? =some g→f.offset=i∧P.cellsOf f.type=1∧Op1 P f.type g):OpN P t fun ds=>ds.length=gs.length∧∀(i:Nat) (d:CD) (g:CD→Prop),ds[i]? =some d→gs[i]? =some g→g d:=by
 intro H enc w sp fuel cs x hx;obtain ⟨xs,n,rfl,rfl,hl,hxl,hX⟩:=DataW.trod_struct ht hx;have each:∀(i:Nat) (v:Value),cs[i]? =some v→∃d:CD,RepC w M0 d v∧∀g:CD→Prop,gs[i]? =some g→g d:=by
  intro i v hv;have hi:i<fs.size:=by have:=(List.getElem?_eq_some_iff.1 hv).1;omega
  obtain ⟨f,hf⟩:∃f,fs[i]? =some f:=⟨fs[i],by simp[hi]⟩;obtain ⟨g,hg⟩:∃g,gs[i]? =some g:=⟨gs[i]'(by omega),by simp[hgs,hi]⟩;obtain ⟨ho,hc,hop⟩:=h i f g hf hg;have h1:=hX i f hf;rw[ho,hc,List.getElem?_eq_getElem (by omega)] at h1;obtain ⟨d,v',hcs,hgd,hr⟩:=hop H enc w sp n _ _ h1;have:v'=v:=by
   have e:((cs.drop i).take 1)[0]? =some v:=by rw[List.getElem?_take];simp[hv]
   rw[hcs] at e;simpa using e
  subst this;refine ⟨d,hr,fun g' hg'=> ?_⟩;rw[hg] at hg';cases hg';exact hgd
 have hex:∀(cs:List Value) (k:Nat),(∀(i:Nat) (v:Value),cs[i]? =some v→∃d:CD,RepC w M0 d v∧∀g:CD→Prop,gs[k+i]? =some g→g d)→∃ds:List CD,ds.length=cs.length∧Zfl w ds cs∧∀(i:Nat) (d:CD) (g:CD→Prop),ds[i]? =some d→gs[k+i]? =some g→g d:=by
  intro cs;induction cs with
  |nil=>intro k _;exact ⟨[],rfl,rfl,by simp⟩
  |cons v vs ih=>
   intro k hh;obtain ⟨d,h1,h2⟩:=hh 0 v rfl;obtain ⟨ds,h3,h4,h5⟩:=ih (k+1) fun i u hu=>by
    have:=hh (i+1) u (by simpa using hu);rwa [show k+(i+1)=k+1+i from by omega] at this
   refine ⟨d::ds,by simp[h3],⟨v,vs,rfl,h1,h4⟩,fun i d' g hi hg=> ?_⟩;cases i with
   |zero=>simp at hi;subst hi;exact h2 g (by simpa using hg)
   |succ i=>exact h5 i d' g (by simpa using hi) (by rwa [show k+1+i=k+(i+1) from by omega])
 obtain ⟨ds,h1,h2,h3⟩:=hex cs 0 fun i v hv=>by simpa using each i v hv
 exact ⟨ds,⟨by omega,fun i d g hi hg=>h3 i d g hi (by simpa using hg)⟩,h1,h2⟩
end Go.V
/-
 The table that the library keeps:it is lent at the row;what comes in lies elsewhere.
-/
namespace Go.Proofs.YtcggfogkfhlmlaaGreatDoor
open Go Go.V
open Go.RowKit
variable {tb:Obj}
def Zh9 (tb:Obj):Prop:=∃ty fr,tb= .cells (Lib.pow10Tab.map (Value.int .u64)).toArray ty fr
def Zph:Nat→Value:=fun n=>if n=1000 then Zcu [3] else undef
def M3 (tb:Obj):Cells:=AddM M0 (ZaV [tabO tb] []) Zph
theorem Zws (n:Nat):ZaV [tabO tb] [] n=if n=1000 then tabO tb else .none:=by
 rw[Zaw (by simp)];simp only[List.map_nil,Za1,Zeb,upd,o0];rw[if_neg (by simp only[List.length_nil];omega)]
theorem ZuQ {b:Nat} (h:Foot (ZaV [tabO tb] []) Zph b):b=3:=by
 obtain ⟨n,hn⟩:=h;rw[Zws] at hn;by_cases e:n=1000
 ·subst e;simp only[if_true,tabO,Zph,Ob.has,Zan,List.mem_singleton] at hn;exact hn
 ·rw[if_neg e] at hn;exact (Ob.has_none _ _ hn).elim
theorem m3 {b o:Nat} (h:M3 tb b o):b=3:=by
 rcases h with h|⟨n,h⟩
 ·exact h.elim
 ·exact ZuQ ⟨n,Ob.has_of_mut h⟩
theorem ZpV {w:World} (ht:Zh9 tb) (hw:w.heap[3]? =some tb) {ad:Addr} (hb:ad.block=3) {v:Value} (h:w.cell? ad=some v):∃n,v= .int .u64 n:=by
 obtain ⟨ty,fr,rfl⟩:=ht;unfold World.cell? at h;rw[hb,hw] at h;simp only at h;split at h
 ·cases h
 ·have:=Array.mem_of_getElem? h;simp only[List.mem_toArray,List.mem_map] at this;obtain ⟨n,_,rfl⟩:=this;exact ⟨n,rfl⟩
def okD (d:CD):Prop:=(∃n,d= .int .i64 n)∨∃s,d= .str s
theorem ZjO {w:World} (ht:Zh9 tb) (hw:w.heap[3]? =some tb):∀{ds:List CD} {ad:Addr},(∀d∈ds,okD d)→RepL w M0 ds ad→RepL w (M3 tb) ds ad
 |[],_,_,_=>by simp only[RepL]
 |d::ds,ad,hd,h=>by
  simp only[RepL] at h⊢;obtain ⟨⟨u,h1,_,h3⟩,h4⟩:=h;have hk:=hd d (by simp);refine ⟨⟨u,h1,fun hm=> ?_,?_⟩,ZjO ht hw (fun x hx=>hd x (by simp[hx])) h4⟩
  ·obtain ⟨n,rfl⟩:=ZpV ht hw (m3 hm) h1;rcases hk with ⟨m,rfl⟩|⟨s,rfl⟩<;>simp[RepC] at h3
  ·rcases hk with ⟨m,rfl⟩|⟨s,rfl⟩<;>simpa only[RepC] using h3
theorem ZjN {w:World} (ht:Zh9 tb) (hw:w.heap[3]? =some tb) {sz:Nat}:∀{es:List (List CD)} {ad:Addr},(∀e∈es,∀d∈e,okD d)→RepE w M0 sz es ad→RepE w (M3 tb) sz es ad
 |[],_,_,_=>by simp only[RepE]
 |e::es,ad,hd,h=>by
  simp only[RepE] at h⊢;exact ⟨⟨h.1.1,ZjO ht hw (hd e (by simp)) h.1.2⟩,ZjN ht hw (fun x hx=>hd x (by simp[hx])) h.2⟩
def okC (d:CD):Prop:=okD d∨∃sz es,d= .sl sz es∧∀e∈es,∀x∈e,okD x
theorem Zor {w:World} (ht:Zh9 tb) (hw:w.heap[3]? =some tb) {d:CD} (hd:okC d) {v:Value} (h:RepC w M0 d v):RepC w (M3 tb) d v:=by
 rcases hd with (⟨n,rfl⟩|⟨s,rfl⟩)|⟨sz,es,rfl,hes⟩
 ·simpa only[RepC] using h
 ·simpa only[RepC] using h
 ·simp only[RepC] at h⊢;obtain ⟨A,cap,h1,h2,h3,h4⟩:=h;refine ⟨A,cap,h1,h2,h3,?_⟩;rcases h4 with h4|⟨ad,h4,h5⟩
  ·exact .inl h4
  ·exact .inr ⟨ad,h4,ZjN ht hw hes h5⟩
theorem ZhN {w:World} (ht:Zh9 tb) (hw:w.heap[3]? =some tb):∀{ds:List CD} {vs:List Value},(∀d∈ds,okC d)→Zfl w ds vs→RepAs w (M3 tb) Zph (ds.map .c) vs
 |[],vs,_,h=>by simp only[Zfl] at h;subst h;simp only[List.map_nil,RepAs]
 |d::ds,vs,hd,h=>by
  obtain ⟨v,vs',rfl,h1,h2⟩:=h;simp only[List.map_cons,RepAs,RepA];exact ⟨v,vs',rfl,Zor ht hw (hd d (by simp)) h1,ZhN ht hw (fun x hx=>hd x (by simp[hx])) h2⟩
theorem ZkM {P:Program} {f:FuncId} {xs:List AV} (h:ZaE P f xs [tabO tb] [] (fun r l'=>r= .c (.bool true)∧l'=[tabO tb])) {w:World} (ht:Zh9 tb) (hw:w.heap[3]? =some tb) {vs:List Value} (hr:RepAs w (M3 tb) Zph xs vs):
  Calls P f vs.toArray w fun e w'=>e= .returned (.bool true)∧Below w.heap.size w w':=by
 have h3:3<w.heap.size:=(Array.getElem?_eq_some_iff.1 hw).1;refine (h.2.2 w M0 Zph vs (fun _ _ h=>h.elim) ⟨fun n=> ?_,fun n m b hnm h1 h2=> ?_⟩ hr).mono fun e w' hh=> ?_
 ·rw[Zws];by_cases e:n=1000
  ·subst e;simp only[if_true,tabO,Zph];exact ⟨Zta _ _,[3],rfl,⟨rfl,rfl,hw,ht⟩,fun b hb=>by simp at hb;subst hb;exact ⟨h3,trivial⟩⟩
  ·rw[if_neg e];trivial
 ·rw[Zws] at h1 h2;by_cases e:n=1000
  ·have e2:m≠1000:=by omega
   rw[if_neg e2] at h2;exact Ob.has_none _ _ h2
  ·rw[if_neg e] at h1;exact Ob.has_none _ _ h1
 ·obtain ⟨v,r,l',loc',rfl,⟨rfl,rfl⟩,_,hfx,_,hlo,_,_,hv⟩:=hh;simp only[RepA,RepC] at hv;subst hv;refine ⟨rfl,hfx.os,hfx.tape,hfx.output,hfx.size,fun k hk=> ?_⟩;by_cases e:k=3
  ·subst e;have:=hlo.objs 1000;rw[Zws] at this;simp only[if_true,tabO] at this;obtain ⟨_,L,_,⟨_,_,hw',_⟩,_⟩:=this;rw[hw',hw]
  ·exact hfx.block k hk fun hx => e (by
    obtain ⟨n,hn⟩:=hx;refine ZuQ (tb:=tb) ⟨n,?_⟩;rw[Zws];by_cases en:n=1000
    ·subst en;exact hn
    ·exfalso;rcases ZaF [tabO tb] n with ⟨i,o,rfl,h2,_⟩|h2
     ·have:i=0:=by have:=(List.getElem?_eq_some_iff.1 h2).1;simp at this;omega
      subst this;exact en rfl
     ·rw[h2] at hn;exact Ob.has_none _ _ hn)
end Go.Proofs.YtcggfogkfhlmlaaGreatDoor
/-
 Structs that come in,of which fields have more than one cell,as data.
-/
namespace Go.V
open Go
theorem ZeC {w:World}:∀{a b:List CD} {x y:List Value},Zfl w a x→Zfl w b y→Zfl w (a++b) (x++y)
 |[],b,x,y,h,hb=>by simp only[Zfl] at h;subst h;exact hb
 |d::a,b,x,y,h,hb=>by
  obtain ⟨v,vs,rfl,h1,h2⟩:=h;exact ⟨v,vs++y,rfl,h1,ZeC h2 hb⟩
def ZcZ (gs:List (Nat×(List CD→Prop))):Nat:=(gs.map Prod.fst).sum
theorem Zfj {P:Program} {t:TypeId} {fs:Array Field} {gs:List (Nat×(List CD→Prop))} (ht:P.underlying t=some (.struct fs)) (hn:P.cellsOf t=ZcZ gs) (hgs:gs.length=fs.size)
  (h:∀(i:Nat) (f:Field) (g:Nat×(List CD→Prop)),fs[i]? =some f→gs[i]? =some g→f.offset=ZcZ (gs.take i)∧P.cellsOf f.type=g.1∧OpN P f.type g.2):
  OpN P t fun ds=>∃ps:List (List CD),ds=ps.flatten∧ps.length=gs.length∧∀(i:Nat) (p:List CD) (g:Nat×(List CD→Prop)),ps[i]? =some p→gs[i]? =some g→g.2 p:=by
 intro H enc w sp fuel cs x hx;obtain ⟨xs,n,rfl,rfl,hl,hxl,hX⟩:=DataW.trod_struct ht hx;have key:∀(m k:Nat),k+m=gs.length→∃ps:List (List CD),ps.length=m∧ps.flatten.length=(cs.drop (ZcZ (gs.take k))).length∧Zfl w ps.flatten (cs.drop (ZcZ (gs.take k)))∧∀(i:Nat) (p:List CD) (g:Nat×(List CD→Prop)),ps[i]? =some p→gs[k+i]? =some g→g.2 p:=by
  intro m;induction m with
  |zero=>
   intro k hk;have e:gs.take k=gs:=List.take_of_length_le (by omega);have e2:cs.drop (ZcZ (gs.take k))=[]:=List.drop_eq_nil_of_le (by rw[e];omega);rw[e2];exact ⟨[],rfl,rfl,rfl,by simp⟩
  |succ m ih=>
   intro k hk;have hkg:k<gs.length:=by omega
   have hkf:k<fs.size:=by omega
   have hf:fs[k]? =some fs[k]:=by simp[hkf]
   have hg:gs[k]? =some gs[k]:=List.getElem?_eq_getElem hkg;obtain ⟨ho,hc,hop⟩:=h k _ _ hf hg;have h1:=hX k _ hf;rw[ho,hc,List.getElem?_eq_getElem (by omega)] at h1;obtain ⟨ds,hgd,hdl,hr⟩:=hop H enc w sp n _ _ h1;have es:ZcZ (gs.take (k+1))=ZcZ (gs.take k)+gs[k].1:=by
    unfold ZcZ;rw[List.take_succ_eq_append_getElem hkg,List.map_append,List.sum_append];simp
   obtain ⟨ps,p1,p2,p3,p4⟩:=ih (k+1) (by omega);rw[es] at p2 p3;have ecs:cs.drop (ZcZ (gs.take k))=(cs.drop (ZcZ (gs.take k))).take gs[k].1++cs.drop (ZcZ (gs.take k)+gs[k].1):=by
    rw[←List.drop_drop,List.take_append_drop]
   refine ⟨ds::ps,by simp[p1],?_,?_,?_⟩
   ·rw[List.flatten_cons,List.length_append,p2,hdl,←List.length_append,←ecs]
   ·rw[List.flatten_cons,ecs];exact ZeC hr p3
   ·intro i p g hi hgi;cases i with
    |zero=>
     simp at hi hgi;subst hi;rw[hg] at hgi;cases hgi;exact hgd
    |succ i=>
     exact p4 i p g (by simpa using hi) (by rwa [show k+1+i=k+(i+1) from by omega])
 obtain ⟨ps,h1,h2,h3,h4⟩:=key gs.length 0 (by omega);have e0:ZcZ (gs.take 0)=0:=rfl;rw[e0,List.drop_zero] at h2 h3;exact ⟨ps.flatten,⟨ps,rfl,h1,fun i p g hp hg=>h4 i p g hp (by simpa using hg)⟩,h2,h3⟩
end Go.V
/-
 What comes in:a bar,numbers;the table.
-/
namespace Go.Proofs.YtcggfogkfhlmlaaGreatDoor
open Go Go.V
open Go.ChangeShapes Go.WideShapes Go.ChangeAt Go.RowKit
set_option maxRecDepth 100000
theorem z3:Tryz.prog.cellsOf 3=1:=by kernel_rfl
theorem z22:Tryz.prog.cellsOf 22=1:=by kernel_rfl
theorem z26:Tryz.prog.cellsOf 26=8:=by kernel_rfl
theorem z24:Tryz.prog.cellsOf 24=3:=by kernel_rfl
def isI (d:CD):Prop:=∃n,d= .int .i64 n
theorem op3:Op1 Tryz.prog 3 isI:=Zq8 Tryz.underlying3
theorem ZyS:Op1 Tryz.prog 22 fun d=>∃l,d=Zaj l:=by
 intro H enc w sp fuel cs x hx;obtain ⟨d,v,rfl,⟨es,rfl,hes⟩,hr⟩:=Zfi Tryz.underlying22 (ZlM op3) H enc w sp fuel cs x hx;refine ⟨_,v,rfl,?_,hr⟩;rw[z3];clear hr hx;induction es with
 |nil=>exact ⟨[],rfl⟩
 |cons e es ih=>
  obtain ⟨l,hl⟩:=ih fun x hx=>hes x (by simp[hx])
  obtain ⟨d,rfl,n,rfl⟩:=hes e (by simp);refine ⟨n::l,?_⟩;simp only[Zaj,CD.sl.injEq,true_and] at hl⊢;rw[hl];rfl
def isL (d:CD):Prop:=∃l,d=Zaj l
theorem ZBi:OpN Tryz.prog 24 fun ds=>∃a b c,ds=[.int .i64 a,Zaj b,Zaj c]:=by
 have h:=ZcE (P:=Tryz.prog) (gs:=[isI,isL,isL]) Tryz.underlying24 z24 rfl (fun i f g hf hg => by
  match i with
  |0=>simp at hf hg;subst hf;subst hg;exact ⟨rfl,z3,op3⟩
  |1=>simp at hf hg;subst hf;subst hg;exact ⟨rfl,z22,ZyS⟩
  |2=>simp at hf hg;subst hf;subst hg;exact ⟨rfl,z22,ZyS⟩
  |i+3=>simp at hg)
 intro H enc w sp fuel cs x hx;obtain ⟨ds,⟨hl,hg⟩,h1,h2⟩:=h H enc w sp fuel cs x hx;refine ⟨ds,?_,h1,h2⟩;obtain ⟨a,b,c,rfl⟩:∃a b c,ds=[a,b,c]:=by
  match ds,hl with
  |[a,b,c],_=>exact ⟨a,b,c,rfl⟩
 obtain ⟨n0,rfl⟩:=hg 0 a isI rfl rfl;obtain ⟨l1,rfl⟩:=hg 1 b isL rfl rfl;obtain ⟨l2,rfl⟩:=hg 2 c isL rfl rfl;exact ⟨n0,l1,l2,rfl⟩
def Zyg (ds:List CD):Prop:=∃n,ds=[.int .i64 n]
def ZxV (ds:List CD):Prop:=∃l,ds=[Zaj l]
theorem ZAa:OpN Tryz.prog 3 Zyg:=by
 intro H enc w sp fuel cs x hx;obtain ⟨ds,⟨d,rfl,n,rfl⟩,h1,h2⟩:=ZlM op3 H enc w sp fuel cs x hx;exact ⟨_,⟨n,rfl⟩,h1,h2⟩
theorem Zso:OpN Tryz.prog 22 ZxV:=by
 intro H enc w sp fuel cs x hx;obtain ⟨ds,⟨d,rfl,n,rfl⟩,h1,h2⟩:=ZlM ZyS H enc w sp fuel cs x hx;exact ⟨_,⟨n,rfl⟩,h1,h2⟩
theorem ZBj:OpN Tryz.prog 26 fun ds=>∃b:Bx,ds=b.cds:=by
 have h:=Zfj (P:=Tryz.prog) (gs:=[(3,fun ds => ∃ a b c,ds = [.int .i64 a,Zaj b,Zaj c]),(1,ZxV),(1,ZxV),(1,ZxV),(1,Zyg),(1,Zyg)]) Tryz.underlying26 z26 rfl (fun i f g hf hg => by
  match i with
  |0=>simp at hf hg;subst hf;subst hg;exact ⟨rfl,z24,ZBi⟩
  |1=>simp at hf hg;subst hf;subst hg;exact ⟨rfl,z22,Zso⟩
  |2=>simp at hf hg;subst hf;subst hg;exact ⟨rfl,z22,Zso⟩
  |3=>simp at hf hg;subst hf;subst hg;exact ⟨rfl,z22,Zso⟩
  |4=>simp at hf hg;subst hf;subst hg;exact ⟨rfl,z3,ZAa⟩
  |5=>simp at hf hg;subst hf;subst hg;exact ⟨rfl,z3,ZAa⟩
  |i+6=>simp at hg)
 intro H enc w sp fuel cs x hx;obtain ⟨ds,⟨ps,rfl,hl,hg⟩,h1,h2⟩:=h H enc w sp fuel cs x hx;refine ⟨_,?_,h1,h2⟩;obtain ⟨p0,p1,p2,p3,p4,p5,rfl⟩:∃a b c d e f,ps=[a,b,c,d,e,f]:=by
  match ps,hl with
  |[a,b,c,d,e,f],_=>exact ⟨a,b,c,d,e,f,rfl⟩
 obtain ⟨a,b,c,rfl⟩:=hg 0 p0 _ rfl rfl;obtain ⟨l1,rfl⟩:=hg 1 p1 _ rfl rfl;obtain ⟨l2,rfl⟩:=hg 2 p2 _ rfl rfl;obtain ⟨l3,rfl⟩:=hg 3 p3 _ rfl rfl;obtain ⟨n4,rfl⟩:=hg 4 p4 _ rfl rfl;obtain ⟨n5,rfl⟩:=hg 5 p5 _ rfl rfl;exact ⟨⟨⟨a,b,c⟩,l1,l2,l3,n4,n5⟩,rfl⟩
theorem z29:Tryz.prog.cellsOf 29=1:=by kernel_rfl
theorem z30:Tryz.prog.cellsOf 30=1:=by kernel_rfl
theorem z32:Tryz.prog.cellsOf 32=5:=by kernel_rfl
theorem ZAg:Tryz.prog.cellsOf 122=2:=by kernel_rfl
theorem ZAh:Tryz.prog.cellsOf 166=2:=by kernel_rfl
theorem ZmT {α β:Type} {f:β→α}:∀{es:List α},(∀x∈es,∃s,x=f s)→∃l:List β,es=l.map f
 |[],_=>⟨[],rfl⟩
 |e::es,h=>by
  obtain ⟨l,rfl⟩:=ZmT (f:=f) fun x hx=>h x (List.mem_cons_of_mem _ hx)
  obtain ⟨s,rfl⟩:=h e (by simp);exact ⟨s::l,rfl⟩
theorem ZyR:OpN Tryz.prog 166 fun ds=>∃s:Rec,ds=s.cds:=by
 have h:=ZcE (P:=Tryz.prog) (gs:=[isI,isI]) Tryz.underlying166 ZAh rfl (fun i f g hf hg => by
  match i with
  |0=>simp at hf hg;subst hf;subst hg;exact ⟨rfl,z3,op3⟩
  |1=>simp at hf hg;subst hf;subst hg;exact ⟨rfl,z3,op3⟩
  |i+2=>simp at hg)
 intro H enc w sp fuel cs x hx;obtain ⟨ds,⟨hl,hg⟩,h1,h2⟩:=h H enc w sp fuel cs x hx;refine ⟨ds,?_,h1,h2⟩;obtain ⟨a,b,rfl⟩:∃a b,ds=[a,b]:=by
  match ds,hl with
  |[a,b],_=>exact ⟨a,b,rfl⟩
 obtain ⟨n0,rfl⟩:=hg 0 a isI rfl rfl;obtain ⟨n1,rfl⟩:=hg 1 b isI rfl rfl;exact ⟨⟨n0,n1⟩,rfl⟩
theorem ZyQ:OpN Tryz.prog 122 fun ds=>∃s:Pr,ds=s.cds:=by
 have h:=ZcE (P:=Tryz.prog) (gs:=[isI,isI]) Tryz.underlying122 ZAg rfl (fun i f g hf hg => by
  match i with
  |0=>simp at hf hg;subst hf;subst hg;exact ⟨rfl,z3,op3⟩
  |1=>simp at hf hg;subst hf;subst hg;exact ⟨rfl,z3,op3⟩
  |i+2=>simp at hg)
 intro H enc w sp fuel cs x hx;obtain ⟨ds,⟨hl,hg⟩,h1,h2⟩:=h H enc w sp fuel cs x hx;refine ⟨ds,?_,h1,h2⟩;obtain ⟨a,b,rfl⟩:∃a b,ds=[a,b]:=by
  match ds,hl with
  |[a,b],_=>exact ⟨a,b,rfl⟩
 obtain ⟨n0,rfl⟩:=hg 0 a isI rfl rfl;obtain ⟨n1,rfl⟩:=hg 1 b isI rfl rfl;exact ⟨⟨n0,n1⟩,rfl⟩
set_option maxRecDepth 100000 in
theorem op29:Op1 Tryz.prog 29 fun d=>∃l,d=ZaO l:=by
 intro H enc w sp fuel cs x hx;obtain ⟨d,v,rfl,⟨es,rfl,hes⟩,hr⟩:=Zfi Tryz.underlying29 ZyR H enc w sp fuel cs x hx;refine ⟨_,v,rfl,?_,hr⟩;obtain ⟨l,rfl⟩:=ZmT (f:=Rec.cds) hes;exact ⟨l,by rw[ZAh];rfl⟩
set_option maxRecDepth 100000 in
theorem op30:Op1 Tryz.prog 30 fun d=>∃l,d=ZbR l:=by
 intro H enc w sp fuel cs x hx;obtain ⟨d,v,rfl,⟨es,rfl,hes⟩,hr⟩:=Zfi Tryz.underlying30 ZyQ H enc w sp fuel cs x hx;refine ⟨_,v,rfl,?_,hr⟩;obtain ⟨l,rfl⟩:=ZmT (f:=Pr.cds) hes;exact ⟨l,by rw[ZAg];rfl⟩
set_option maxRecDepth 100000 in
theorem op32:OpN Tryz.prog 32 fun ds=>∃r:Tray,ds=r.cds:=by
 have h:=ZcE (P:=Tryz.prog) (gs:=[(fun d => ∃ l,d = ZaO l),isI,isI,isI,(fun d => ∃ l,d = ZbR l)]) Tryz.underlying32 z32 rfl (fun i f g hf hg => by
  match i with
  |0=>simp at hf hg;subst hf;subst hg;exact ⟨rfl,z29,op29⟩
  |1=>simp at hf hg;subst hf;subst hg;exact ⟨rfl,z3,op3⟩
  |2=>simp at hf hg;subst hf;subst hg;exact ⟨rfl,z3,op3⟩
  |3=>simp at hf hg;subst hf;subst hg;exact ⟨rfl,z3,op3⟩
  |4=>simp at hf hg;subst hf;subst hg;exact ⟨rfl,z30,op30⟩
  |i+5=>simp at hg)
 intro H enc w sp fuel cs x hx;obtain ⟨ds,⟨hl,hg⟩,h1,h2⟩:=h H enc w sp fuel cs x hx;refine ⟨ds,?_,h1,h2⟩;obtain ⟨a,b,c,d,e,rfl⟩:∃a b c d e,ds=[a,b,c,d,e]:=by
  match ds,hl with
  |[a,b,c,d,e],_=>exact ⟨a,b,c,d,e,rfl⟩
 obtain ⟨l1,rfl⟩:=hg 0 a _ rfl rfl;obtain ⟨n1,rfl⟩:=hg 1 b isI rfl rfl;obtain ⟨n2,rfl⟩:=hg 2 c isI rfl rfl;obtain ⟨n3,rfl⟩:=hg 3 d isI rfl rfl;obtain ⟨l2,rfl⟩:=hg 4 e _ rfl rfl;exact ⟨⟨l1,n1,n2,n3,l2⟩,rfl⟩
theorem z28:Tryz.prog.cellsOf 28=2:=by kernel_rfl
theorem z34:Tryz.prog.cellsOf 34=15:=by kernel_rfl
theorem ZBk:OpN Tryz.prog 28 fun ds=>∃a b,ds=[.int .i64 a,.int .i64 b]:=by
 have h:=ZcE (P:=Tryz.prog) (gs:=[isI,isI]) Tryz.underlying28 z28 rfl (fun i f g hf hg => by
  match i with
  |0=>simp at hf hg;subst hf;subst hg;exact ⟨rfl,z3,op3⟩
  |1=>simp at hf hg;subst hf;subst hg;exact ⟨rfl,z3,op3⟩
  |i+2=>simp at hg)
 intro H enc w sp fuel cs x hx;obtain ⟨ds,⟨hl,hg⟩,h1,h2⟩:=h H enc w sp fuel cs x hx;refine ⟨ds,?_,h1,h2⟩;obtain ⟨a,b,rfl⟩:∃a b,ds=[a,b]:=by
  match ds,hl with
  |[a,b],_=>exact ⟨a,b,rfl⟩
 obtain ⟨n0,rfl⟩:=hg 0 a isI rfl rfl;obtain ⟨n1,rfl⟩:=hg 1 b isI rfl rfl;exact ⟨n0,n1,rfl⟩
theorem ZBl:OpN Tryz.prog 34 fun ds=>∃b:Bar,ds=b.cds:=by
 have h:=Zfj (P:=Tryz.prog) (gs:=[(8,fun ds => ∃ b:Bx,ds = b.cds),(2,fun ds => ∃ a b,ds = [.int .i64 a,.int .i64 b]),(5,fun ds => ∃ r:Tray,ds = r.cds)]) Tryz.underlying34 z34 rfl (fun i f g hf hg => by
  match i with
  |0=>simp at hf hg;subst hf;subst hg;exact ⟨rfl,z26,ZBj⟩
  |1=>simp at hf hg;subst hf;subst hg;exact ⟨rfl,z28,ZBk⟩
  |2=>simp at hf hg;subst hf;subst hg;exact ⟨rfl,z32,op32⟩
  |i+3=>simp at hg)
 intro H enc w sp fuel cs x hx;obtain ⟨ds,⟨ps,rfl,hl,hg⟩,h1,h2⟩:=h H enc w sp fuel cs x hx;refine ⟨_,?_,h1,h2⟩;obtain ⟨p0,p1,p2,rfl⟩:∃a b c,ps=[a,b,c]:=by
  match ps,hl with
  |[a,b,c],_=>exact ⟨a,b,c,rfl⟩
 obtain ⟨x,rfl⟩:=hg 0 p0 _ rfl rfl;obtain ⟨p,c,rfl⟩:=hg 1 p1 _ rfl rfl;obtain ⟨t,rfl⟩:=hg 2 p2 _ rfl rfl;exact ⟨⟨x,p,c,t⟩,rfl⟩
theorem Zo8 (l:List Int):okC (Zaj l):=.inr ⟨1,_,rfl,fun e he d hd=>by
 obtain ⟨n,_,rfl⟩:=List.mem_map.1 he;simp only[List.mem_singleton] at hd;exact .inl ⟨n,hd⟩⟩
theorem ZpM (l:List Rec):okC (ZaO l):=.inr ⟨2,_,rfl,fun e he d hd=>by
 obtain ⟨n,_,rfl⟩:=List.mem_map.1 he;simp only[Rec.cds,List.mem_cons,List.not_mem_nil,or_false] at hd;rcases hd with rfl|rfl<;>exact .inl ⟨_,rfl⟩⟩
theorem ZsF (l:List Pr):okC (ZbR l):=.inr ⟨2,_,rfl,fun e he d hd=>by
 obtain ⟨n,_,rfl⟩:=List.mem_map.1 he;simp only[Pr.cds,List.mem_cons,List.not_mem_nil,or_false] at hd;rcases hd with rfl|rfl<;>exact .inl ⟨_,rfl⟩⟩
theorem ZrK (n:Int):okC (.int .i64 n):=.inl (.inl ⟨n,rfl⟩)
theorem Zri (b:Bar):∀d∈b.cds,okC d:=by
 intro d hd;simp only[Bar.cds,List.mem_cons,List.not_mem_nil,or_false] at hd;rcases hd with rfl|rfl|rfl|rfl|rfl|rfl|rfl|rfl|rfl|rfl|rfl|rfl|rfl|rfl|rfl
 all_goals first|exact ZrK _|exact Zo8 _|exact ZpM _|exact ZsF _
section
variable {tb:Obj} {H:Type} {enc:TypeId×Value→H} {w:World} {sp:Nat→Bool}
set_option maxRecDepth 100000 in
theorem open_bar (ht:Zh9 tb) (hw:w.heap[3]? =some tb) {r:Reach} {b0:Nat} {v:Value} {d:DataW H} {ps:List MemPlace} (hval:Value.okWide Tryz.prog w r b0 34 v) (hd:DataW.Trod enc Tryz.prog w 0 sp true 34 v d ps):∃R:Bar,RepA w (M3 tb) Zph R.av v:=by
 unfold Value.okWide at hval;rw[Tryz.underlying34] at hval;obtain ⟨cs,rfl,_,_⟩:=hval;obtain ⟨fuel,hf⟩:=hd;obtain ⟨ds,⟨R,rfl⟩,_,hr⟩:=ZBl H enc w sp fuel _ _ hf;refine ⟨R,?_⟩;simp only[Bar.av,RepA];exact ⟨cs.toList,by simp,ZhN ht hw (Zri R) hr⟩
theorem Zpp {r:Reach} {b0:Nat} {v:Value} {d:DataW H} {ps:List MemPlace} (hval:Value.okWide Tryz.prog w r b0 3 v) (_:DataW.Trod enc Tryz.prog w 0 sp true 3 v d ps):∃n:Int,RepA w (M3 tb) Zph (iv n) v:=by
 obtain ⟨n,rfl⟩:=okWide_int Tryz.underlying3 hval;exact ⟨n,by simp only[iv,RepA,RepC]⟩
end
theorem Tryz.own:ownKnob Tryz.prog.godebug=none:=by kernel_rfl
theorem Tryz.laidOut:laidOutB Tryz.prog=true:=by kernel_rfl
theorem Znf {H:Type} {enc:TypeId×Value→H} {f:Func} {s:ChangeSpec} {apart fresh handsOn again:Bool} {W W':World} {args:Array Value} {b:Bool} {ds:List (DataW H)} {before:List MemPlace}
  (hf:f.resultTypes= #[4]) (hv:s.vars=[]) (hW:DataW.Whole enc Tryz.prog f.params.toList s.vars apart W args.toList ds [] before) (hb:Below W.heap.size W W')
  (hr:(s.fn H (ds++[])).results=[.lit (.bool b)]) (ha:(s.fn H (ds++[])).args=ds) (hvs:(s.fn H (ds++[])).vars=[])
  (hst:∀sp:Nat→Bool,(∀p∈before,sp p.block=true)→DataW.TrodAll enc Tryz.prog W' 0 sp true f.params.toList args.toList ds before):s.post enc Tryz.prog f apart fresh handsOn again W args (.bool b) W':=by
 have hlt:∀p∈before,p.block<W.heap.size:=fun p hp=>by simpa using hW.lt p hp
 have hres:∀(n:Nat) (sp:Nat→Bool) (hd:Bool),DataW.TrodAll enc Tryz.prog W' n sp hd f.resultTypes.toList ((Value.bool b).resultList f.resultTypes.size) (s.fn H (ds++[])).results []:=by
  intro n sp hd;rw[hf,hr];exact trodAll_mk1 (shut_bool Tryz.underlying4 _)
 have hargs:∀sp:Nat→Bool,(∀p∈before,sp p.block=true)→DataW.TrodAll enc Tryz.prog W' 0 sp true f.params.toList args.toList (s.fn H (ds++[])).args before:=fun sp h=>by
  rw[ha];exact hst sp h
 have hvars:∀sp:Nat→Bool,DataW.TrodVars enc Tryz.prog W' sp s.vars (s.fn H (ds++[])).vars []:=fun sp=>by
  rw[hv,hvs];rfl
 refine ⟨ds,[],before,[],before,[],hW,hres _ _ _,hargs _ fun p hp=>by simpa using hlt p hp,hvars _,hb.frame _,fun _=> ?_⟩;have hz:=hW;obtain ⟨_,_,_,_,_,hz1,hz2⟩:=hz;have hall:DataW.TrodAll enc Tryz.prog W' 0 (fun _=>true) true (f.resultTypes.toList++f.params.toList) ((Value.bool b).resultList f.resultTypes.size++args.toList) ((s.fn H (ds++[])).results++(s.fn H (ds++[])).args) ([]++before):=
  trodAll_append (hargs (fun _=>true) fun _ _=>rfl) (hres 0 (fun _=>true) true)
 rw[List.nil_append] at hall;refine ⟨ok_one hf rfl (okWide_bool_mk Tryz.underlying4 b),(s.fn H (ds++[])).results++(s.fn H (ds++[])).args,(s.fn H (ds++[])).vars,before,⟨before,[],hall,hvars _,by simp,?_,hz2⟩,fun p hp _=>hp⟩;intro k off hp;rw[hb.frozen (hlt _ hp)];exact hz1 k off hp
def Zle:List (String × DataW Unit):=[("math/bits.deBruijn32tab",Rows.laid_math_bits_deBruijn32tab),("math/bits.deBruijn64tab",Rows.laid_math_bits_deBruijn64tab),("internal/strconv.uint64pow10",Rows.laid_internal_strconv_uint64pow10),("unicode/utf8.acceptRanges",Rows.laid_unicode_utf8_acceptRanges),("strconv.ErrRange",Rows.laid_strconv_ErrRange),("strconv.ErrSyntax",Rows.laid_strconv_ErrSyntax),("unicode/utf8.first",Rows.laid_unicode_utf8_first)]
theorem ZoT:Zle.filter (fun x => x.1 == "internal/strconv.uint64pow10") = [("internal/strconv.uint64pow10",Rows.laid_internal_strconv_uint64pow10)]:=by kernel_rfl
theorem Zpv:(Rows.laid_internal_strconv_uint64pow10:DataW Unit)= .agg (Lib.pow10Tab.map fun n=> .lit (.int .u64 n)):=by kernel_rfl
theorem ZpW {W:World} (h0:laidMetH Tryz.prog Zle W):∃tb,Zh9 tb∧W.heap[3]? =some tb:=by
 have h:=h0.filter fun x => x.1 == "internal/strconv.uint64pow10"
 rw[ZoT,MakeChecks.laidMetH_plain _ _ _ (by kernel_rfl)] at h;obtain ⟨ps,⟨g,t,cs,fuel,p,q,hg,ht,hv,hd,_,_⟩,_,_⟩:=h;obtain rfl:=Option.some.inj ((show Tryz.prog.globalNamed "internal/strconv.uint64pow10" = some 3 by kernel_rfl).symm.trans hg);obtain rfl:=Option.some.inj ((show (Tryz.prog.globals[3]?).map (·.type)=some 316 by kernel_rfl).symm.trans ht);obtain ⟨xs,m,_,ex,hcl,hl,hel⟩:=DataW.trod_array Tryz.underlying316 hd;have c5:Tryz.prog.cellsOf 272=1:=by kernel_rfl
 have c20:Tryz.prog.cellsOf 316=20:=by kernel_rfl
 have hp:Lib.pow10Tab.length=20:=by kernel_rfl
 have hcs:cs.toList=Lib.pow10Tab.map (Value.int .u64):=by
  have e3:(xs.map (·.1))=Lib.pow10Tab.map fun n=> .lit (.int .u64 n):=((Zpv.symm.trans (Prod.mk.inj ex).1)|>DataW.agg.inj).symm
  refine List.ext_getElem (by rw[List.length_map,hp,←c20];exact hcl) fun r h1 h2=> ?_
  rw[List.length_map,hp] at h2;have hE:=hel r h2;rw[c5,Nat.mul_one,List.getElem?_eq_getElem (by omega)] at hE;obtain ⟨z,e1,e2,_⟩:=DataW.trod_int Tryz.underlying272 hE;have e4:(xs.map (·.1))[r]? =(Lib.pow10Tab.map fun n=>(DataW.lit (.int .u64 n):DataW Unit))[r]?:=by rw[e3]
  rw[List.getElem?_map,List.getElem?_map,List.getElem?_eq_getElem (by omega:r<xs.length),List.getElem?_eq_getElem (by omega:r<Lib.pow10Tab.length),e2] at e4;simp only[Option.map_some,Option.some.injEq,DataW.lit.injEq,Lit.int.injEq,true_and] at e4;have h0:((cs.toList.drop r).take 1)[0]? =some (.int .u64 z):=by rw[e1];rfl
  rw[List.getElem?_take] at h0;simp only[List.getElem?_drop] at h0;rw[List.getElem_map,←e4];have h3:cs.toList[r]? =some (.int .u64 z):=by simpa using h0
  rw[List.getElem?_eq_getElem h1] at h3;exact Option.some.inj h3
 unfold World.var? at hv;rw [show Tryz.prog.globalNamed "internal/strconv.uint64pow10" = some 3 by kernel_rfl] at hv;simp only[Option.bind_some] at hv;split at hv
 ·rename_i c ty fr hb;cases hv;exact ⟨_,⟨ty,fr,by rw[←hcs]⟩,hb⟩
 ·cases hv
end Go.Proofs.YtcggfogkfhlmlaaGreatDoor
