/-
  An abstract machine over small instructions, sound over the model; no condition.
-/
import Derived.Test.YtbclmfjibpppfaaGreatV2
import Derived.WideKeyEntry
set_option linter.unusedVariables false
set_option linter.unusedSimpArgs false
/-
 Ranges over such maps: in whatever order.
-/
namespace Go.V
def gmE (es:Array MapEntry) (clock b:Nat):Gst:=⟨.bool false,fun rem L _ w => rem = [] ∧ L = [b] ∧ w.heap[b]? = some (.map es clock)⟩
def mapE (es:Array MapEntry) (clock b:Nat):Ob:=.guest (gmE es clock b) []
def gIt (r b since:Nat) (seen:Array Nat) (last:Nat):Gst:=⟨.bool false,fun rem L _ w => rem = [] ∧ L = [r] ∧ w.heap[r]? = some (.mapIter (some b) since seen last)⟩
def iterE (r b since:Nat) (seen:Array Nat) (last:Nat):Ob:=.guest (gIt r b since seen last) []
theorem gmE_ok (P:Program) (es:Array MapEntry) (clock b:Nat):(gmE es clock b).Ok P:=by
 refine ⟨rfl,?_,?_⟩
 ·rintro rem L M w M' w' ⟨h1,h2,h3⟩ hk hb hs
  exact ⟨h1,h2,by rw [hb b (by rw [h2]; simp)]; exact h3⟩
 ·rintro args wins r rem L M w loc vs ⟨h1,_⟩
  cases h1
theorem gIt_ok (P:Program) (r b since:Nat) (seen:Array Nat) (last:Nat):(gIt r b since seen last).Ok P:=by
 refine ⟨rfl,?_,?_⟩
 ·rintro rem L M w M' w' ⟨h1,h2,h3⟩ hk hb hs
  exact ⟨h1,h2,by rw [hb r (by rw [h2]; simp)]; exact h3⟩
 ·rintro args wins r rem L M w loc vs ⟨h1,_⟩
  cases h1
section
variable {C:Ctx} {σ:St} {loc:Nat → Value} {a:Act} {w:World}
theorem G.reguest (hg:G C σ loc a w) {n:Nat} {L:List Nat} {g g':Gst} {rem rem':List Ent} (hown:σ.own n = .guest g rem) (hloc:loc n = encV L) (hok:g'.Ok C.P) (hJ:∀ M,g'.J rem' L M w):G C ⟨σ.env,upd σ.own n (.guest g' rem')⟩ loc a w:=by
 have hob:=hg.objs n
 rw [hown] at hob
 obtain ⟨_,L2,hl2,_,hA⟩:=hob
 have hLL:∀ x,x ∈ L ↔ x ∈ L2:=encV_inj (hloc.symm.trans hl2)
 have hhas:∀ (k b2:Nat),(upd σ.own n (.guest g' rem') k).has (loc k) b2 ↔ (σ.own k).has (loc k) b2:=by
  intro k b2
  by_cases hkn:k = n
  ·subst hkn; simp only [upd,if_true]; rw [hown]; exact Iff.rfl
  ·simp only [upd,hkn,if_false]
 have hmut:∀ (k b2 o2:Nat),(upd σ.own n (.guest g' rem') k).mut (loc k) b2 o2 ↔ (σ.own k).mut (loc k) b2 o2:=by
  intro k b2 o2
  by_cases hkn:k = n
  ·subst hkn; simp only [upd,if_true]; rw [hown]; exact Iff.rfl
  ·simp only [upd,hkn,if_false]
 refine hg.reown (fun _ _ => rfl) hg.slots (fun b o ⟨m,h⟩ => ⟨m,(hmut m b o).1 h⟩) (fun b ⟨m,h⟩ => ⟨m,(hhas m b).1 h⟩) (fun m => ?_) (fun m k b hmk h1 h2 => hg.disj m k b hmk ((hhas m b).1 h1) ((hhas k b).1 h2))
 by_cases hmn:m = n
 ·subst hmn
  simp only [upd,if_true]
  exact ⟨hok,L,hloc,hJ _,fun b hb => hA b ((hLL b).1 hb)⟩
 ·simp only [upd,hmn,if_false]
  exact hg.objs m
theorem Gam_openG {n b:Nat} {ka va:Bool} {l:GL} (hown:σ.own n = gmap ka va l b):∀ a w,Gam C σ a w → ∃ x:Array MapEntry × Nat,(MapKept.Stamped x.1 x.2 ∧ x.1.toList.map (fun e => (e.key,e.val)) = gvals ka va l) ∧ Gam C ⟨σ.env,upd σ.own n (mapE x.1 x.2 b)⟩ a w:=by
 rintro a w ⟨loc,hg⟩
 have hob:=hg.objs n
 rw [hown] at hob
 obtain ⟨_,L,hl,⟨_,rfl,es,clock,hb,hst,hes⟩,_⟩:=hob
 exact ⟨(es,clock),⟨hst,hes⟩,loc,hg.reguest (g:=gmG ka va l b) hown hl (gmE_ok _ _ _ _) fun M => ⟨rfl,rfl,hb⟩⟩
theorem Gam_closeG {n b:Nat} {ka va:Bool} {l:GL} {es:Array MapEntry} {clock:Nat} (hown:σ.own n = mapE es clock b) (hst:MapKept.Stamped es clock) (hes:es.toList.map (fun e => (e.key,e.val)) = gvals ka va l):∀ a w,Gam C σ a w → Gam C ⟨σ.env,upd σ.own n (gmap ka va l b)⟩ a w:=by
 rintro a w ⟨loc,hg⟩
 have hob:=hg.objs n
 rw [hown] at hob
 obtain ⟨_,L,hl,⟨_,rfl,hb⟩,_⟩:=hob
 exact ⟨loc,hg.reguest (g:=gmE es clock b) hown hl (gmG_ok _ _ _ _ _) fun M => ⟨rfl,rfl,es,clock,hb,hst,hes⟩⟩
end
section
variable {C:Ctx} {σ:St} {K:St → Prop} {is:List Ins} {Q:Exit → St → Prop}
theorem WV_openG {v:VC} (n:Nat) {b:Nat} {ka va:Bool} {l:GL} (hown:σ.own n = gmap ka va l b) (h:∀ es clock,MapKept.Stamped es clock → es.toList.map (fun e => (e.key,e.val)) = gvals ka va l → WV C v Q ⟨σ.env,upd σ.own n (mapE es clock b)⟩):WV C v Q σ :=
 WV_ex (Gam_openG hown) fun x hx => h x.1 x.2 hx.1 hx.2
theorem WV_closeG {v:VC} (n:Nat) {b:Nat} (ka va:Bool) (l:GL) {es:Array MapEntry} {clock:Nat} (hown:σ.own n = mapE es clock b) (hst:MapKept.Stamped es clock) (hes:es.toList.map (fun e => (e.key,e.val)) = gvals ka va l) (h:WV C v Q ⟨σ.env,upd σ.own n (gmap ka va l b)⟩):WV C v Q σ :=
 WV_weak (Gam_closeG hown hst hes) h
end
section
variable {P:Program} {σ:St} {K:St → Prop}
theorem raw_rangeE {d:Nat} {t k e:TypeId} {x:Operand} {x':X} {n b clock:Nat} {es:Array MapEntry} (ht:P.underlying t = some (.map k e)) (hx:cX x = some x') (h1:(σ.val x').dg = true) (hv:(σ.val x').dv = .c (.raw (.map (some b)))) (hown:σ.own n = mapE es clock b) (hn:(σ.own d).isNone = true)
  (hK:∀ r,K (St.new σ d (.c (.raw (.pointer (some ⟨r,0,none⟩)))) (iterE r b clock #[] clock))):RawI P (some d) (.raw (.range t x)) K σ:=by
 refine RawI_raw fun C loc a w o hP ho hod hdl hg => ?_
 subst hP
 have hd:d < C.N:=by simpa using hdl
 have rx:=vald hg hx h1
 rw [hv] at rx
 simp only [RepA,RepC] at rx
 have hob:=hg.objs n
 rw [hown] at hob
 obtain ⟨_,L,hl,⟨_,rfl,hb⟩,_⟩:=hob
 refine ⟨_,⟨w.alloc (.mapIter (some b) clock #[] clock),upd loc d (encV [w.heap.size]),.inl ⟨.pointer (some ⟨w.heap.size,0,none⟩),?_,?_⟩⟩,hK w.heap.size⟩
 ·have h:=run_range_map (P:=C.P) w t k e b es clock ht hb
  simp [execOp,ho,rx.1,h]
 ·rw [hod]
  refine hg.newblock hd hn (fun b hb => ?_) (fun M loc' hk hl hv => ?_) (fun M loc' hv => ?_)
  ·simp only [iterE,Ob.has,footV_encV,List.mem_singleton] at hb
   exact hb
  ·refine ⟨gIt_ok _ _ _ _ _ _,[w.heap.size],rfl,⟨rfl,rfl,by rw [alloc_new]⟩,fun b hb => ?_⟩
   simp only [List.mem_singleton] at hb
   subst hb
   exact ⟨by simp,.inl hg.fr.size⟩
  ·simp only [RepA,RepC]; exact ⟨trivial,rfl⟩
theorem raw_nextE {d:Option Nat} {x:Operand} {x':X} {n m b r since last clock:Nat} {seen:Array Nat} {es:Array MapEntry} {ka va:Bool} {l:GL} (hx:cX x = some x') (h1:(σ.val x').dg = true) (hv:(σ.val x').dv = .c (.raw (.pointer (some ⟨r,0,none⟩)))) (hown:σ.own n = mapE es clock b)
  (hit:σ.own m = iterE r b since seen last) (hold:∀ x ∈ es.toList,x.born < since) (hsl:since ≤ last) (hes:es.toList.map (fun e => (e.key,e.val)) = gvals ka va l)
  (hK0:(leftOf es seen).size = 0 → K (σ.put d (.tup [.c (.bool false)])))
  (hK1:∀ e k v,e ∈ (leftOf es seen).toList → (k,v) ∈ l → e.key = kval ka k → e.val = kval va v → K (St.put ⟨σ.env,upd σ.own m (iterE r b since (seen.push e.born) clock)⟩ d (.tup [.c (.bool true),kav ka k,kav va v]))):RawI P d (.raw (.next x false)) K σ:=by
 refine RawI_raw fun C loc a w o hP ho hod hdl hg => ?_
 subst hP
 have rx:=vald hg hx h1
 rw [hv] at rx
 simp only [RepA,RepC] at rx
 have hob:=hg.objs n
 rw [hown] at hob
 obtain ⟨_,L,hl,⟨_,rfl,hb⟩,_⟩:=hob
 have hob2:=hg.objs m
 rw [hit] at hob2
 obtain ⟨_,L2,hl2,⟨_,rfl,hr⟩,_⟩:=hob2
 rcases run_next_at (P:=C.P) w o.type r b since last seen es clock hr hb hold hsl with ⟨k1,k2⟩ | ⟨e,he,w1,hw1,k2⟩
 ·refine ⟨_,⟨w,loc,.inl ⟨.tuple #[.bool false],by simp [execOp,ho,rx.1,k2],?_⟩⟩,hK0 k1⟩
  rw [hod]
  refine hg.put hdl ?_
  simp only [RepA]
  exact ⟨[_],rfl,by simp only [RepAs,RepA,RepC]; exact ⟨_,_,rfl,rfl,rfl⟩⟩
 ·have hem:e ∈ es.toList:=by
   unfold leftOf at he
   simp at he
   simpa using he.1
  have hpm:(e.key,e.val) ∈ gvals ka va l:=by rw [← hes]; exact List.mem_map.2 ⟨e,hem,rfl⟩
  obtain ⟨⟨k,v⟩,hkv,hkv2⟩:=List.mem_map.1 hpm
  simp only [Prod.mk.injEq] at hkv2
  have hg1:G C σ loc a w1:=by rcases hw1 with rfl | rfl; exact hg; exact hg.drew
  have hr1:w1.heap[r]? = some (.mapIter (some b) since seen last):=by rcases hw1 with rfl | rfl <;> exact hr
  have hg2:=hg1.setGuest (g:=gIt r b since seen last) (g':=gIt r b since (seen.push e.born) clock) (rem':=[]) (o':=.mapIter (some b) since (seen.push e.born) clock) hit hl2 (by simp) hr1 (fun x h => by cases h) (gIt_ok _ _ _ _ _ _) fun M => ⟨rfl,rfl,(MapKept.heap_set hr1).1⟩
  refine ⟨_,⟨_,loc,.inl ⟨.tuple #[.bool true,e.key,e.val],by simp only [execOp,ho,rx.1]; simp [k2]; rfl,?_⟩⟩,hK1 e k v he hkv hkv2.1.symm hkv2.2.symm⟩
  rw [hod]
  refine hg2.put hdl ?_
  simp only [RepA]
  exact ⟨[_,_,_],rfl,by simp only [RepAs]; exact ⟨_,_,rfl,by simp only [RepA,RepC],_,_,rfl,rep_kav.2 hkv2.1.symm,_,_,rfl,rep_kav.2 hkv2.2.symm,rfl⟩⟩
theorem raw_entryE {d:Option Nat} {x:Operand} {x':X} {n m b r since clock:Nat} {seen:Array Nat} {es:Array MapEntry} {e:MapEntry} {ka va:Bool} {k v:List Int} (hx:cX x = some x') (h1:(σ.val x').dg = true) (hv:(σ.val x').dv = .c (.raw (.pointer (some ⟨r,0,none⟩)))) (hown:σ.own n = mapE es clock b)
  (hit:σ.own m = iterE r b since (seen.push e.born) clock) (hst:MapKept.Stamped es clock) (he:e ∈ es.toList) (hk:e.key = kval ka k) (hvv:e.val = kval va v) (hK:K (σ.put d (.tup [kav ka k,kav va v]))):RawI P d (.raw (.entry x)) K σ:=by
 refine RawI_snd (fun C loc a w o hP ho hg => ?_) hK
 subst hP
 have rx:=vald hg hx h1
 rw [hv] at rx
 simp only [RepA,RepC] at rx
 have hob:=hg.objs n
 rw [hown] at hob
 obtain ⟨_,L,hl,⟨_,rfl,hb⟩,_⟩:=hob
 have hob2:=hg.objs m
 rw [hit] at hob2
 obtain ⟨_,L2,hl2,⟨_,rfl,hr⟩,_⟩:=hob2
 have h:=run_entry_at (P:=C.P) w r b since seen es clock e hr hb he hst.2.1
 refine ⟨.tuple #[e.key,e.val],by simp [execOp,ho,rx.1,h],?_⟩
 simp only [RepA]
 exact ⟨[_,_],rfl,by simp only [RepAs]; exact ⟨_,_,rfl,rep_kav.2 hk,_,_,rfl,rep_kav.2 hvv,rfl⟩⟩
end
end Go.V

/-
 Slices of numbers,each one object and known by its address: made,read,cut,grown.
-/
namespace Go.V
section
variable {C:Ctx} {σ:St} {loc:Nat → Value} {a:Act} {w:World}
theorem G.turnGuest (hg:G C σ loc a w) {n:Nat} {L L':List Nat} {g g':Gst} {rem rem':List Ent} {w':World} (hown:σ.own n = .guest g rem) (hloc:loc n = encV L) (h1:w'.os = w.os) (h2:w'.tape = w.tape) (h3:w'.output = w.output)
  (hs:w.heap.size ≤ w'.heap.size) (hb:∀ k,k < w.heap.size → k ∉ L → w'.heap[k]? = w.heap[k]?) (hd:∀ D:Nat,w.heap[D]? = some markO → w'.heap[D]? = w.heap[D]?) (hL:∀ k ∈ L',k < w'.heap.size ∧ (k ∈ L ∨ w.heap.size ≤ k))
  (hok:g'.Ok C.P) (hJ:∀ M,g'.J rem' L' M w'):G C ⟨σ.env,upd σ.own n (.guest g' rem')⟩ (upd loc n (encV L')) a w':=by
 have hob:=hg.objs n
 rw [hown] at hob
 obtain ⟨_,L2,hl2,_,hA⟩:=hob
 have hLL:∀ x,x ∈ L ↔ x ∈ L2:=encV_inj (hloc.symm.trans hl2)
 have hnp:¬ C.pin n:=hold_nopin hg hloc
 have hl:∀ m,(loc m).oneCell' = true → upd loc n (encV L') m = loc m:=fun m hm => by
  by_cases e:m = n
  ·subst e; rw [hloc,encV_one] at hm; cases hm
  ·simp [upd,e]
 have hnb:∀ b,(σ.own n).has (loc n) b ↔ b ∈ L:=fun b => by rw [hown,hloc]; simp only [Ob.has,footV_encV]
 have hB:∀ b ∈ L,C.A b:=fun b hb => (hA b ((hLL b).1 hb)).2
 have hlt:∀ b ∈ L,b < w.heap.size:=fun b hb => (hA b ((hLL b).1 hb)).1
 have hfr:Fr C w':=⟨h1.trans hg.fr.os,h2.trans hg.fr.tape,h3.trans hg.fr.output,Nat.le_trans hg.fr.size hs,fun k hk hx => by
  rw [hb k (Nat.lt_of_lt_of_le hk hg.fr.size) fun hkL => by rcases hB k hkL with h | h; omega; exact hx h]
  exact hg.fr.block k hk hx⟩
 have hhas:∀ m b,(upd σ.own n (.guest g' rem') m).has (upd loc n (encV L') m) b → (m = n ∧ b ∈ L') ∨ (m ≠ n ∧ (σ.own m).has (loc m) b):=by
  intro m b h
  by_cases e:m = n
  ·subst e; simp only [upd,if_true,Ob.has,footV_encV] at h; exact .inl ⟨rfl,h⟩
  ·simp only [upd,e,if_false] at h; exact .inr ⟨e,h⟩
 have hmut:∀ m b o,(upd σ.own n (.guest g' rem') m).mut (upd loc n (encV L') m) b o → (m = n ∧ b ∈ L') ∨ (m ≠ n ∧ (σ.own m).mut (loc m) b o):=by
  intro m b o h
  by_cases e:m = n
  ·subst e; simp only [upd,if_true,Ob.mut,footV_encV] at h; exact .inl ⟨rfl,h⟩
  ·simp only [upd,e,if_false] at h; exact .inr ⟨e,h⟩
 have hk:Keeps w w' (MM C σ.own loc) (MM C (upd σ.own n (.guest g' rem')) (upd loc n (encV L'))):=by
  refine ⟨fun p hp hm => ?_,fun p hp hm hm' => ?_⟩
  ·refine World.cell?_of_block (hb _ (cell_lt hp) fun hpL => hm (.inr ⟨n,?_⟩))
   rw [hown,hloc]
   simp only [Ob.mut,footV_encV]
   exact hpL
  ·rcases hm' with h0 | ⟨m,h0⟩
   ·exact hm (.inl h0)
   ·rcases hmut m _ _ h0 with ⟨rfl,hbL⟩ | ⟨_,h4⟩
    ·rcases (hL _ hbL).2 with h5 | h5
     ·refine hm (.inr ⟨m,?_⟩)
      rw [hown,hloc]
      simp only [Ob.mut,footV_encV]
      exact h5
     ·have:=cell_lt hp; omega
    ·exact hm (.inr ⟨m,h4⟩)
 refine ⟨hfr,hg.m0,hg.kp.trans hk,fun x hx => ?_,hg.mnd,fun m hm => ?_,hg.size,fun t => RepA.reloc hl (RepA.keep hk _ _ (hg.slots t)),fun m => ?_,fun m k b hmk e1 e2 => ?_⟩
 ·obtain ⟨D,e1,e2,e3,e4⟩:=hg.marks x hx
  refine ⟨D,e1,e2,(hd D e3).trans e3,fun ⟨m,hm⟩ => ?_⟩
  rcases hhas m D hm with ⟨rfl,h5⟩ | ⟨_,h5⟩
  ·rcases (hL D h5).2 with h6 | h6
   ·exact e4 ⟨m,(hnb D).2 h6⟩
   ·have:=(Array.getElem?_eq_some_iff.1 e3).1; omega
  ·exact e4 ⟨m,h5⟩
 ·obtain ⟨p1,p2,p3⟩:=hg.pin m hm
  have:m ≠ n:=fun e => hnp (e ▸ hm)
  exact ⟨p1,by simp only [upd,this,if_false]; exact p2,p3⟩
 ·by_cases e:m = n
  ·subst e
   simp only [upd,if_true]
   refine ⟨hok,L',rfl,hJ _,fun b hbL => ⟨(hL b hbL).1,?_⟩⟩
   rcases (hL b hbL).2 with h5 | h5
   ·exact hB b h5
   ·exact .inl (Nat.le_trans hg.fr.size h5)
  ·simp only [upd,e,if_false]
   exact ObOk.reloc hl (ObOk.keep' hk hs (fun b hb' => hb b ((hg.objs m).lt hb') fun hbL => hg.disj m n b e hb' ((hnb b).2 hbL)) (hg.objs m))
 ·rcases hhas m b e1 with ⟨rfl,h5⟩ | ⟨hm,h5⟩ <;> rcases hhas k b e2 with ⟨rfl,h6⟩ | ⟨hk',h6⟩
  ·exact hmk rfl
  ·rcases (hL b h5).2 with h7 | h7
   ·exact hg.disj k m b hk' h6 ((hnb b).2 h7)
   ·have:=(hg.objs k).lt h6; omega
  ·rcases (hL b h6).2 with h7 | h7
   ·exact hg.disj m k b hm h5 ((hnb b).2 h7)
   ·have:=(hg.objs m).lt h5; omega
  ·exact hg.disj m k b hmk h5 h6
end
def qvals (xs:List (List Int)):List Value:=xs.flatten.map (Value.int .i64)
def queJ (e:TypeId) (sz:Nat) (xs:List (List Int)) (b off cap:Nat) (rem:List Ent) (L:List Nat) (_:Nat → Nat → Prop) (w:World):Prop :=
 rem = [] ∧ L = [b] ∧ ∃ cur:Array Value,w.heap[b]? = some (.cells cur e (0,0)) ∧ off + cap * sz ≤ cur.size ∧ (∀ x ∈ xs,x.length = sz) ∧ xs.length ≤ cap ∧ cap ≤ maxLen ∧ (cur.toList.drop off).take (xs.length * sz) = qvals xs
def qG (e:TypeId) (sz:Nat) (xs:List (List Int)) (b off cap:Nat):Gst:=⟨.bool false,queJ e sz xs b off cap⟩
def qO (e:TypeId) (sz:Nat) (xs:List (List Int)) (b off cap:Nat):Ob:=.guest (qG e sz xs b off cap) []
def qv (b off n cap:Nat):AV:=.c (.raw (.slice (some ⟨b,off,none⟩) n cap))
def qp (b off:Nat):AV:=.c (.raw (.pointer (some ⟨b,off,none⟩)))
def icds (xs:List (List Int)):List (List CD):=xs.map fun x => x.map (CD.int .i64)
theorem qG_ok (P:Program) (e:TypeId) (sz:Nat) (xs:List (List Int)) (b off cap:Nat):(qG e sz xs b off cap).Ok P:=by
 refine ⟨rfl,?_,?_⟩
 ·rintro rem L M w M' w' ⟨h1,h2,cur,h3,h4⟩ hk hb hs
  exact ⟨h1,h2,cur,by rw [hb b (by rw [h2]; simp)]; exact h3,h4⟩
 ·rintro args wins r rem L M w loc vs ⟨h1,_⟩
  cases h1
theorem add_at (b off j:Nat):(⟨b,off,none⟩ : Addr).add j = ⟨b,off + j,none⟩:=by unfold Addr.add; split <;> simp_all
theorem icds_flat (xs:List (List Int)):(icds xs).flatten = xs.flatten.map (CD.int .i64):=by unfold icds; rw [List.map_flatten]
theorem reps_icds {w:World} {M:Cells} {loc:Nat → Value} {xs:List (List Int)} {l:List Value}:RepAs w M loc ((icds xs).flatten.map .c) l ↔ l = qvals xs:=by
 rw [icds_flat,List.map_map]
 exact reps_ints (xs.flatten) l
theorem qlen {sz:Nat} {xs:List (List Int)} (h:∀ x ∈ xs,x.length = sz):(qvals xs).length = xs.length * sz:=by
 unfold qvals
 rw [List.length_map]
 induction xs with
 | nil => simp
 | cons x xs ih => rw [List.flatten_cons,List.length_append,ih fun y hy => h y (by simp [hy]),h x (by simp),List.length_cons,Nat.add_mul]; omega
theorem qvals_app (xs ys:List (List Int)):qvals (xs ++ ys) = qvals xs ++ qvals ys:=by unfold qvals; simp
theorem qvals_drop {sz:Nat}:∀ {xs:List (List Int)} (k:Nat),(∀ x ∈ xs,x.length = sz) → qvals (xs.drop k) = (qvals xs).drop (k * sz)
 | xs,0,_ => by simp
 | [],k + 1,_ => by simp [qvals]
 | x :: xs,k + 1,h => by
  rw [List.drop_succ_cons,qvals_drop k fun y hy => h y (by simp [hy])]
  have hx:=h x (by simp)
  have:qvals (x :: xs) = x.map (Value.int .i64) ++ qvals xs:=by simp [qvals]
  rw [this,show (k + 1) * sz = sz + k * sz by rw [Nat.add_mul]; omega,← List.drop_drop,List.drop_left' (by rw [List.length_map,hx])]
theorem qvals_at {sz:Nat} {xs:List (List Int)} {i:Nat} {x:List Int} (h:∀ x ∈ xs,x.length = sz) (hi:xs[i]? = some x) {j:Nat} (hj:j < sz):(qvals xs)[i * sz + j]? = (x.map (Value.int .i64))[j]?:=by
 have h1:=qvals_drop (sz:=sz) i h
 obtain ⟨hlt,hx⟩:=List.getElem?_eq_some_iff.1 hi
 rw [List.drop_eq_getElem_cons hlt,hx] at h1
 have h2:qvals (x :: xs.drop (i + 1)) = x.map (Value.int .i64) ++ qvals (xs.drop (i + 1)):=by simp [qvals]
 rw [← List.getElem?_drop,← h1,h2,List.getElem?_append_left (by rw [List.length_map,h x (List.mem_of_getElem? hi)]; exact hj)]
section
variable {P:Program} {σ:St} {K:St → Prop}
theorem RawI_sndI {d:Option Nat} {i:I} {v:AV} (h:∀ (C:Ctx) (loc:Nat → Value) (a:Act) (w:World) (o:Oper),C.P = P → CI P o.op i → G C σ loc a w → Snd C σ loc a w o v) (hK:K (σ.put d v)):RawI P d i K σ:=by
 intro C loc a w o hP hc hd hdl hg
 obtain ⟨u,hrun,hr⟩:=h C loc a w o hP (by rw [← hP]; exact cI_inv hc) hg
 exact ⟨_,⟨w,loc,.inl ⟨u,hrun,by rw [hd] at hdl ⊢; exact hg.put hdl hr⟩⟩,hK⟩
theorem raw_ia {d:Option Nat} {sz:Nat} {x i:X} {b off n cap:Nat} {k:IntKind} {j:Int} (h1:(σ.val x).dg = true) (h2:(σ.val i).dg = true) (hv:(σ.val x).dv = qv b off n cap) (hj:(σ.val i).dv = .c (.int k j)) (h0:0 ≤ j) (hn:j < n)
  (hK:K (σ.put d (qp b (off + j.toNat * sz)))):RawI P d (.ia sz x i) K σ:=by
 refine RawI_sndI (fun C loc a w o hP hci hg => ?_) hK
 subst hP
 generalize ho:o.op = op at hci
 cases hci with
 | ia ht hs hx hi =>
  have rx:=vald hg hx h1
  have ri:=vald hg hi h2
  rw [hv] at rx
  rw [hj] at ri
  simp only [qv,RepA,RepC] at rx ri
  refine ⟨.pointer (some ⟨b,off + j.toNat * sz,none⟩),?_,by simp only [qp,RepA,RepC]; exact ⟨trivial,rfl⟩⟩
  unfold sizeB at hs
  rename_i t e _ _
  cases hinf:C.P.info? e with
  | none => simp [hinf] at hs
  | some inf =>
   simp [hinf] at hs
   simp [execOp,ho,rx.1,ri,Instr.indexAt,asIntOf,run_underlying ht,h0,hn,sizeOf,typeInfo,hinf,hs,add_at]
theorem raw_qld {d:Option Nat} {sz:Nat} {x:X} {n b off cap i:Nat} {e:TypeId} {xs:List (List Int)} {r:List Int} (h1:(σ.val x).dg = true) (hv:(σ.val x).dv = qp b (off + i * sz)) (hown:σ.own n = qO e sz xs b off cap) (hi:xs[i]? = some r)
  (hK:K (σ.put d (.agg (r.map fun m => .c (.int .i64 m))))):RawI P d (.ld false sz x) K σ:=by
 refine RawI_sndI (fun C loc a w o hP hci hg => ?_) hK
 subst hP
 generalize ho:o.op = op at hci
 generalize hone:false = one at hci
 cases hci with
 | load ha hs hx =>
  rename_i t ag
  cases ag with
  | false => cases hone
  | true =>
  have rx:=vald hg hx h1
  rw [hv] at rx
  simp only [qp,RepA,RepC] at rx
  have hob:=hg.objs n
  rw [hown] at hob
  obtain ⟨_,L,_,⟨_,_,cur,hb,hcs,hsz,hle,hcm,hcur⟩,_⟩:=hob
  have hr:=hsz r (List.mem_of_getElem? hi)
  obtain ⟨hil,_⟩:=List.getElem?_eq_some_iff.1 hi
  refine ⟨.agg (r.map (Value.int .i64)).toArray,?_,?_⟩
  ·refine (show _ from by simp [execOp,ho,rx.1,Instr.loadAt,Instr.sureAddr,run_loadVar_agg (ad:=⟨b,off + i * sz,none⟩) (l:=r.map (Value.int .i64)) ha hs (by simpa using hr) (w:=w) (fun j u hj => by
    rw [add_at,cell_of_row w b _ cur e (0,0) hb]
    have hjl:j < sz:=by have:=(List.getElem?_eq_some_iff.1 hj).1; simpa [hr] using this
    have h2:=qvals_at hsz hi hjl
    rw [← hcur,List.getElem?_take] at h2
    have h3:i * sz + j < xs.length * sz:=by
     have:(i + 1) * sz ≤ xs.length * sz:=Nat.mul_le_mul_right _ hil
     rw [Nat.add_mul] at this; omega
    rw [if_pos h3,List.getElem?_drop,hj] at h2
    rw [← Array.getElem?_toList,Nat.add_assoc]; exact h2)])
  ·simp only [RepA]
   exact ⟨_,rfl,(reps_ints r _).2 rfl⟩
theorem raw_qslc {d:Option Nat} {sz:Nat} {x lo:X} {n b off cap l m:Nat} {k:IntKind} {e:TypeId} {xs:List (List Int)} (h1:(σ.val x).dg = true) (h2:(σ.val lo).dg = true) (hv:(σ.val x).dv = qv b off m cap) (hm:xs.length = m) (hlo:(σ.val lo).dv = .c (.int k l)) (hown:σ.own n = qO e sz xs b off cap) (hl:l ≤ m)
  (hK:∀ off',K (St.put ⟨σ.env,upd σ.own n (qO e sz (xs.drop l) b off' (cap - l))⟩ d (qv b off' (m - l) (cap - l)))):RawI P d (.slc sz x (some lo) none) K σ:=by
 subst hm
 intro C loc a w o hP hc hd hdl hg
 subst hP
 have hci:=cI_inv hc
 generalize ho:o.op = op at hci
 generalize hlo':some lo = lo' at hci
 generalize hhi':(none:Option X) = hi' at hci
 cases hci with
 | slc ht hs hx hcl hch =>
  subst hlo'; subst hhi'
  rename_i t e0 x0 lo0 hi0
  obtain ⟨lo1,rfl,hlo1⟩ : ∃ l1,lo0 = some l1 ∧ cX l1 = some lo:=by
   cases lo0 with
   | none => simp [cOX] at hcl
   | some l1 => simp [cOX] at hcl; exact ⟨l1,rfl,hcl⟩
  have hnone:hi0 = none:=by
   cases hi0 with
   | none => rfl
   | some l1 => simp [cOX] at hch
  subst hnone
  have rx:=vald hg hx h1
  have rl:=vald hg hlo1 h2
  rw [hv] at rx
  rw [hlo] at rl
  simp only [qv,RepA,RepC] at rx rl
  have hob:=hg.objs n
  rw [hown] at hob
  obtain ⟨_,L,hL,⟨_,rfl,cur,hb,hcs,hsz,hle,hcm,hcur⟩,_⟩:=hob
  unfold sizeB at hs
  cases hinf:C.P.info? e0 with
  | none => simp [hinf] at hs
  | some inf =>
  simp [hinf] at hs
  obtain ⟨off',hoff',ho2⟩ : ∃ off',(if cap = l then (some ⟨b,off,none⟩ : Option Addr) else some ((⟨b,off,none⟩ : Addr).add (l * sz))) = some ⟨b,off',none⟩ ∧ (l < cap → off' = off + l * sz) ∧ (cap = l → off' = off):=by
   by_cases h:cap = l
   ·exact ⟨off,by rw [if_pos h],fun h' => by omega,fun _ => rfl⟩
   ·exact ⟨off + l * sz,by rw [if_neg h,add_at],fun _ => rfl,fun h' => absurd h' h⟩
  have hg1:=hg.setGuest (g:=qG e sz xs b off cap) (g':=qG e sz (xs.drop l) b off' (cap - l)) (rem':=[]) hown hL (by simp) hb (fun x h => by cases h) (o':=.cells cur e (0,0)) (qG_ok _ _ _ _ _ _ _) fun M => by
   refine ⟨rfl,rfl,cur,(MapKept.heap_set hb).1,?_,fun x hx => hsz x (List.mem_of_mem_drop hx),by simp; omega,by omega,?_⟩
   ·by_cases h:cap = l
    ·rw [ho2.2 h,h]; simp
     have:off + cap * sz ≤ cur.size:=hcs
     omega
    ·rw [ho2.1 (by omega)]
     have h5:l * sz + (cap - l) * sz = cap * sz:=by rw [← Nat.add_mul,show l + (cap - l) = cap by omega]
     omega
   ·rw [qvals_drop l hsz,← hcur,List.drop_take,List.length_drop,← Nat.sub_mul]
    by_cases h:cap = l
    ·have:xs.length - l = 0:=by omega
     rw [this]; simp
    ·rw [ho2.1 (by omega),List.drop_drop]
  have hww:({ w with heap:=w.heap.setIfInBounds b (.cells cur e (0,0)) }:World) = w:=by
   have:w.heap.setIfInBounds b (.cells cur e (0,0)) = w.heap:=by
    apply Array.ext_getElem?
    intro i
    rw [Array.getElem?_setIfInBounds]
    split
    ·rename_i h; subst h; split
     ·exact hb.symm
     ·rename_i h; rw [Array.getElem?_eq_none (by omega)]
    ·rfl
   rw [this]
  rw [hww] at hg1
  refine ⟨_,⟨w,loc,.inl ⟨.slice (some ⟨b,off',none⟩) (xs.length - l) (cap - l),?_,?_⟩⟩,hK off'⟩
  ·by_cases h:cap = l
   ·rw [ho2.2 h]
    have:xs.length = cap:=by omega
    subst h
    simp [execOp,ho,rx.1,rl,Instr.sliceAt,Instr.slice,run_underlying ht,Instr.sliceBounds,Instr.sliceBound,asIntOf,sizeOf,typeInfo,hinf,hs,this]
   ·rw [ho2.1 (by omega)]
    simp [execOp,ho,rx.1,rl,Instr.sliceAt,Instr.slice,run_underlying ht,Instr.sliceBounds,Instr.sliceBound,asIntOf,sizeOf,typeInfo,hinf,hs,hl,h,add_at]
  ·rw [hd] at hdl ⊢
   exact hg1.put hdl (by simp only [qv,RepA,RepC]; exact ⟨trivial,rfl⟩)
end
theorem run_append_at {P:Program} (w:World) (t ty e:TypeId) (i:TypeInfo) (ht:P.underlying t = some (.slice e)) (hi:P.info? e = some i)
  (g off sLen sCap:Nat) (cur:Array Value) (hg:w.heap[g]? = some (.cells cur e (0,0)))
  (a:Addr) (m c:Nat) (news:List Value) (hl:news.length = m * i.size) (hnews:∀ j u,news[j]? = some u → w.cell? (a.add j) = some u) (h1:∀ u ∈ news,u.oneCell' = true)
  (hroom:sLen + m ≤ sCap) (hfit:off + sLen * i.size + news.length ≤ cur.size) :
  (Builtin.append_ #[t,t] ty #[.slice (some ⟨g,off,none⟩) sLen sCap,.slice (some a) m c]).run P w =
   .ok (.slice (some ⟨g,off,none⟩) (sLen + m) sCap) (w.setRow g (cur.toList.take (off + sLen * i.size) ++ news ++ cur.toList.drop (off + sLen * i.size + news.length)).toArray):=by
 have hf:=run_firstCells_some (P:=P) w i.size m a m c news hl hnews
 have hst:=run_storeCells_at P g (off + sLen * i.size) e news 0 cur w hg (by simpa using hfit) h1
 simp only [Nat.add_zero] at hst
 simp [Builtin.append_,run_underlying ht,sizeOf,typeInfo,hi,Builtin.lenOf,hroom,hf,Addr.add_lit,hst]
theorem qones (ys:List (List Int)):∀ u ∈ qvals ys,u.oneCell' = true:=fun u hu => by
 unfold qvals at hu
 obtain ⟨n,_,rfl⟩:=List.mem_map.1 hu
 rfl
section
variable {P:Program} {σ:St} {K:St → Prop}
theorem append_q {P:Program} {w:World} (t ty e:TypeId) (i:TypeInfo) (z:Value) (ht:P.underlying t = some (.slice e)) (hi:P.info? e = some i) (hz:i.zero = some z) (hzs:z.cells.size = i.size)
  {b off cap:Nat} {xs ys:List (List Int)} {A:Option Addr} {m c:Nat} {L:List Nat} {rem:List Ent} {Mx:Nat → Nat → Prop} (hq:queJ e i.size xs b off cap rem L Mx w) (hm:m = ys.length) (hys:∀ y ∈ ys,y.length = i.size) (hA:ys = [] ∨ ∃ ad,A = some ad ∧ ∀ j u,(qvals ys)[j]? = some u → w.cell? (ad.add j) = some u)
  (h63:xs.length + m ≤ maxLen) (hbytes:(xs.length + m) * i.bytes ≤ 140737488355328) :
  ∃ b' off' cap' w',(Builtin.append_ #[t,t] ty #[.slice (some ⟨b,off,none⟩) xs.length cap,.slice A m c]).run P w = .ok (.slice (some ⟨b',off',none⟩) (xs.length + m) cap') w' ∧ (∀ M,queJ e i.size (xs ++ ys) b' off' cap' [] [b'] M w') ∧
   w'.os = w.os ∧ w'.tape = w.tape ∧ w'.output = w.output ∧ w.heap.size ≤ w'.heap.size ∧ (∀ k,k < w.heap.size → k ≠ b → w'.heap[k]? = w.heap[k]?) ∧ b' < w'.heap.size ∧ (b' = b ∨ w.heap.size ≤ b'):=by
 obtain ⟨rfl,rfl,cur,hb,hcs,hsz,hle,hcm,hcur⟩:=hq
 have hbl:b < w.heap.size:=(Array.getElem?_eq_some_iff.1 hb).1
 have h63':xs.length + m ≤ 9223372036854775807:=by simp only [maxLen] at h63; omega
 rcases hA with rfl | ⟨ad,rfl,hnews⟩
 ·simp only [List.length_nil] at hm
  subst hm
  refine ⟨b,off,cap,w,?_,fun M => ⟨rfl,rfl,cur,hb,hcs,by simpa using hsz,by simpa using hle,hcm,by simpa using hcur⟩,rfl,rfl,rfl,Nat.le_refl _,fun _ _ _ => rfl,hbl,.inl rfl⟩
  cases A <;> simp [Builtin.append_,run_underlying ht,sizeOf,typeInfo,hi,Builtin.lenOf,Builtin.firstCells,hle,storeCells,loadCells,loadCellsFrom]
 ·subst hm
  have hl:(qvals ys).length = ys.length * i.size:=qlen hys
  have hall:∀ x ∈ xs ++ ys,x.length = i.size:=fun x hx => by rcases List.mem_append.1 hx with h | h; exact hsz x h; exact hys x h
  have hxl:(qvals xs).length = xs.length * i.size:=qlen hsz
  by_cases hroom:xs.length + ys.length ≤ cap
  ·have hsum:xs.length * i.size + ys.length * i.size ≤ cap * i.size:=by rw [← Nat.add_mul]; exact Nat.mul_le_mul_right _ hroom
   have hr:=run_append_at (P:=P) w t ty e i ht hi b off xs.length cap cur hb ad ys.length c (qvals ys) hl hnews (qones ys) hroom (by rw [hl]; omega)
   refine ⟨b,off,cap,_,hr,fun M => ⟨rfl,rfl,_,setRow_heap w b cur _ e _ hb,?_,hall,by simpa using hroom,hcm,?_⟩,rfl,rfl,rfl,by simp,fun k _ hk => setRow_other w b k _ hk,by simpa using hbl,.inl rfl⟩
   ·simp only [List.size_toArray,List.length_append,List.length_take,List.length_drop,Array.length_toList,hl]
    omega
   ·have e1:(cur.toList.take (off + xs.length * i.size)).drop off = qvals xs:=by rw [List.drop_take,Nat.add_sub_cancel_left,hcur]
    have e2:off ≤ (cur.toList.take (off + xs.length * i.size)).length:=by have hx2:cur.toList.length = cur.size:=Array.length_toList; rw [List.length_take,hx2]; omega
    rw [List.append_assoc,List.drop_append_of_le_length e2,e1,qvals_app,← List.append_assoc,List.take_append_of_le_length (by rw [List.length_append,List.length_append,hxl,hl,Nat.add_mul]; exact Nat.le_refl _),List.take_of_length_le (by rw [List.length_append,List.length_append,hxl,hl,Nat.add_mul]; exact Nat.le_refl _)]
  ·have holds:∀ j u,(qvals xs)[j]? = some u → w.cell? ((⟨b,off,none⟩ : Addr).add j) = some u:=fun j u hj => by
    rw [add_at,cell_of_row w b _ cur e (0,0) hb]
    rw [← hcur,List.getElem?_take] at hj
    split at hj
    ·rw [List.getElem?_drop] at hj
     rw [← Array.getElem?_toList]; exact hj
    ·cases hj
   have hr:=run_append_grow (P:=P) w t ty e i z ht hi hz ⟨b,off,none⟩ xs.length cap (qvals xs) hxl holds ad ys.length c (qvals ys) hl hnews (by omega) (by omega) (growslice_fits (by omega) hbytes)
   have hge:=grownCap_ge w (xs.length + ys.length) cap e
   have hcm2:grownCap w (xs.length + ys.length) cap e ≤ maxLen:=grownCap_le_maxLen w _ cap e h63
   refine ⟨_,0,_,_,hr,fun M => ⟨rfl,rfl,_,heap_alloc_new w.drew _,?_,hall,by simpa using hge,hcm2,?_⟩,rfl,rfl,rfl,by simp,fun k hk _ => alloc_old w.drew _ k hk,by simp,.inr (Nat.le_refl _)⟩
   ·simp only [Array.size_append,List.size_toArray,size_zeroCells,hzs,hxl,hl,← Nat.add_mul,Nat.zero_add]
    exact Nat.mul_le_mul_right _ (by omega)
   ·simp only [Array.toList_append,List.append_assoc,List.drop_zero,List.length_append]
    rw [← List.append_assoc,← qvals_app,List.take_append_of_le_length (by rw [qlen hall,List.length_append]; exact Nat.le_refl _),List.take_of_length_le (by rw [qlen hall,List.length_append]; exact Nat.le_refl _)]
theorem raw_qapp {d:Option Nat} {e sz bytes:Nat} {s x:X} {n b off cap m:Nat} {xs ys:List (List Int)} (h1:(σ.val s).dg = true) (h2:(σ.val x).dg = true) (hv:(σ.val s).dv = qv b off m cap) (hm:xs.length = m) (hx:(σ.val x).dv.elems σ.own = some (icds ys)) (hown:σ.own n = qO e sz xs b off cap)
  (hys:∀ y ∈ ys,y.length = sz) (h63:m + ys.length ≤ maxLen) (hbytes:(m + ys.length) * bytes ≤ 140737488355328)
  (hK:∀ b' off' cap',K (St.put ⟨σ.env,upd σ.own n (qO e sz (xs ++ ys) b' off' cap')⟩ d (qv b' off' (m + ys.length) cap'))):RawI P d (.app e sz bytes s x) K σ:=by
 subst hm
 intro C loc a w o hP hc hd hdl hg
 subst hP
 have hci:=cI_inv hc
 generalize ho:o.op = op at hci
 cases hci with
 | app ht hi hz hzs hpos hcs hcx =>
  rename_i t s0 x0 i z
  have rs:=vald hg hcs h1
  have rx:=vald hg hcx h2
  rw [hv] at rs
  simp only [qv,RepA,RepC] at rs
  obtain ⟨szx,hrx⟩:=hg.elems rx hx
  simp only [RepC] at hrx
  obtain ⟨A,capx,hxv,_,_,hxe⟩:=hrx
  have hob:=hg.objs n
  rw [hown] at hob
  obtain ⟨_,L,hL,hq,_⟩:=hob
  have hLb:=hq.2.1
  have hA:ys = [] ∨ ∃ ad,A = some ad ∧ ∀ j u,(qvals ys)[j]? = some u → w.cell? (ad.add j) = some u:=by
   rcases hxe with h | ⟨ad,rfl,hE⟩
   ·left; simpa [icds] using h
   ·obtain ⟨news,k1,k2,k3,k4⟩:=hE.vals (loc:=fun _ => undef)
    rw [reps_icds] at k3
    subst k3
    exact .inr ⟨ad,rfl,k2⟩
  have hlen:(icds ys).length = ys.length:=by simp [icds]
  obtain ⟨b',off',cap',w',hr,hq',e1,e2,e3,e4,e5,e6,e7⟩:=append_q (P:=C.P) (A:=A) (c:=capx) (Mx:=fun _ _ => True) t o.type e i z ht hi hz hzs hq hlen hys hA (by rw [hlen]; exact h63) (by rw [hlen]; exact hbytes)
  subst hLb
  have hg1:=hg.turnGuest (g:=qG e i.size xs b off cap) (g':=qG e i.size (xs ++ ys) b' off' cap') (rem':=[]) (L':=[b']) hown hL e1 e2 e3 e4 (fun k hk hkL => e5 k hk (by simpa using hkL)) (fun D hD => e5 D (Array.getElem?_eq_some_iff.1 hD).1 (fun h => by
    subst h; obtain ⟨_,_,cur,hb,_⟩:=hq; rw [hb] at hD; cases hD)) (fun k hk => by simp only [List.mem_singleton] at hk ⊢; subst hk; exact ⟨e6,e7⟩) (qG_ok _ _ _ _ _ _ _) hq'
  refine ⟨_,⟨w',upd loc n (encV [b']),.inl ⟨.slice (some ⟨b',off',none⟩) (xs.length + ys.length) cap',?_,?_⟩⟩,hK b' off' cap'⟩
  ·rw [hlen] at hxv hr
   simp [execOp,ho,resolve,invoke,builtin,rs.1,hxv,hr]
  ·rw [hd] at hdl ⊢
   exact hg1.put hdl (by simp only [qv,RepA,RepC]; exact ⟨trivial,rfl⟩)
end
section
variable {C:Ctx} {σ:St} {K:St → Prop} {is:List Ins} {Q:Exit → St → Prop}
def I.plainB:I → Bool
 | .appv _ _ _ _ _ => false
 | .bslv _ _ _ => false
 | .ldd _ _ _ => false
 | .calln _ _ => false
 | _ => true
theorem SOps_rawI {d:Option Nat} {i:I} {s:Bool} (hp:i.plainB = true) (h:RawI C.P d i (SOps C is K) σ):SOps C (⟨d,i,none,s⟩ :: is) K σ:=by
 refine SOps_sem fun ops o hins Q' K' hK' a w hg => ?_
 obtain ⟨s1,ii,hc,hvw⟩:=hins
 simp only at hc hvw
 have hii:ii = i:=by
  rcases hvw with h | ⟨_,_,_,_,_,_,h⟩ | ⟨_,_,_,_,h⟩ | ⟨_,_,_,_,h⟩ | ⟨_,_,_,h⟩
  ·exact h.symm
  all_goals (rw [h] at hp; cases hp)
 subst hii
 obtain ⟨loc,hg⟩:=hg
 unfold cOp at hc
 split at hc
 case h_2 => cases hc
 rename_i ins g hi hgd
 split at hc
 case isFalse => cases hc
 rename_i hd
 simp only [Option.some.injEq,Ins.mk.injEq] at hc
 obtain ⟨rfl,rfl,rfl,_⟩:=hc
 have hog:o.guard = none:=by
  unfold cGuard at hgd
  split at hgd
  ·rename_i h; exact h
  ·split at hgd <;> simp at hgd
 rw [if_pos (by simp [Region.wanted,hog])]
 exact raw_sound hg hi hd h fun σ' a' w' hg' hk => hK' σ' a' w' hg' hk
end
section
variable {P:Program} {σ:St} {K:St → Prop}
theorem raw_qbsl {d e sz:Nat} {parts:List X} {xs:List (List Int)} (hes:(parts.mapM fun x => (σ.val x).dv.cds σ.own) = some (icds xs)) (hn:(σ.own d).isNone = true) (hdg:(parts.all fun x => (σ.val x).dg) = true) (hel:∀ x ∈ xs,x.length = sz)
  (hK:∀ b,K ⟨upd (prgE d σ.env) d (qv b 0 xs.length xs.length),upd (prgO d σ.own) d (qO e sz xs b 0 xs.length)⟩):RawI P (some d) (.bsl e sz parts) K σ:=by
 intro C loc a w o hP hc hd hdl hg
 subst hP
 have hci:=cI_inv hc
 generalize ho:o.op = op at hci
 cases hci with
 | bsl ht hs hz hpr hpos hlim hzl hxs =>
  rename_i t n ps z
  have hel':((icds xs).all fun e => e.length == sz) = true:=by
   unfold icds
   rw [List.all_eq_true]
   intro y hy
   obtain ⟨x,hx,rfl⟩:=List.mem_map.1 hy
   simpa using hel x hx
  obtain ⟨arr',hrun,harr,hlen,hrs⟩:=bsl_run hg ho ht hs hz hpr hpos hlim hzl hxs hes hdg hel'
  rw [reps_icds] at hrs
  have hlx:xs.length = n:=by simpa [icds] using hlen
  subst hlx
  rw [hd] at hdl
  have hdN:d < C.N:=by simpa using hdl
  refine ⟨_,⟨w.alloc (.cells arr' e),upd loc d (encV [w.heap.size]),.inl ⟨.slice (some ⟨w.heap.size,0,none⟩) xs.length xs.length,hrun,?_⟩⟩,hK w.heap.size⟩
  rw [hd]
  refine hg.newblock (ob:=qO e sz xs w.heap.size 0 xs.length) hdN hn (fun b hb => ?_) (fun M loc' hk hl' hv => ?_) (fun M loc' hv => ?_)
  ·simp only [qO,Ob.has,footV_encV,List.mem_singleton] at hb
   exact hb
  ·refine ⟨qG_ok _ _ _ _ _ _ _,[w.heap.size],rfl,⟨rfl,rfl,arr',by rw [alloc_new],by omega,hel,Nat.le_refl _,?_,?_⟩,fun b hb => ?_⟩
   ·simp only [maxLen]
    have:xs.length ≤ xs.length * sz:=Nat.le_mul_of_pos_right _ hpos
    omega
   ·rw [List.drop_zero,hrs,List.take_of_length_le (by rw [qlen hel]; exact Nat.le_refl _)]
   ·simp only [List.mem_singleton] at hb
    subst hb
    exact ⟨by simp,.inl hg.fr.size⟩
  ·simp only [qv,RepA,RepC]
   exact ⟨trivial,rfl⟩
end
end Go.V

/-
 Arrays of four numbers compared; a look into a map that does not tell whether there is something.
-/
namespace Go.V
theorem run_eqA {P:Program} (w:World) {t e:TypeId} {k:IntKind} {a b c d a' b' c' d':Int} (ht:P.underlying t = some (.array 4 e)) (he:P.underlying e = some (.int k)) (hs:sizeB P e = some 1) (ha:isAggB P e = some false) :
  (Op.equal t (.agg #[.int .i64 a,.int .i64 b,.int .i64 c,.int .i64 d]) (.agg #[.int .i64 a',.int .i64 b',.int .i64 c',.int .i64 d'])).run P w = .ok (a == a' && (b == b' && (c == c' && d == d'))) w:=by
 have hie:∃ ie,P.info? e = some ie ∧ ie.size = 1:=by
  unfold sizeB at hs
  simpa using hs
 obtain ⟨ie,hie,hsz⟩:=hie
 have hsr:(sizeOf e).run P w = .ok 1 w:=by simp [sizeOf,typeInfo,hie,hsz]
 have hpart:∀ (cs:Array Value) (i:Nat) (v:Value),cs[i]? = some v → (part e cs i).run P w = .ok v w:=fun cs i v h => run_part_one (w:=w) ha h
 have hint:∀ (n:Nat) (x y:Int),(Op.equalIn (n + 1) e (.int .i64 x) (.int .i64 y)).run P w = .ok (x == y) w:=fun n x y => by simp [Op.equalIn,run_underlying he]
 have hgen:∀ n:Nat,(Op.equalIn (n + 1 + 1) t (.agg #[.int .i64 a,.int .i64 b,.int .i64 c,.int .i64 d]) (.agg #[.int .i64 a',.int .i64 b',.int .i64 c',.int .i64 d'])).run P w = .ok (a == a' && (b == b' && (c == c' && d == d'))) w:=by
  intro n
  rw [Op.equalIn]
  simp only [Sem.run_bind,run_underlying ht,Result.andThen_ok,hsr]
  simp only [Std.Legacy.Range.forIn_eq_forIn_range',Std.Legacy.Range.size]
  by_cases h1:a = a' <;> by_cases h2:b = b' <;> by_cases h3:c = c' <;> by_cases h4:d = d' <;> simp [List.range',hpart,hint,h1,h2,h3,h4]
 exact hgen 9998
section
variable {P:Program} {σ:St} {K:St → Prop}
theorem raw_eqA {d:Option Nat} {t t' e:TypeId} {k:IntKind} {x y:Operand} {x' y':X} {a b c f a' b' c' f':Int} (ht:P.underlying t = some (.array 4 e)) (he:P.underlying e = some (.int k)) (hs:sizeB P e = some 1) (ha:isAggB P e = some false) (hgt:P.eqGuardType P.depth t = false)
  (hx:cX x = some x') (hy:cX y = some y') (h1:(σ.val x').dg = true) (h2:(σ.val y').dg = true) (hv:(σ.val x').dv = kav true [a,b,c,f]) (hw:(σ.val y').dv = kav true [a',b',c',f'])
  (hK:K (σ.put d (.c (.bool (a == a' && (b == b' && (c == c' && f == f'))))))):RawI P d (.raw (.binOp .eql t x y t')) K σ:=by
 refine RawI_snd (fun C loc ac w o hP ho hg => ?_) hK
 subst hP
 have rx:=vald hg hx h1
 have ry:=vald hg hy h2
 rw [hv,rep_kav] at rx
 rw [hw,rep_kav] at ry
 refine ⟨.bool (a == a' && (b == b' && (c == c' && f == f'))),?_,by simp only [RepA,RepC]⟩
 have hr:=run_eqA (a:=a) (b:=b) (c:=c) (d:=f) (a':=a') (b':=b') (c':=c') (d':=f') w ht he hs ha
 simp only [kval,if_true,List.map_cons,List.map_nil] at rx ry
 simp [execOp,ho,rx,ry,run_eqGuard_agg w _ _ _ _ _ _ hgt,binOp,hr]
theorem raw_lookN {d:Option Nat} {t k e:TypeId} {x i:Operand} {x' i':X} {n b:Nat} {ka va:Bool} {l:GL} {key zs:List Int} {Kp:Value → Prop} (ht:P.underlying t = some (.map k e)) (hkl:KLaw P k Kp) (hz:(P.info? e).bind (·.zero) = some (kval va zs))
  (hx:cX x = some x') (hi:cX i = some i') (h1:(σ.val x').dg = true) (h2:(σ.val i').dg = true) (hv:(σ.val x').dv = .c (.raw (.map (some b)))) (hj:(σ.val i').dv = kav ka key) (hown:σ.own n = gmap ka va l b)
  (hkey:Kp (kval ka key)) (hkeys:∀ p ∈ l,Kp (kval ka p.1)) (hinj:∀ p ∈ l,kval ka p.1 = kval ka key → p.1 = key)
  (hK:K (σ.put d (kav va ((glook l key).getD zs)))):RawI P d (.raw (.lookup t x i false)) K σ:=by
 refine RawI_snd (fun C loc a w o hP ho hg => ?_) hK
 subst hP
 have rx:=vald hg hx h1
 have ri:=vald hg hi h2
 rw [hv] at rx
 rw [hj,rep_kav] at ri
 simp only [RepA,RepC] at rx
 have hob:=hg.objs n
 rw [hown] at hob
 obtain ⟨_,L,hl,⟨_,rfl,es,clock,hb,hst,hes⟩,hA⟩:=hob
 have hks:∀ e ∈ es.toList,Kp e.key:=fun e he => by
  have hm:(e.key,e.val) ∈ es.toList.map (fun e => (e.key,e.val)):=List.mem_map.2 ⟨e,he,rfl⟩
  rw [hes] at hm
  obtain ⟨p,hp,h3⟩:=List.mem_map.1 hm
  simp only [Prod.mk.injEq] at h3
  rw [← h3.1]; exact hkeys p hp
 refine ⟨kval va ((glook l key).getD zs),?_,rep_kav.2 rfl⟩
 rcases hkl.find w hkey es.toList hks with ⟨f1,f2⟩ | ⟨j,e0,f1,f2,f3⟩
 ·rw [glook_none hes f2]
  simp [execOp,ho,rx.1,ri,Instr.lookup,run_underlying ht,MapKept.run_getObj_map hb,hkl.check w _ hkey,f1,run_zero hz]
 ·obtain ⟨v,g1,g2,g3⟩:=glook_some hes hst.2.2 hinj f2 f3
  rw [g2]
  simp [execOp,ho,rx.1,ri,Instr.lookup,run_underlying ht,MapKept.run_getObj_map hb,hkl.check w _ hkey,f1,g3]
def bndJ (P:Program) (f:FuncId) (av:AV) (fv:Value) (rem:List Ent) (L:List Nat) (M:Nat → Nat → Prop) (w:World):Prop :=
 L = [] ∧ fv.oneCell' = true ∧ (∃ wv,fv = .func (.func f) #[wv] #[] ∧ RepA w M noLoc av wv) ∧ ∀ e ∈ rem,AV.pureL e.args = true ∧ e.res.scal = true ∧ FSpec P f (av :: e.args) e.res
def gB (P:Program) (f:FuncId) (av:AV) (fv:Value):Gst:=⟨fv,bndJ P f av fv⟩
theorem gB_ok (f:FuncId) (av:AV) (fv:Value) (h1:fv.oneCell' = true):(gB P f av fv).Ok P:=by
 refine ⟨h1,?_,?_⟩
 ·rintro rem L M w M' w' ⟨k1,k2,⟨wv,k3,k4⟩,k5⟩ hk hb hs
  exact ⟨k1,k2,⟨wv,k3,RepA.keep hk _ _ k4⟩,k5⟩
 ·rintro args wins r rem L M w loc vs ⟨k1,k2,⟨wv,k3,k4⟩,k5⟩ hM hL hr hl hw hd
  obtain ⟨j1,j2,j3,j4⟩:=k5 ⟨args,wins,r⟩ (by simp)
  simp only at j1 j2 j4
  subst k1
  refine ⟨j2,.inl ⟨f,#[wv],#[],k3,j3,?_⟩⟩
  have h5:=j4 w M (wv :: vs) hM (by simp only [RepAs]; exact ⟨wv,vs,rfl,k4,pures_loc j1 hr⟩)
  have e1:#[wv] ++ vs.toArray ++ #[] = (wv :: vs).toArray:=by apply Array.ext'; simp
  show Calls P f (#[wv] ++ vs.toArray ++ #[]) w _
  rw [e1]
  refine h5.mono fun e w' ⟨v,e2,e3,e4⟩ => ⟨v,[],e2,scal_rep j2 e3,⟨e4.os,e4.tape,e4.output,e4.size,fun k hk _ => e4.block k hk⟩,(fun b hb => by cases hb),⟨rfl,k2,⟨wv,k3,?_⟩,fun e he => k5 e (List.mem_cons_of_mem _ he)⟩⟩
  have hsub:∀ b o,(M b o ∧ b ∉ ([]:List Nat)) ∨ b ∈ ([]:List Nat) → M b o:=fun b o h => by
   rcases h with h | h
   ·exact h.1
   ·cases h
  exact RepA.keep (⟨fun p hp _ => World.cell?_of_block (e4.block _ (cell_lt hp)),fun p hp hm hm' => hm (hsub _ _ hm')⟩ : Keeps w w' M _) _ _ k4
theorem raw_bound {d:Nat} {f:FuncId} {x:Operand} {x':X} {av:AV} (rem:List Ent) (hx:cX x = some x') (h1:(σ.val x').dg = true) (hv:(σ.val x').dv = av) (hp:av.pureB = true) (hn:(σ.own d).isNone = true)
  (hrem:∀ e ∈ rem,AV.pureL e.args = true ∧ e.res.scal = true ∧ FSpec P f (av :: e.args) e.res)
  (hK:∀ g:Gst,K ⟨upd (prgE d σ.env) d (.c (.raw g.fv)),upd (prgO d σ.own) d (.guest g rem)⟩):RawI P (some d) (.raw (.makeFunc (.func f) #[x] #[])) K σ:=by
 refine RawI_raw fun C loc a w o hP ho hod hdl hg => ?_
 subst hP
 have hd:d < C.N:=by simpa using hdl
 have rx:=vald hg hx h1
 rw [hv] at rx
 have hnone:σ.own d = .none:=by cases h:σ.own d <;> simp_all [Ob.isNone]
 have hpd:¬ C.pin d:=fun h => by have:=(hg.pin d h).1.1; omega
 have h2:=hg.forget hnone hpd
 have hk0:=Keeps.less (w:=w) (M:=MM C σ.own loc) (M':=MM C (prgO d σ.own) (upd loc d undef)) (fun b o h => by
  rcases h with h | ⟨m,h⟩
  ·exact .inl h
  ·simp only [prgO,Ob.mut_prg] at h
   by_cases hm:m = d
   ·subst hm; rw [hnone] at h; exact (Ob.has_none _ _ (Ob.has_of_mut h)).elim
   ·exact .inr ⟨m,by simpa [upd,hm] using h⟩)
 have rx2:=RepA.keep hk0 _ _ rx
 obtain ⟨fv,hfv⟩ : ∃ fv,fv = Value.func (.func f) #[a.eval x] #[]:=⟨_,rfl⟩
 have hone:fv.oneCell' = true:=by rw [hfv]; rfl
 have hl:∀ m,(upd loc d undef m).oneCell' = true → upd loc d (encV []) m = upd loc d undef m:=by
  intro m hm
  by_cases e:m = d
  ·subst e; simp [upd] at hm; cases hm
  ·simp [upd,e]
 have hfo:∀ m b,(upd (prgO d σ.own) d (.guest (gB C.P f av fv) rem) m).has (upd loc d (encV []) m) b → (prgO d σ.own m).has (upd loc d undef m) b:=by
  intro m b h
  by_cases e':m = d
  ·subst e'
   simp only [upd,if_true,Ob.has,footV_encV] at h
   cases h
  ·simp only [upd,e',if_false] at h ⊢
   exact h
 have h3:G C ⟨prgE d σ.env,upd (prgO d σ.own) d (.guest (gB C.P f av fv) rem)⟩ (upd loc d (encV [])) a w:=by
  refine h2.reown (fun n hn' => ?_) (fun t => RepA.reloc hl (h2.slots t)) (fun b o hm => ?_) (fun b ⟨n,h⟩ => ⟨n,hfo n b h⟩) (fun n => ?_) (fun n m b hnm k1 k2 => h2.disj n m b hnm (hfo n b k1) (hfo m b k2))
  ·have:n ≠ d:=fun e => hpd (e ▸ hn')
   simp [upd,this]
  ·obtain ⟨n,h⟩:=hm
   by_cases e':n = d
   ·subst e'
    simp only [upd,if_true,Ob.mut,footV_encV] at h
    cases h
   ·exact ⟨n,by simp only [upd,e',if_false] at h ⊢; exact h⟩
  ·by_cases e':n = d
   ·subst e'
    simp only [upd,if_true]
    exact ⟨gB_ok _ _ _ hone,[],rfl,⟨rfl,hone,⟨_,hfv,pure_loc hp rx2⟩,hrem⟩,fun b hb => by cases hb⟩
   ·have:=h2.objs n
    simp only [upd,e',if_false] at this ⊢
    exact ObOk.reloc (loc:=upd loc d undef) hl this
 refine ⟨_,⟨w,upd loc d (encV []),.inl ⟨fv,?_,?_⟩⟩,hK (gB C.P f av fv)⟩
 ·simp [execOp,ho,Instr.makeFunc,hfv]
 ·rw [hod]
  exact h3.put (d:=some d) hdl (by simp only [gB,RepA,RepC]; first | exact ⟨trivial,hone⟩ | exact ⟨hone,trivial⟩)
theorem raw_idx1 {d:Option Nat} {t e:TypeId} {n:Nat} {x i:Operand} {x' i':X} {k:IntKind} {j:Int} {cs:List AV} {v:AV} (hu:P.underlying t = some (.array n e)) (ha:isAggB P e = some false) (hs:sizeB P e = some 1)
  (hx:cX x = some x') (hi:cX i = some i') (h1:(σ.val x').dg = true) (h2:(σ.val i').dg = true) (hv:(σ.val x').dv = .agg cs) (hj:(σ.val i').dv = .c (.int k j)) (hr:0 ≤ j ∧ j < n) (hc:cs[j.toNat]? = some v)
  (hK:K (σ.put d v)):RawI P d (.raw (.index t x i)) K σ:=by
 refine RawI_snd (fun C loc a w o hP ho hg => ?_) hK
 subst hP
 have rx:=vald hg hx h1
 have ri:=vald hg hi h2
 rw [hv] at rx
 rw [hj] at ri
 simp only [RepA,RepC] at rx ri
 obtain ⟨l,ex,hrs⟩:=rx
 have hie:∃ ie,C.P.info? e = some ie ∧ ie.size = 1:=by
  unfold sizeB at hs
  simpa using hs
 obtain ⟨ie,hie,hsz⟩:=hie
 have hsr:(sizeOf e).run C.P w = .ok 1 w:=by simp [sizeOf,typeInfo,hie,hsz]
 obtain ⟨u,hu2,hru⟩:=hrs.get _ hc
 refine ⟨u,?_,hru⟩
 simp [execOp,ho,ex,ri,Instr.index,run_underlying hu,asIntOf,hr.1,hr.2,hsr,run_part_one (w:=w) ha (cs:=l.toArray) (off:=j.toNat) (by simpa using hu2)]
end
attribute [go_sem] gmap qO qv qp
end Go.V

/-
 Ranges over maps,with the entries that are left; an empty guest,which something can come back as.
-/
namespace Go.V
def restOf (ka va:Bool) (es:Array MapEntry) (seen:Array Nat) (rest:GL):Prop:=(leftOf es seen).toList.map (fun e => (e.key,e.val)) = gvals ka va rest
theorem leftOf_list (es:Array MapEntry) (seen:Array Nat):(leftOf es seen).toList = es.toList.filter fun x => !seen.contains x.born:=by unfold leftOf; exact Array.toList_filter
theorem restOf_all {ka va:Bool} {es:Array MapEntry} {l:GL} (h:es.toList.map (fun e => (e.key,e.val)) = gvals ka va l):restOf ka va es #[] l:=by
 unfold restOf
 rw [leftOf_list,List.filter_eq_self.2 fun x _ => by simp,h]
theorem filter_ne {e:MapEntry}:∀ {A B:List MapEntry},((A ++ e :: B).map (·.born)).Nodup → (A ++ e :: B).filter (fun x => !(x.born == e.born)) = A ++ B:=by
 intro A B h
 rw [List.map_append,List.map_cons,List.nodup_append] at h
 obtain ⟨_,h2,h3⟩:=h
 rw [List.nodup_cons] at h2
 rw [List.filter_append,List.filter_cons]
 simp only [beq_self_eq_true,Bool.not_true,Bool.false_eq_true,if_false]
 rw [List.filter_eq_self.2 fun x hx => ?_,List.filter_eq_self.2 fun x hx => ?_]
 ·simp only [Bool.not_eq_true',beq_eq_false_iff_ne]
  exact fun hb => h2.1 (hb ▸ List.mem_map_of_mem hx)
 ·simp only [Bool.not_eq_true',beq_eq_false_iff_ne]
  exact h3 _ (List.mem_map_of_mem hx) _ (by simp)
theorem rest_next {ka va:Bool} {es:Array MapEntry} {clock:Nat} {seen:Array Nat} {rest:GL} (hst:MapKept.Stamped es clock) (h:restOf ka va es seen rest) {e:MapEntry} (he:e ∈ (leftOf es seen).toList) :
  ∃ pre k v post,rest = pre ++ (k,v) :: post ∧ e.key = kval ka k ∧ e.val = kval va v ∧ restOf ka va es (seen.push e.born) (pre ++ post):=by
 unfold restOf at h
 obtain ⟨A,B,hAB⟩:=List.append_of_mem he
 have hpush:(leftOf es (seen.push e.born)).toList = (leftOf es seen).toList.filter fun x => !(x.born == e.born):=by
  rw [leftOf_list,leftOf_list,List.filter_filter]
  refine List.filter_congr fun x _ => ?_
  rw [Array.contains_push]
  cases seen.contains x.born <;> cases (x.born == e.born) <;> rfl
 have hnd:((A ++ e :: B).map (·.born)).Nodup:=by
  rw [← hAB,leftOf_list]
  exact (hst.2.1).sublist (List.Sublist.map _ List.filter_sublist)
 rw [hAB,List.map_append,List.map_cons] at h
 unfold gvals at h
 obtain ⟨pre,r2,rfl,h1,h2⟩:=List.map_eq_append_iff.1 h.symm
 obtain ⟨p,post,rfl,h3,h4⟩:=List.map_eq_cons_iff.1 h2
 simp only [Prod.mk.injEq] at h3
 refine ⟨pre,p.1,p.2,post,rfl,h3.1.symm,h3.2.symm,?_⟩
 unfold restOf gvals
 rw [hpush,hAB,filter_ne hnd,List.map_append,List.map_append,h1,h4]
theorem kav_of_kval {ag:Bool} {a b:List Int} (h:kval ag a = kval ag b):kav ag a = kav ag b:=by
 cases ag
 ·simp only [kval,Bool.false_eq_true,if_false,Value.int.injEq,true_and] at h
  simp only [kav,Bool.false_eq_true,if_false,h]
 ·rw [kval_inj h]
section
variable {P:Program} {σ:St} {K:St → Prop}
theorem raw_nextR {d:Option Nat} {x:Operand} {x':X} {n m b r since last clock:Nat} {seen:Array Nat} {es:Array MapEntry} {ka va:Bool} {l rest:GL} (hx:cX x = some x') (h1:(σ.val x').dg = true) (hv:(σ.val x').dv = .c (.raw (.pointer (some ⟨r,0,none⟩)))) (hown:σ.own n = mapE es clock b)
  (hit:σ.own m = iterE r b since seen last) (hst:MapKept.Stamped es clock) (hold:since = clock) (hsl:last = clock) (hes:es.toList.map (fun e => (e.key,e.val)) = gvals ka va l) (hrest:restOf ka va es seen rest)
  (hK0:rest = [] → K (σ.put d (.tup [.c (.bool false)])))
  (hK1:∀ e pre k v post,rest = pre ++ (k,v) :: post → e ∈ es.toList → e.key = kval ka k → e.val = kval va v → restOf ka va es (seen.push e.born) (pre ++ post) → K (St.put ⟨σ.env,upd σ.own m (iterE r b since (seen.push e.born) clock)⟩ d (.tup [.c (.bool true),kav ka k,kav va v]))):RawI P d (.raw (.next x false)) K σ:=by
 refine raw_nextE (l:=l) hx h1 hv hown hit (by rw [hold]; exact hst.1) (by omega) hes (fun h0 => hK0 ?_) fun e k v he _ h2 h3 => ?_
 ·have:=congrArg List.length hrest
  rw [List.length_map,Array.length_toList,h0] at this
  unfold gvals at this
  rw [List.length_map] at this
  exact List.eq_nil_of_length_eq_zero this.symm
 ·obtain ⟨pre,k',v',post,e1,e2,e3,e4⟩:=rest_next hst hrest he
  have:=hK1 e pre k' v' post e1 (by rw [leftOf_list] at he; exact (List.mem_filter.1 he).1) e2 e3 e4
  have ek:kav ka k' = kav ka k:=by
   have h5:kval ka k' = kval ka k:=by rw [← e2,h2]
   exact kav_of_kval h5
  have ev:kav va v' = kav va v:=by
   have h5:kval va v' = kval va v:=by rw [← e3,h3]
   exact kav_of_kval h5
  rwa [ek,ev] at this
end
def gE:Gst:=⟨.bool false,fun rem L _ _ => rem = [] ∧ L = []⟩
def empO:Ob:=.guest gE []
theorem gE_ok (P:Program):gE.Ok P:=by
 refine ⟨rfl,?_,?_⟩
 ·rintro rem L M w M' w' h hk hb hs; exact h
 ·rintro args wins r rem L M w loc vs ⟨h1,_⟩; cases h1
section
variable {C:Ctx} {σ:St}
theorem Gam_holdE {f:Nat} (hn:σ.own f = .none) (hp:¬ C.pin f):∀ a w,Gam C σ a w → Gam C ⟨prgE f σ.env,upd (prgO f σ.own) f empO⟩ a w:=by
 rintro a w ⟨loc,hg⟩
 have h1:=hg.forget hn hp
 have hl:∀ m,(upd loc f undef m).oneCell' = true → upd loc f (encV []) m = upd loc f undef m:=by
  intro m hm
  by_cases e:m = f
  ·subst e; simp [upd] at hm; cases hm
  ·simp [upd,e]
 have hfo:∀ m b,(upd (prgO f σ.own) f empO m).has (upd loc f (encV []) m) b → (prgO f σ.own m).has (upd loc f undef m) b:=by
  intro m b h
  by_cases e':m = f
  ·subst e'
   simp only [upd,if_true,empO,Ob.has,footV_encV] at h
   cases h
  ·simp only [upd,e',if_false] at h ⊢
   exact h
 refine ⟨upd loc f (encV []),h1.reown (fun n hn' => ?_) (fun t => RepA.reloc hl (h1.slots t)) (fun b o hm => ?_) (fun b ⟨n,h⟩ => ⟨n,hfo n b h⟩) (fun n => ?_) (fun n m b hnm k1 k2 => h1.disj n m b hnm (hfo n b k1) (hfo m b k2))⟩
 ·have:n ≠ f:=fun e => hp (e ▸ hn')
  simp [upd,this]
 ·obtain ⟨n,h⟩:=hm
  by_cases e':n = f
  ·subst e'
   simp only [upd,if_true,empO,Ob.mut,footV_encV] at h
   cases h
  ·exact ⟨n,by simp only [upd,e',if_false] at h ⊢; exact h⟩
 ·by_cases e':n = f
  ·subst e'
   simp only [upd,if_true]
   exact ⟨gE_ok _,[],rfl,⟨rfl,rfl⟩,fun b hb => by cases hb⟩
  ·have:=h1.objs n
   simp only [upd,e',if_false] at this ⊢
   exact ObOk.reloc (loc:=upd loc f undef) hl this
theorem WV_holdE {v:VC} {Q:Exit → St → Prop} (f:Nat) (hf:f < 1000) (hn:σ.own f = .none) (h:WV C v Q ⟨prgE f σ.env,upd (prgO f σ.own) f empO⟩):WV C v Q σ :=
 WV_weak (fun a w hg => Gam_holdE hn (fun hp => by obtain ⟨_,hg'⟩:=hg; have:=(hg'.pin f hp).1; omega) a w hg) h
end
attribute [go_sem] empO mapE iterE
end Go.V

/-
 A contract out of a call that leaves all that lay there as it was.
-/
namespace Go.V
open Go.RowKit
theorem FSpecL_keep {P:Program} {f:FuncId} {args:List AV} {l:List Ob} {Post:AV → Prop} (hf:callable P f) (hl:l.length ≤ 1000)
  (h:∀ (w:World) (M:Cells) (loc:Nat → Value) (vs:List Value),LentOk P w M loc (ownW l []) → RepAs w (AddM M (ownW l []) loc) loc args vs →
   Calls P f vs.toArray w fun e w' => ∃ v r,e = .returned v ∧ Post r ∧ Below w.heap.size w w' ∧ ∀ M':Cells,(∀ b o,M' b o → b < w.heap.size) → RepA w' M' loc r v) :
  FSpecL P f args l [] (fun r l' => Post r ∧ l' = l):=by
 refine ⟨hf,hl,fun w M loc vs hM hLO hrep => (h w M loc vs hLO hrep).mono ?_⟩
 rintro e w' ⟨v,r,rfl,hp,hb,hr⟩
 have hlt:∀ b o,AddM M (ownW l []) loc b o → b < w.heap.size:=by
  rintro b o (h | ⟨n,h⟩)
  ·exact (hM b o h).1
  ·exact (hLO.objs n).lt (Ob.has_of_mut h)
 have hk:Keeps w w' (AddM M (ownW l []) loc) (AddM M (ownW l []) loc):=⟨fun p hp _ => World.cell?_of_block (hb.block _ (cell_lt hp)),fun p hp h => h⟩
 exact ⟨v,r,l,loc,rfl,⟨hp,rfl⟩,rfl,⟨hb.os,hb.tape,hb.output,hb.size,fun k hk _ => hb.block k hk⟩,hk,⟨fun n => ObOk.keep' hk hb.size (fun b hb' => hb.block b ((hLO.objs n).lt hb')) (hLO.objs n),hLO.disj⟩,fun n b h => .inl ⟨n,h⟩,fun n h => ⟨h,rfl⟩,hr _ hlt⟩
end Go.V

/-
 Slices of slices of numbers that grow: one object; its array and its rows are known by their addresses.
-/
namespace Go.V
def hdV (b n cap:Nat):Value:=if cap = 0 then .slice none 0 0 else .slice (some ⟨b,0,none⟩) n cap
theorem hdV_one (b n cap:Nat):(hdV b n cap).oneCell' = true:=by unfold hdV; split <;> rfl
def BlkOk (w:World) (e sz:Nat) (b cap:Nat) (vs:List Value) (n:Nat):Prop :=
 ∃ cur:Array Value,w.heap[b]? = some (.cells cur e (0,0)) ∧ cap * sz ≤ cur.size ∧ vs.length = n * sz ∧ n ≤ cap ∧ cap ≤ maxLen ∧ cur.toList.take (n * sz) = vs
theorem BlkOk.trans {w w':World} {e sz b cap n:Nat} {vs:List Value} (h:BlkOk w e sz b cap vs n) (hb:w'.heap[b]? = w.heap[b]?):BlkOk w' e sz b cap vs n:=by
 obtain ⟨cur,h1,h2⟩:=h
 exact ⟨cur,by rw [hb]; exact h1,h2⟩
theorem BlkOk.cell {w:World} {e sz b cap n:Nat} {vs:List Value} (h:BlkOk w e sz b cap vs n) {j:Nat} {u:Value} (hj:vs[j]? = some u):w.cell? ⟨b,j,none⟩ = some u:=by
 obtain ⟨cur,h1,h2,h3,h4,h5,h6⟩:=h
 rw [cell_of_row w b _ cur e (0,0) h1]
 rw [← h6,List.getElem?_take] at hj
 split at hj
 ·rw [← Array.getElem?_toList]; exact hj
 ·cases hj
theorem append_blk {P:Program} {w:World} (t ty e:TypeId) (i:TypeInfo) (z:Value) (ht:P.underlying t = some (.slice e)) (hi:P.info? e = some i) (hz:i.zero = some z) (hzs:z.cells.size = i.size)
  {b n cap m c:Nat} {olds news:List Value} {ad:Addr} (hold:cap = 0 ∧ n = 0 ∧ olds = [] ∨ 0 < cap ∧ BlkOk w e i.size b cap olds n) (hl:news.length = m * i.size) (hnews:∀ j u,news[j]? = some u → w.cell? (ad.add j) = some u) (h1:∀ u ∈ news,u.oneCell' = true) (hm:0 < m)
  (h63:n + m ≤ maxLen) (hbytes:(n + m) * i.bytes ≤ 140737488355328) :
  ∃ b' cap' w',(Builtin.append_ #[t,t] ty #[hdV b n cap,.slice (some ad) m c]).run P w = .ok (hdV b' (n + m) cap') w' ∧ 0 < cap' ∧ BlkOk w' e i.size b' cap' (olds ++ news) (n + m) ∧
   w'.os = w.os ∧ w'.tape = w.tape ∧ w'.output = w.output ∧ w.heap.size ≤ w'.heap.size ∧ (∀ k,k < w.heap.size → k ≠ b → w'.heap[k]? = w.heap[k]?) ∧ b' < w'.heap.size ∧ (b' = b ∧ 0 < cap ∨ w.heap.size ≤ b' ∧ ∀ k,k < w.heap.size → w'.heap[k]? = w.heap[k]?):=by
 have h63':n + m ≤ 9223372036854775807:=by simp only [maxLen] at h63; omega
 rcases hold with ⟨rfl,rfl,rfl⟩ | ⟨hpos,cur,hb,hcs,hol,hle,hcm,hcur⟩
 ·simp only [Nat.zero_add] at h63 h63' hbytes ⊢
  have hr:=run_append_nil (P:=P) (w:=w) t ty e i z ht hi hz ad m c news hl hnews hm (by omega) (by omega)
  have hge:=grownCap_ge w m 0 e
  have hcm2:grownCap w m 0 e ≤ maxLen:=grownCap_le_maxLen w _ 0 e h63
  refine ⟨_,grownCap w m 0 e,_,by rw [hdV,if_pos rfl,hr,hdV,if_neg (by omega)]; rfl,by omega,⟨_,heap_alloc_new w.drew _,?_,by simpa using hl,hge,hcm2,?_⟩,rfl,rfl,rfl,by simp,fun k hk _ => alloc_old w.drew _ k hk,by simp,.inr ⟨Nat.le_refl _,fun k hk => alloc_old w.drew _ k hk⟩⟩
  ·simp only [Array.size_append,List.size_toArray,size_zeroCells,hzs,hl,← Nat.add_mul]
   exact Nat.mul_le_mul_right _ (by omega)
  ·simp only [Array.toList_append,List.nil_append]
   rw [List.take_append_of_le_length (by rw [hl]; exact Nat.le_refl _),List.take_of_length_le (by rw [hl]; exact Nat.le_refl _)]
 ·have hbl:b < w.heap.size:=(Array.getElem?_eq_some_iff.1 hb).1
  have hx2:cur.toList.length = cur.size:=Array.length_toList
  have hd:hdV b n cap = .slice (some ⟨b,0,none⟩) n cap:=by rw [hdV,if_neg (by omega)]
  by_cases hroom:n + m ≤ cap
  ·have hsum:n * i.size + m * i.size ≤ cap * i.size:=by rw [← Nat.add_mul]; exact Nat.mul_le_mul_right _ hroom
   have hr:=run_append_at (P:=P) w t ty e i ht hi b 0 n cap cur hb ad m c news hl hnews h1 hroom (by rw [hl]; omega)
   simp only [Nat.zero_add] at hr
   refine ⟨b,cap,_,by rw [hd,hr,hdV,if_neg (by omega)],hpos,⟨_,setRow_heap w b cur _ e _ hb,?_,by rw [List.length_append,hol,hl,Nat.add_mul],hroom,hcm,?_⟩,rfl,rfl,rfl,by simp,fun k _ hk => setRow_other w b k _ hk,by simpa using hbl,.inl ⟨rfl,hpos⟩⟩
   ·simp only [List.size_toArray,List.length_append,List.length_take,List.length_drop,Array.length_toList,hl]
    omega
   ·rw [hcur,List.take_append_of_le_length (by rw [List.length_append,hol,hl,Nat.add_mul]; exact Nat.le_refl _),List.take_of_length_le (by rw [List.length_append,hol,hl,Nat.add_mul]; exact Nat.le_refl _)]
  ·have holds:∀ j u,olds[j]? = some u → w.cell? ((⟨b,0,none⟩ : Addr).add j) = some u:=fun j u hj => by
    rw [add_at,Nat.zero_add]
    exact BlkOk.cell ⟨cur,hb,hcs,hol,hle,hcm,hcur⟩ hj
   have hr:=run_append_grow (P:=P) w t ty e i z ht hi hz ⟨b,0,none⟩ n cap olds hol holds ad m c news hl hnews (by omega) (by omega) (growslice_fits (by omega) hbytes)
   have hge:=grownCap_ge w (n + m) cap e
   have hcm2:grownCap w (n + m) cap e ≤ maxLen:=grownCap_le_maxLen w _ cap e h63
   refine ⟨_,grownCap w (n + m) cap e,_,by rw [hd,hr,hdV,if_neg (by omega)]; rfl,by omega,⟨_,heap_alloc_new w.drew _,?_,by rw [List.length_append,hol,hl,Nat.add_mul],hge,hcm2,?_⟩,rfl,rfl,rfl,by simp,fun k hk _ => alloc_old w.drew _ k hk,by simp,.inr ⟨Nat.le_refl _,fun k hk => alloc_old w.drew _ k hk⟩⟩
   ·simp only [Array.size_append,List.size_toArray,size_zeroCells,hzs,hol,hl,← Nat.add_mul]
    exact Nat.mul_le_mul_right _ (by omega)
   ·simp only [Array.toList_append,List.append_assoc]
    rw [← List.append_assoc,List.take_append_of_le_length (by rw [List.length_append,hol,hl,Nat.add_mul]; exact Nat.le_refl _),List.take_of_length_le (by rw [List.length_append,hol,hl,Nat.add_mul]; exact Nat.le_refl _)]
structure CRow where
 b:Nat
 cap:Nat
 xs:List (List Int)
def CRow.hd (r:CRow):Value:=hdV r.b r.xs.length r.cap
def CRow.nil:CRow:=⟨0,0,[]⟩
def CRow.cd (r:CRow):List CD:=[.raw r.hd]
def CRow.Ok (w:World) (e sz:Nat) (L:List Nat) (r:CRow):Prop :=
 (∀ x ∈ r.xs,x.length = sz) ∧ (r.cap = 0 ∧ r.xs.length = 0 ∧ qvals r.xs = [] ∨ 0 < r.cap ∧ r.b ∈ L ∧ BlkOk w e sz r.b r.cap (qvals r.xs) r.xs.length)
def rwJ (e sz:Nat) (rows:List CRow) (rem:List Ent) (L:List Nat) (_:Nat → Nat → Prop) (w:World):Prop :=
 rem = [] ∧ (∀ r ∈ rows,r.Ok w e sz L) ∧ ∀ (i j:Nat) (r s:CRow),i ≠ j → rows[i]? = some r → rows[j]? = some s → 0 < r.cap → 0 < s.cap → r.b ≠ s.b
def rwG (e sz:Nat) (rows:List CRow):Gst:=⟨.bool false,rwJ e sz rows⟩
def rO (e sz:Nat) (rows:List CRow):Ob:=.guest (rwG e sz rows) []
theorem CRow.Ok.trans {w w':World} {e sz:Nat} {L L':List Nat} {r:CRow} (h:r.Ok w e sz L) (hL:∀ k ∈ L,k ∈ L') (hb:r.b ∈ L → 0 < r.cap → w'.heap[r.b]? = w.heap[r.b]?):r.Ok w' e sz L':=by
 obtain ⟨h0,h1 | ⟨h1,h2,h4⟩⟩:=h
 ·exact ⟨h0,.inl h1⟩
 ·exact ⟨h0,.inr ⟨h1,hL _ h2,h4.trans (hb h2 h1)⟩⟩
theorem rwG_ok (P:Program) (e sz:Nat) (rows:List CRow):(rwG e sz rows).Ok P:=by
 refine ⟨rfl,?_,?_⟩
 ·rintro rem L M w M' w' ⟨h1,h6,h7⟩ hk hb hs
  exact ⟨h1,fun r hr => (h6 r hr).trans (fun _ h => h) fun hL _ => hb _ hL,h7⟩
 ·rintro args wins r rem L M w loc vs ⟨h1,_⟩
  cases h1
section
variable {C:Ctx} {σ:St}
theorem Gam_rows0 {n e sz b cap:Nat} {xs:List (List Int)} (hc:0 < cap) (hn:σ.own n = qO e sz xs b 0 cap):∀ a w,Gam C σ a w → Gam C ⟨σ.env,upd σ.own n (rO e sz [⟨b,cap,xs⟩])⟩ a w:=by
 rintro a w ⟨loc,hg⟩
 have hob:=hg.objs n
 rw [hn] at hob
 obtain ⟨_,L,hl,⟨_,rfl,cur,k1,k2,k3,k4,k5,k6⟩,_⟩:=hob
 refine ⟨loc,hg.reguest (g:=qG e sz xs b 0 cap) hn hl (rwG_ok _ _ _ _) fun M => ⟨rfl,fun r hr => ?_,fun i j r s hij hi hj => ?_⟩⟩
 ·simp only [List.mem_singleton] at hr
  subst hr
  exact ⟨k3,.inr ⟨hc,by simp,cur,k1,by simpa using k2,qlen k3,k4,k5,by simpa using k6⟩⟩
 ·match i,j with
  | 0,0 => exact absurd rfl hij
  | 0,j + 1 => simp at hj
  | i + 1,_ => simp at hi
theorem Gam_rowsN {n e sz:Nat} {rows:List CRow} (hn:σ.own n = rO e sz rows):∀ a w,Gam C σ a w → Gam C ⟨σ.env,upd σ.own n (rO e sz (rows ++ [CRow.nil]))⟩ a w:=by
 rintro a w ⟨loc,hg⟩
 have hob:=hg.objs n
 rw [hn] at hob
 obtain ⟨_,L,hl,⟨_,h6,h7⟩,_⟩:=hob
 refine ⟨loc,hg.reguest (g:=rwG e sz rows) hn hl (rwG_ok _ _ _ _) fun M => ⟨rfl,fun r hr => ?_,fun i j r s hij hi hj hr hs => ?_⟩⟩
 ·rcases List.mem_append.1 hr with h | h
  ·exact h6 r h
  ·simp only [List.mem_singleton] at h; subst h
   exact ⟨(fun x hx => by cases hx),.inl ⟨rfl,rfl,rfl⟩⟩
 ·rw [List.getElem?_append] at hi hj
  split at hi
  ·split at hj
   ·exact h7 i j r s hij hi hj hr hs
   ·have:s = CRow.nil:=by have:=List.mem_of_getElem? hj; simpa using this
    subst this; exact absurd hs (by simp [CRow.nil])
  ·have:r = CRow.nil:=by have:=List.mem_of_getElem? hi; simpa using this
   subst this; exact absurd hr (by simp [CRow.nil])
variable {K:St → Prop} {is:List Ins} {Q:Exit → St → Prop}
theorem WV_rows0 {v:VC} (n:Nat) {e sz b cap:Nat} {xs:List (List Int)} (hc:0 < cap) (hn:σ.own n = qO e sz xs b 0 cap) (h:WV C v Q ⟨σ.env,upd σ.own n (rO e sz [⟨b,cap,xs⟩])⟩):WV C v Q σ:=WV_weak (Gam_rows0 hc hn) h
theorem Sub_rowsN (n:Nat) {e sz:Nat} {rows:List CRow} (hn:σ.own n = rO e sz rows):Sub σ ⟨σ.env,upd σ.own n (rO e sz (rows ++ [CRow.nil]))⟩:=fun C => Gam_rowsN (C:=C) hn
end
section
variable {P:Program} {σ:St} {K:St → Prop}
theorem raw_rld {d:Option Nat} {sz:Nat} {x:X} {n k i e:Nat} {rows:List CRow} {r:CRow} {l:List Int} (hk:rows[k]? = some r) (h1:(σ.val x).dg = true) (hv:(σ.val x).dv = qp r.b (i * sz)) (hown:σ.own n = rO e sz rows) (hi:r.xs[i]? = some l)
  (hK:K (σ.put d (.agg (l.map fun m => .c (.int .i64 m))))):RawI P d (.ld false sz x) K σ:=by
 refine RawI_sndI (fun C loc a w o hP hci hg => ?_) hK
 subst hP
 generalize ho:o.op = op at hci
 generalize hone:false = one at hci
 cases hci with
 | load ha hs hx =>
  rename_i t ag
  cases ag with
  | false => cases hone
  | true =>
  have rx:=vald hg hx h1
  rw [hv] at rx
  simp only [qp,RepA,RepC] at rx
  have hob:=hg.objs n
  rw [hown] at hob
  obtain ⟨_,L,_,⟨_,hrows,_⟩,_⟩:=hob
  obtain ⟨hil,_⟩:=List.getElem?_eq_some_iff.1 hi
  obtain ⟨hsz,⟨_,h0,_⟩ | ⟨_,_,hblk⟩⟩:=hrows r (List.mem_of_getElem? hk)
  ·omega
  have hr:=hsz l (List.mem_of_getElem? hi)
  refine ⟨.agg (l.map (Value.int .i64)).toArray,?_,?_⟩
  ·refine (show _ from by simp [execOp,ho,rx.1,Instr.loadAt,Instr.sureAddr,run_loadVar_agg (ad:=⟨r.b,i * sz,none⟩) (l:=l.map (Value.int .i64)) ha hs (by simpa using hr) (w:=w) (fun j u hj => by
    rw [add_at]
    have hjl:j < sz:=by have:=(List.getElem?_eq_some_iff.1 hj).1; simpa [hr] using this
    have h2:=qvals_at hsz hi hjl
    exact hblk.cell (h2.trans hj))])
  ·simp only [RepA]
   exact ⟨_,rfl,(reps_ints l _).2 rfl⟩
theorem raw_rapp {d:Option Nat} {e sz bytes:Nat} {s x:X} {n k:Nat} {rows:List CRow} {r:CRow} {ys:List (List Int)} (hk:rows[k]? = some r) (h1:(σ.val s).dg = true) (h2:(σ.val x).dg = true) (hv:(σ.val s).dv = .c (.raw r.hd)) (hx:(σ.val x).dv.elems σ.own = some (icds ys)) (hy0:0 < ys.length) (hys:∀ y ∈ ys,y.length = sz) (hown:σ.own n = rO e sz rows)
  (h63:r.xs.length + ys.length ≤ maxLen) (hbytes:(r.xs.length + ys.length) * bytes ≤ 140737488355328)
  (hK:∀ r':CRow,r'.xs = r.xs ++ ys → 0 < r'.cap → K (St.put ⟨σ.env,upd σ.own n (rO e sz (rows.set k r'))⟩ d (.c (.raw r'.hd)))):RawI P d (.app e sz bytes s x) K σ:=by
 intro C loc a w o hP hc hd hdl hg
 subst hP
 have hci:=cI_inv hc
 generalize ho:o.op = op at hci
 cases hci with
 | app ht hi hz hzs hpos hcs hcx =>
  rename_i t s0 x0 i z
  have rs:=vald hg hcs h1
  have rx:=vald hg hcx h2
  rw [hv] at rs
  simp only [RepA,RepC] at rs
  obtain ⟨szx,hrx⟩:=hg.elems rx hx
  simp only [RepC] at hrx
  obtain ⟨A,capx,hxv,_,_,hxe⟩:=hrx
  have hlen:(icds ys).length = ys.length:=by simp [icds]
  have hob:=hg.objs n
  rw [hown] at hob
  obtain ⟨_,L,hL,⟨_,hrows,hdis⟩,hA⟩:=hob
  rcases hxe with h | ⟨ad,rfl,hE⟩
  ·have:=congrArg List.length h
   rw [hlen] at this
   simp only [List.length_nil] at this
   omega
  obtain ⟨news,k1,k2,k3,k4⟩:=hE.vals (loc:=fun _ => undef)
  rw [reps_icds] at k3
  subst k3
  obtain ⟨hsz,hrok⟩:=hrows r (List.mem_of_getElem? hk)
  have hold:r.cap = 0 ∧ r.xs.length = 0 ∧ qvals r.xs = [] ∨ 0 < r.cap ∧ BlkOk w e i.size r.b r.cap (qvals r.xs) r.xs.length:=hrok.imp id fun h => ⟨h.1,h.2.2⟩
  obtain ⟨b',cap',w',hr,hp,hq',e1,e2,e3,e4,e5,e6,e7⟩:=append_blk (P:=C.P) (c:=capx) (ad:=ad) (m:=ys.length) t o.type e i z ht hi hz hzs hold (qlen hys) k2 (qones ys) hy0 h63 hbytes
  have hrl:r.b ∈ L ∨ r.cap = 0:=hrok.elim (fun h => .inr h.1) fun h => .inl h.2.1
  have hold2:∀ q,q < w.heap.size → (0 < r.cap → q ≠ r.b) → w'.heap[q]? = w.heap[q]?:=fun q hq hne => by
   rcases e7 with ⟨_,h⟩ | ⟨_,h⟩
   ·exact e5 q hq (hne h)
   ·exact h q hq
  obtain ⟨r',hr'⟩ : ∃ r':CRow,r' = ⟨b',cap',r.xs ++ ys⟩:=⟨_,rfl⟩
  have hxs:r'.xs = r.xs ++ ys:=by rw [hr']
  have hcr:0 < r'.cap:=by rw [hr']; exact hp
  have hhd:r'.hd = hdV b' (r.xs.length + ys.length) cap':=by rw [hr']; simp only [CRow.hd,List.length_append]
  have hklt:k < rows.length:=(List.getElem?_eq_some_iff.1 hk).1
  have hother:∀ q s,q ≠ k → rows[q]? = some s → 0 < s.cap → s.b ∈ L ∧ s.b ≠ b' ∧ w'.heap[s.b]? = w.heap[s.b]?:=by
   intro q s hqk hqs hs
   obtain ⟨_,⟨h0,_⟩ | ⟨_,s2,_⟩⟩:=hrows s (List.mem_of_getElem? hqs)
   ·omega
   have hlt:=(hA _ s2).1
   have hne:0 < r.cap → s.b ≠ r.b:=fun h => (hdis k q r s (Ne.symm hqk) hk hqs h hs).symm
   refine ⟨s2,fun he => ?_,hold2 _ hlt hne⟩
   rcases e7 with ⟨h,h2⟩ | ⟨h,_⟩
   ·exact hne h2 (he.trans h)
   ·omega
  have hg1:=hg.turnGuest (g:=rwG e i.size rows) (g':=rwG e i.size (rows.set k r')) (rem':=[]) (L':=b' :: L) hown hL e1 e2 e3 e4 (fun q hq hkL => hold2 q hq fun h he => hrl.elim (fun h' => hkL (he ▸ h')) fun h' => by omega) (fun D hD => hold2 D (Array.getElem?_eq_some_iff.1 hD).1 fun h he => by
    subst he
    rcases hold with ⟨h',_⟩ | ⟨_,cur,hb,_⟩
    ·omega
    ·rw [hb] at hD; cases hD) (fun q hq => by
   rcases List.mem_cons.1 hq with rfl | hq
   ·refine ⟨e6,?_⟩
    rcases e7 with ⟨h,h2⟩ | ⟨h,_⟩
    ·rcases hrl with h' | h'
     ·exact .inl (h ▸ h')
     ·omega
    ·exact .inr h
   ·exact ⟨Nat.lt_of_lt_of_le (hA q hq).1 e4,.inl hq⟩) (rwG_ok _ _ _ _) fun M => by
   refine ⟨rfl,fun s hs => ?_,fun p q s s' hpq hp' hq hs hs' => ?_⟩
   ·obtain ⟨q,hq,hqs⟩:=List.getElem_of_mem hs
    have hqs':(rows.set k r')[q]? = some s:=by rw [List.getElem?_eq_getElem hq,hqs]
    rw [List.getElem?_set] at hqs'
    split at hqs'
    ·rename_i heq
     subst heq
     have:=Option.some.inj (by simpa [hklt] using hqs':some r' = some s)
     subst this
     refine ⟨fun x hx => ?_,.inr ⟨hcr,by rw [hr']; exact List.mem_cons_self,by rw [hr',qvals_app]; simp only [List.length_append]; exact hq'⟩⟩
     rw [hxs] at hx
     rcases List.mem_append.1 hx with h | h
     ·exact hsz x h
     ·exact hys x h
    ·rename_i hne
     obtain ⟨k0,h' | ⟨k1,k2,k4⟩⟩:=hrows s (List.mem_of_getElem? hqs')
     ·exact ⟨k0,.inl h'⟩
     ·exact ⟨k0,.inr ⟨k1,List.mem_cons_of_mem _ k2,k4.trans (hother q s (Ne.symm hne) hqs' k1).2.2⟩⟩
   ·rw [List.getElem?_set] at hp' hq
    split at hp' <;> split at hq
    ·omega
    ·rename_i h1 h2
     subst h1
     have:=Option.some.inj (by simpa [hklt] using hp':some r' = some s)
     subst this
     rw [hr']
     exact (hother q s' (Ne.symm h2) hq hs').2.1.symm
    ·rename_i h1 h2
     subst h2
     have:=Option.some.inj (by simpa [hklt] using hq:some r' = some s')
     subst this
     rw [hr']
     exact (hother p s (Ne.symm h1) hp' hs).2.1
    ·exact hdis p q s s' hpq hp' hq hs hs'
  rw [← hhd] at hr
  refine ⟨_,⟨w',upd loc n (encV (b' :: L)),.inl ⟨r'.hd,?_,?_⟩⟩,hK r' hxs hcr⟩
  ·rw [hlen] at hxv
   have hrs1:a.eval s0 = hdV r.b r.xs.length r.cap:=rs.1
   simp [execOp,ho,resolve,invoke,builtin,hrs1,hxv,hr]
  ·rw [hd] at hdl ⊢
   exact hg1.put hdl (by simp only [RepA,RepC]; exact ⟨trivial,hdV_one _ _ _⟩)
end
section
variable {P:Program} {σ:St} {K:St → Prop}
theorem hd_of {r:CRow} (h:0 < r.cap):r.hd = .slice (some ⟨r.b,0,none⟩) r.xs.length r.cap:=by unfold CRow.hd hdV; rw [if_neg (by omega)]
theorem raw_rlen {d:Option Nat} {x:X} {n k e sz:Nat} {rows:List CRow} {r:CRow} (hk:rows[k]? = some r) (h1:(σ.val x).dg = true) (hv:(σ.val x).dv = .c (.raw r.hd)) (hown:σ.own n = rO e sz rows)
  (hK:K (σ.put d (.c (.int .i64 r.xs.length)))):RawI P d (.len x) K σ:=by
 refine RawI_sndI (fun C loc a w o hP hci hg => ?_) hK
 subst hP
 generalize ho:o.op = op at hci
 cases hci with
 | len ht hx =>
  have rx:=vald hg hx h1
  rw [hv] at rx
  simp only [RepA,RepC] at rx
  have hob:=hg.objs n
  rw [hown] at hob
  obtain ⟨_,L,_,⟨_,hrows,_⟩,_⟩:=hob
  obtain ⟨_,⟨h0,h2,_⟩ | ⟨h0,_⟩⟩:=hrows r (List.mem_of_getElem? hk)
  ·have e1:r.hd = .slice none 0 0:=by unfold CRow.hd hdV; rw [if_pos h0]
   rw [e1] at rx
   refine ⟨.int .i64 r.xs.length,?_,by simp only [RepA,RepC]⟩
   rw [h2]
   simp [execOp,ho,resolve,invoke,builtin,rx.1,Builtin.len_,run_underlying ht,goInt]
  ·have e1:=hd_of h0
   rw [e1] at rx
   refine ⟨.int .i64 r.xs.length,?_,by simp only [RepA,RepC]⟩
   simp [execOp,ho,resolve,invoke,builtin,rx.1,Builtin.len_,run_underlying ht,goInt]
theorem raw_ria {d:Option Nat} {e sz:Nat} {x i:X} {n k:Nat} {rows:List CRow} {r:CRow} {kk:IntKind} {j:Int} (hk:rows[k]? = some r) (h1:(σ.val x).dg = true) (h2:(σ.val i).dg = true) (hv:(σ.val x).dv = .c (.raw r.hd)) (hj:(σ.val i).dv = .c (.int kk j)) (hown:σ.own n = rO e sz rows) (h0:0 ≤ j) (hn:j < r.xs.length)
  (hK:K (σ.put d (qp r.b (j.toNat * sz)))):RawI P d (.ia sz x i) K σ:=by
 refine RawI_sndI (fun C loc a w o hP hci hg => ?_) hK
 subst hP
 generalize ho:o.op = op at hci
 cases hci with
 | ia ht hs hx hi =>
  rename_i t0 e0 _ _
  have rx:=vald hg hx h1
  have ri:=vald hg hi h2
  rw [hv] at rx
  rw [hj] at ri
  simp only [RepA,RepC] at rx ri
  have hob:=hg.objs n
  rw [hown] at hob
  obtain ⟨_,L,_,⟨_,hrows,_⟩,_⟩:=hob
  obtain ⟨_,⟨_,h3,_⟩ | ⟨h3,_⟩⟩:=hrows r (List.mem_of_getElem? hk)
  ·omega
  rw [hd_of h3] at rx
  refine ⟨.pointer (some ⟨r.b,j.toNat * sz,none⟩),?_,by simp only [qp,RepA,RepC]; exact ⟨trivial,rfl⟩⟩
  unfold sizeB at hs
  cases hinf:C.P.info? e0 with
  | none => simp [hinf] at hs
  | some inf =>
   simp [hinf] at hs
   simp [execOp,ho,rx.1,ri,Instr.indexAt,asIntOf,run_underlying ht,h0,hn,sizeOf,typeInfo,hinf,hs,add_at]
end
theorem CTree_rawI {C:Ctx} {σ:St} {K:St → Prop} {d:Option Nat} {i:I} {t:OT} (hp:i.plainB = true) (h:RawI C.P d i (CTree C t K) σ):CTree C (.cons ⟨d,i,none,true⟩ t) K σ:=by
 simp only [CTree]
 refine .inr ⟨rfl,(by cases i <;> first | rfl | cases hp),fun ops o hins Q' K' hK' a w hg => ?_⟩
 obtain ⟨s1,ii,hc,hvw⟩:=hins
 simp only at hc hvw
 have hii:ii = i:=by
  rcases hvw with h | ⟨_,_,_,_,_,_,h⟩ | ⟨_,_,_,_,h⟩ | ⟨_,_,_,_,h⟩ | ⟨_,_,_,h⟩
  ·exact h.symm
  all_goals (rw [h] at hp; cases hp)
 subst hii
 obtain ⟨loc,hg⟩:=hg
 unfold cOp at hc
 split at hc
 case h_2 => cases hc
 rename_i ins g hi hgd
 split at hc
 case isFalse => cases hc
 rename_i hd
 simp only [Option.some.injEq,Ins.mk.injEq] at hc
 obtain ⟨rfl,rfl,rfl,_⟩:=hc
 have hog:o.guard = none:=by
  unfold cGuard at hgd
  split at hgd
  ·rename_i h; exact h
  ·split at hgd <;> simp at hgd
 rw [if_pos (by simp [Region.wanted,hog])]
 exact raw_sound hg hi hd h fun σ' a' w' hg' hk => hK' σ' a' w' hg' hk
end Go.V

/-
 An entry of a map that is written behind its reading (m[k]++): the place first,the value later.
-/
namespace Go.V
def gent (l:GL) (k z:List Int):GL:=if (glook l k).isSome = true then l else l ++ [(k,z)]
theorem glook_gent (l:GL) (k z:List Int):glook (gent l k z) k = some ((glook l k).getD z):=by
 unfold gent
 split
 ·rename_i h
  obtain ⟨v,hv⟩:=Option.isSome_iff_exists.1 h
  rw [hv]; rfl
 ·rename_i h
  have hn:glook l k = none:=by cases hg:glook l k with | none => rfl | some v => simp [hg] at h
  rw [hn]
  unfold glook at hn ⊢
  rw [Option.map_eq_none_iff] at hn
  rw [List.find?_append,hn]
  simp
theorem glook_none_mem {l:GL} {k:List Int} (h:glook l k = none):∀ p ∈ l,p.1 ≠ k:=by
 unfold glook at h
 rw [Option.map_eq_none_iff,List.find?_eq_none] at h
 intro p hp he
 exact h p hp (by simpa using he)
theorem gput_gent (l:GL) (k z v:List Int):gput (gent l k z) k v = gput l k v:=by
 unfold gput
 rw [glook_gent,if_pos (by rfl)]
 unfold gent
 split
 ·rfl
 ·rename_i h
  have hn:glook l k = none:=by cases hg:glook l k with | none => rfl | some v => simp [hg] at h
  rw [List.map_append]
  have:l.map (fun p => if p.1 = k then (k,v) else p) = l:=by
   conv => rhs; rw [← List.map_id l]
   refine List.map_congr_left fun p hp => ?_
   rw [if_neg (glook_none_mem hn p hp)]; rfl
  rw [this]; simp
theorem gent_keys {l:GL} {k z:List Int} {Q:List Int → Prop} (hk:Q k) (h:∀ p ∈ l,Q p.1):∀ p ∈ gent l k z,Q p.1:=by
 unfold gent
 split
 ·exact h
 ·intro p hp
  rcases List.mem_append.1 hp with hp | hp
  ·exact h p hp
  ·simp only [List.mem_singleton] at hp; subst hp; exact hk
def gmsJ (ka va:Bool) (l:GL) (b:Nat) (key:List Int) (st:Nat) (rem:List Ent) (L:List Nat) (_:Nat → Nat → Prop) (w:World):Prop :=
 rem = [] ∧ L = [b] ∧ ∃ es clock,w.heap[b]? = some (.map es clock) ∧ MapKept.Stamped es clock ∧ es.toList.map (fun e => (e.key,e.val)) = gvals ka va l ∧ ∃ (j:Nat) (e0:MapEntry),es.toList[j]? = some e0 ∧ e0.key = kval ka key ∧ e0.born = st
def gmsG (ka va:Bool) (l:GL) (b:Nat) (key:List Int) (st:Nat):Gst:=⟨.bool false,gmsJ ka va l b key st⟩
def gms (ka va:Bool) (l:GL) (b:Nat) (key:List Int) (st:Nat):Ob:=.guest (gmsG ka va l b key st) []
theorem gmsG_ok (P:Program) (ka va:Bool) (l:GL) (b:Nat) (key:List Int) (st:Nat):(gmsG ka va l b key st).Ok P:=by
 refine ⟨rfl,?_,?_⟩
 ·rintro rem L M w M' w' ⟨h1,h2,es,clock,h3,h4⟩ hk hb hs
  exact ⟨h1,h2,es,clock,by rw [hb b (by rw [h2]; simp)]; exact h3,h4⟩
 ·rintro args wins r rem L M w loc vs ⟨h1,_⟩
  cases h1
section
variable {P:Program} {σ:St} {K:St → Prop}
theorem gv_keys {ka va:Bool} {l:GL} {es:Array MapEntry} {Kp:Value → Prop} (hes:es.toList.map (fun e => (e.key,e.val)) = gvals ka va l) (hkeys:∀ p ∈ l,Kp (kval ka p.1)):∀ e ∈ es.toList,Kp e.key:=fun e he => by
 have hm:(e.key,e.val) ∈ es.toList.map (fun e => (e.key,e.val)):=List.mem_map.2 ⟨e,he,rfl⟩
 rw [hes] at hm
 obtain ⟨p,hp,h3⟩:=List.mem_map.1 hm
 simp only [Prod.mk.injEq] at h3
 rw [← h3.1]; exact hkeys p hp
theorem raw_lookS {d:Option Nat} {t k e:TypeId} {x i:Operand} {x' i':X} {n b st:Nat} {ka va:Bool} {l:GL} {key k0 zs:List Int} {Kp:Value → Prop} (ht:P.underlying t = some (.map k e)) (hkl:KLaw P k Kp) (hz:(P.info? e).bind (·.zero) = some (kval va zs))
  (hx:cX x = some x') (hi:cX i = some i') (h1:(σ.val x').dg = true) (h2:(σ.val i').dg = true) (hv:(σ.val x').dv = .c (.raw (.map (some b)))) (hj:(σ.val i').dv = kav ka key) (hown:σ.own n = gms ka va l b k0 st)
  (hkey:Kp (kval ka key)) (hkeys:∀ p ∈ l,Kp (kval ka p.1)) (hinj:∀ p ∈ l,kval ka p.1 = kval ka key → p.1 = key)
  (hK:K (σ.put d (kav va ((glook l key).getD zs)))):RawI P d (.raw (.lookup t x i false)) K σ:=by
 refine RawI_snd (fun C loc a w o hP ho hg => ?_) hK
 subst hP
 have rx:=vald hg hx h1
 have ri:=vald hg hi h2
 rw [hv] at rx
 rw [hj,rep_kav] at ri
 simp only [RepA,RepC] at rx
 have hob:=hg.objs n
 rw [hown] at hob
 obtain ⟨_,L,hl,⟨_,rfl,es,clock,hb,hst,hes,_⟩,hA⟩:=hob
 have hks:=gv_keys hes hkeys
 refine ⟨kval va ((glook l key).getD zs),?_,rep_kav.2 rfl⟩
 rcases hkl.find w hkey es.toList hks with ⟨f1,f2⟩ | ⟨j,e0,f1,f2,f3⟩
 ·rw [glook_none hes f2]
  simp [execOp,ho,rx.1,ri,Instr.lookup,run_underlying ht,MapKept.run_getObj_map hb,hkl.check w _ hkey,f1,run_zero hz]
 ·obtain ⟨v,g1,g2,g3⟩:=glook_some hes hst.2.2 hinj f2 f3
  rw [g2]
  simp [execOp,ho,rx.1,ri,Instr.lookup,run_underlying ht,MapKept.run_getObj_map hb,hkl.check w _ hkey,f1,g3]
theorem raw_ment {d:Option Nat} {t k e:TypeId} {x i:Operand} {x' i':X} {n b:Nat} {ka va:Bool} {l:GL} {key zs:List Int} {Kp:Value → Prop} (ht:P.underlying t = some (.map k e)) (hkl:KLaw P k Kp) (hz:(P.info? e).bind (·.zero) = some (kval va zs))
  (hx:cX x = some x') (hi:cX i = some i') (h1:(σ.val x').dg = true) (h2:(σ.val i').dg = true) (hv:(σ.val x').dv = .c (.raw (.map (some b)))) (hj:(σ.val i').dv = kav ka key) (hown:σ.own n = gmap ka va l b)
  (hkey:Kp (kval ka key)) (hkeys:∀ p ∈ l,Kp (kval ka p.1)) (hinj:∀ p ∈ l,kval ka p.1 = kval ka key → p.1 = key)
  (hK:∀ st:Nat,K (St.put ⟨σ.env,upd σ.own n (gms ka va (gent l key zs) b key st)⟩ d (.tup [kav va ((glook l key).getD zs),.c (.int .i64 (st:Int))]))):RawI P d (.raw (.mapEntry t x i)) K σ:=by
 refine RawI_raw fun C loc a w o hP ho hod hdl hg => ?_
 subst hP
 have rx:=vald hg hx h1
 have ri:=vald hg hi h2
 rw [hv] at rx
 rw [hj,rep_kav] at ri
 simp only [RepA,RepC] at rx
 have hob:=hg.objs n
 rw [hown] at hob
 obtain ⟨_,L,hl,⟨_,rfl,es,clock,hb,hst,hes⟩,hA⟩:=hob
 have hks:=gv_keys hes hkeys
 have hrun:∃ (st:Nat) (es':Array MapEntry) (clock':Nat),(Instr.mapEntry t (.map (some b)) (kval ka key)).run C.P w = .ok (.tuple #[kval va ((glook l key).getD zs),goInt st]) { w with heap:=w.heap.setIfInBounds b (.map es' clock') } ∧ MapKept.Stamped es' clock' ∧ es'.toList.map (fun e => (e.key,e.val)) = gvals ka va (gent l key zs) ∧ ∃ (j:Nat) (e0:MapEntry),es'.toList[j]? = some e0 ∧ e0.key = kval ka key ∧ e0.born = st:=by
  rcases hkl.find w hkey es.toList hks with ⟨f1,f2⟩ | ⟨j,e0,f1,f2,f3⟩
  ·have hn:=glook_none hes f2
   refine ⟨clock,es.push { key:=kval ka key,val:=kval va zs,born:=clock },clock + 1,?_,MapKept.stamped_push hst f2,?_,es.size,⟨kval ka key,kval va zs,clock⟩,by simp,rfl,rfl⟩
   ·rw [hn]
    simp [Instr.mapEntry,run_underlying ht,MapKept.run_getObj_map hb,hkl.check w _ hkey,f1,run_zero hz,MapKept.run_setObj_map _ hb]
   ·unfold gent
    rw [hn,Array.toList_push,List.map_append,hes]
    unfold gvals
    simp
  ·have hj':es[j]? = some e0:=by simpa using f2
   obtain ⟨v,g1,g2,g3⟩:=glook_some hes hst.2.2 hinj f2 f3
   have hself:es.modify j (fun e => { e with key:=kval ka key }) = es:=by
    apply Array.ext'
    rw [Array.toList_modify]
    refine List.ext_getElem? fun q => ?_
    rw [List.getElem?_modify]
    by_cases hq:j = q
    ·subst hq; rw [f2]; simp [← f3]
    ·simp [hq]
   refine ⟨e0.born,es,clock,?_,hst,?_,j,e0,f2,f3,rfl⟩
   ·rw [g2]
    simp [Instr.mapEntry,run_underlying ht,MapKept.run_getObj_map hb,hkl.check w _ hkey,f1,hj',f3,hkl.stays w hkey,hself,MapKept.run_setObj_map _ hb,g3]
   ·unfold gent
    rw [g2]
    exact hes
 obtain ⟨st,es',clock',hr1,hr2,hr3,hr4⟩:=hrun
 have hg1:=hg.setGuest (g:=gmG ka va l b) (g':=gmsG ka va (gent l key zs) b key st) (rem':=[]) hown hl (by simp) hb (fun x h => by cases h) (gmsG_ok _ _ _ _ _ _ _) fun M => ⟨rfl,rfl,es',clock',(MapKept.heap_set hb).1,hr2,hr3,hr4⟩
 refine ⟨_,⟨{ w with heap:=w.heap.setIfInBounds b (.map es' clock') },loc,.inl ⟨.tuple #[kval va ((glook l key).getD zs),goInt st],?_,?_⟩⟩,hK st⟩
 ·simp [execOp,ho,rx.1,ri,hr1]
 ·rw [hod]
  refine hg1.put hdl ?_
  simp only [RepA]
  refine ⟨[_,_],rfl,?_⟩
  simp only [RepAs]
  exact ⟨_,_,rfl,rep_kav.2 rfl,_,_,rfl,by simp only [RepA,RepC]; rfl,rfl⟩
theorem raw_estr {t:TypeId} {x i v:Operand} {x' i' v':X} {n b st:Nat} {ka va:Bool} {l:GL} {key val:List Int} (hx:cX x = some x') (hi:cX i = some i') (hvx:cX v = some v') (h1:(σ.val x').dg = true) (h2:(σ.val i').dg = true) (h3:(σ.val v').dg = true) (hv:(σ.val x').dv = .c (.raw (.map (some b)))) (hj:(σ.val i').dv = .c (.int .i64 (st:Int))) (hw:(σ.val v').dv = kav va val) (hown:σ.own n = gms ka va l b key st)
  (hinj:∀ p ∈ l,kval ka p.1 = kval ka key → p.1 = key)
  (hK:K ⟨σ.env,upd σ.own n (gmap ka va (gput l key val) b)⟩):RawI P none (.raw (.entryStore t x i v)) K σ:=by
 refine RawI_raw fun C loc a w o hP ho hod hdl hg => ?_
 subst hP
 have rx:=vald hg hx h1
 have ri:=vald hg hi h2
 have rv:=vald hg hvx h3
 rw [hv] at rx
 rw [hj] at ri
 rw [hw,rep_kav] at rv
 simp only [RepA,RepC] at rx ri
 have hob:=hg.objs n
 rw [hown] at hob
 obtain ⟨_,L,hl,⟨_,rfl,es,clock,hb,hst,hes,j,e0,f2,f3,rfl⟩,hA⟩:=hob
 have hidx:es.findIdx? (fun e => ((e.born:Nat):Int) == ((e0.born:Nat):Int)) = some j:=by
  rw [WideElems.findIdx_arr]
  exact WideElems.findIdx_born hst.2.1 f2
 have hmod:es.modify j (fun e => { e with val:=kval va val }) = es.modify j (fun e => { e with key:=kval ka key,val:=kval va val }):=by
  apply Array.ext'
  rw [Array.toList_modify,Array.toList_modify]
  refine List.ext_getElem? fun q => ?_
  rw [List.getElem?_modify,List.getElem?_modify]
  by_cases hq:j = q
  ·subst hq; rw [f2]; simp [← f3]
  ·simp [hq]
 have hj':es[j]? = some e0:=by simpa using f2
 have hr1:(Instr.entryStore t (.map (some b)) (.int .i64 (e0.born:Int)) (kval va val)).run C.P w = .ok () { w with heap:=w.heap.setIfInBounds b (.map (es.modify j (fun e => { e with key:=kval ka key,val:=kval va val })) clock) }:=by
  simp [Instr.entryStore,MapKept.run_getObj_map hb,asInt,asIntOf,hidx,hmod,MapKept.run_setObj_map _ hb]
 refine ⟨_,⟨{ w with heap:=w.heap.setIfInBounds b (.map (es.modify j (fun e => { e with key:=kval ka key,val:=kval va val })) clock) },loc,.inr ⟨?_,?_⟩⟩,hK⟩
 ·simp [execOp,ho,rx.1,ri,rv,hr1]
 ·rw [hod]
  refine hg.setGuest (g:=gmsG ka va l b key e0.born) hown hl (by simp) hb (fun x h => by cases h) (gmG_ok _ _ _ _ _) fun M => ⟨rfl,rfl,_,clock,(MapKept.heap_set hb).1,MapKept.stamped_modify hst j _ (fun e _ => rfl) (fun e _ he => ?_),gput_modify hes hst.2.2 hinj f2 f3⟩
  rw [hj'] at he
  rw [← Option.some.inj he,f3]
end
end Go.V
