/-
  An abstract machine over small instructions, sound over the model; no condition.
-/
import Derived.Test.YtefoconkepmmgaaGreatDoorV1
import Derived.LoopNIn
import Derived.OrdersIn
import Derived.RegionIn
import Derived.RangeFuncNested
import Derived.Laws.IdiomStrings
import Derived.Lib.AppendStr
import Derived.Laws.Externs
import Derived.Lib.Bytealg
import Derived.Lib.MakeNoZero
import Derived.WideKeyMaps
import Derived.Maps.RangeRun
import Derived.WideKeyEntry
import Derived.StringKeys
set_option linter.unusedVariables false
set_option linter.unusedSimpArgs false
/-
 Regions: in the text's order,and in whatever order.
-/
namespace Go.V
section
variable {P:Program} {σ σ':St} {d:Nat}
theorem guard_congr {g:Nat × Bool} (h:σ'.env g.1 = σ.env g.1):σ'.guard g = σ.guard g:=by unfold St.guard; rw [h]
theorem outc_congr {i:Ins} {ε:Eff} (h:∀ x ∈ i.i.xs,σ'.val x = σ.val x) (ho:σ'.own = σ.own) (hg:∀ g,i.g = some g → σ'.env g.1 = σ.env g.1):Outc P i σ' ε ↔ Outc P i σ ε:=by
 obtain ⟨d,ins,g,s⟩:=i
 have hp:=pev_congr h ho
 have hm:=meff_congr (d:=d) h ho
 have hcall:∀ f xs,ins = .call f xs → σ'.val f = σ.val f ∧ (∀ x ∈ xs,σ'.val x = σ.val x):=by
  rintro f xs rfl
  exact ⟨h f (by simp [I.xs]),fun x hx => h x (by simp [I.xs,hx])⟩
 cases g with
 | none =>
  cases ins <;> first
   | (rename_i f xs; obtain ⟨h1,h2⟩:=hcall f xs rfl; simp only [Outc,h1,all_dg_congr h2,map_dv_congr h2,ho]; done)
   | (simp only [Outc,hp,hm])
 | some g =>
  have hgg:=guard_congr (hg g rfl)
  cases ins <;> first
   | (rename_i f xs; obtain ⟨h1,h2⟩:=hcall f xs rfl; simp only [Outc,hgg,h1,all_dg_congr h2,map_dv_congr h2,ho]; done)
   | (simp only [Outc,hgg,hp,hm])
theorem meff_puts {i:I} (h:i.putsB = true) (d:Option Nat):meff σ d i = none:=by
 cases i <;> cases d <;> first | rfl | simp [I.putsB] at h
theorem outc_puts {i : Ins} {ε : Eff} (h : i.i.putsB = true) (ho : Outc P i σ ε) : ∃ v, ε = .put v := by
  obtain ⟨d, ins, g, s⟩ := i
  have hm := meff_puts (σ := σ) h d
  cases g with
  | none =>
    cases ins <;> first
      | (obtain ⟨_, _, _, r, _, _, _, _, _, _, rfl⟩ := ho; exact ⟨r, rfl⟩)
      | (simp only [Outc] at ho
         rcases ho with ⟨q, v, _, _, rfl⟩ | ⟨_, q, h2, _⟩
         · exact ⟨v, rfl⟩
         · simp only at hm; rw [hm] at h2; cases h2)
  | some g =>
    cases ins <;> first
      | (obtain ⟨G, _, r, _, _, rfl⟩ := ho; exact ⟨_, rfl⟩)
      | (simp only [Outc] at ho
         obtain ⟨G, _, ho⟩ := ho
         rcases ho with ⟨q, v, _, _, rfl⟩ | ⟨_, ⟨q, h2, _⟩ | ⟨_, _, rfl⟩⟩
         · exact ⟨_, rfl⟩
         · simp only at hm; rw [hm] at h2; cases h2
         · exact ⟨_, rfl⟩)
theorem meff_kind {e:Option Nat} {i:I} {q:Prop} {ε:Eff} (hm:meff σ e i = some (q,ε)) (hq:q) :
  (∃ d r o rm,e = some d ∧ ε = .new r o rm ∧ rmO σ.own rm d = .none ∧ (rm = none ∨ ∃ n e' sz es,rm = some n ∧ σ.own n = .grow e' sz es ∧ i.consumes = true)) ∨
  (∃ n cs cs',ε = .set n (.box cs') ∧ σ.own n = .box cs ∧ i.writesBox = true):=by
 have hnone:∀ {o:Ob},o.isNone = true → o = .none:=fun {o} h => by cases o <;> simp_all [Ob.isNone]
 cases i <;> cases e <;> (try (simp [meff] at hm; done))
 case alloc.some cs d =>
  simp only [meff,Option.some.injEq,Prod.mk.injEq] at hm
  obtain ⟨rfl,rfl⟩:=hm
  exact .inl ⟨d,_,_,none,rfl,rfl,hnone hq,.inl rfl⟩
 case mks.some e sz bytes z x y d =>
  simp only [meff] at hm
  split at hm
  ·simp only [Option.some.injEq,Prod.mk.injEq] at hm
   obtain ⟨rfl,rfl⟩:=hm
   exact .inl ⟨d,_,_,none,rfl,rfl,hnone hq.1,.inl rfl⟩
  ·cases hm
 case box.some sz x d =>
  simp only [meff] at hm
  split at hm
  ·simp only [Option.some.injEq,Prod.mk.injEq] at hm
   obtain ⟨rfl,rfl⟩:=hm
   exact .inl ⟨d,_,_,none,rfl,rfl,hnone hq.1,.inl rfl⟩
  ·cases hm
 case bsl.some e sz xs d =>
  simp only [meff] at hm
  split at hm
  ·simp only [Option.some.injEq,Prod.mk.injEq] at hm
   obtain ⟨rfl,rfl⟩:=hm
   exact .inl ⟨d,_,_,none,rfl,rfl,hnone hq.1,.inl rfl⟩
  ·cases hm
 case st.none sz x y =>
  simp only [meff] at hm
  split at hm
  ·rename_i n o vs _ _
   split at hm
   ·rename_i cs hown
    simp only [Option.some.injEq,Prod.mk.injEq] at hm
    obtain ⟨rfl,rfl⟩:=hm
    exact .inr ⟨n,cs,_,rfl,hown,rfl⟩
   ·cases hm
  ·cases hm
 case app.some e sz bytes s x d =>
  simp only [meff] at hm
  split at hm
  ·rename_i n ys _ _
   split at hm
   ·rename_i e' sz' es hown
    split at hm
    ·simp only [Option.some.injEq,Prod.mk.injEq] at hm
     obtain ⟨rfl,rfl⟩:=hm
     exact .inl ⟨d,_,_,some n,rfl,rfl,hnone hq.2.2.1,.inr ⟨n,e',sz',es,rfl,hown,rfl⟩⟩
    ·cases hm
   ·cases hm
  ·simp only [Option.some.injEq,Prod.mk.injEq] at hm
   obtain ⟨rfl,rfl⟩:=hm
   exact .inl ⟨d,_,_,none,rfl,rfl,hnone hq.2.2.1,.inl rfl⟩
  ·cases hm
theorem meff_st {e:Option Nat} {i:I} (hw:i.writesBox = true) {q:Prop} {ε:Eff} (hm:meff σ e i = some (q,ε)):∃ n cs cs',ε = .set n (.box cs') ∧ σ.own n = .box cs:=by
 cases i <;> simp only [I.writesBox,Bool.false_eq_true] at hw
 cases e <;> simp only [meff,reduceCtorEq] at hm
 split at hm
 ·split at hm
  ·rename_i hn
   simp only [Option.some.injEq,Prod.mk.injEq] at hm
   exact ⟨_,_,_,hm.2.symm,hn⟩
  ·cases hm
 ·cases hm
theorem outc_st {i:Ins} {ε:Eff} (hw:i.i.writesBox = true) (ho:Outc P i σ ε):(∃ v,ε = .put v) ∨ ∃ n cs cs',ε = .set n (.box cs') ∧ σ.own n = .box cs:=by
 obtain ⟨d,ins,g,s⟩:=i
 cases ins <;> simp only [I.writesBox,Bool.false_eq_true] at hw
 cases g with
 | none =>
  simp only [Outc] at ho
  rcases ho with ⟨q,v,_,_,rfl⟩ | ⟨_,q,h2,hq⟩
  ·exact .inl ⟨v,rfl⟩
  ·exact .inr (meff_st rfl h2)
 | some g =>
  simp only [Outc] at ho
  obtain ⟨G,_,ho⟩:=ho
  rcases ho with ⟨q,v,_,_,rfl⟩ | ⟨_,⟨q,h2,_,hq⟩ | ⟨_,_,rfl⟩⟩
  ·exact .inl ⟨_,rfl⟩
  ·exact .inr (meff_st rfl h2)
  ·exact .inl ⟨_,rfl⟩
theorem outc_kind {i : Ins} {ε : Eff} (ho : Outc P i σ ε) :
    (∃ v, ε = .put v) ∨ (∃ d r o rm, i.d = some d ∧ ε = .new r o rm ∧ rmO σ.own rm d = .none ∧ (rm = none ∨ ∃ n e' sz es, rm = some n ∧ σ.own n = .grow e' sz es ∧ i.i.consumes = true)) ∨
    (∃ n cs cs', ε = .set n (.box cs') ∧ σ.own n = .box cs ∧ i.i.writesBox = true) := by
  obtain ⟨d, ins, g, s⟩ := i
  cases g with
  | none =>
    cases ins <;> first
      | (obtain ⟨_, _, _, r, _, _, _, _, _, _, rfl⟩ := ho; exact .inl ⟨r, rfl⟩)
      | (simp only [Outc] at ho
         rcases ho with ⟨q, v, _, _, rfl⟩ | ⟨_, q, h2, hq⟩
         · exact .inl ⟨v, rfl⟩
         · exact .inr (meff_kind h2 hq))
  | some g =>
    cases ins <;> first
      | (obtain ⟨G, _, r, _, _, rfl⟩ := ho; exact .inl ⟨_, rfl⟩)
      | (simp only [Outc] at ho
         obtain ⟨G, _, ho⟩ := ho
         rcases ho with ⟨q, v, _, _, rfl⟩ | ⟨_, ⟨q, h2, _, hq⟩ | ⟨_, _, rfl⟩⟩
         · exact .inl ⟨_, rfl⟩
         · exact .inr (meff_kind h2 hq)
         · exact .inl ⟨_, rfl⟩)
theorem prg_fn {x:AV} {f:FuncId} {caps:List AV} (h:x.prg d = .fn f caps):∃ c,x = .fn f c ∧ caps = AV.prgL d c:=by
 cases x <;> simp only [AV.prg,reduceCtorEq,AV.fn.injEq] at h
 ·split at h <;> cases h
 ·split at h <;> cases h
 ·split at h <;> cases h
 ·obtain ⟨rfl,rfl⟩:=h; exact ⟨_,rfl,rfl⟩
theorem outc_newer_back {i : Ins} {ε' : Eff} (hpu : i.i.putsB = true) (hc : i.i.constB = true) (h : Newer σ σ' d i.i.xs) (hg : ∀ g, i.g = some g → σ'.env g.1 = (σ.env g.1).prg d) (ho : Outc P i σ' ε') :
    ∃ v, Outc P i σ (.put v) ∧ ε' = .put (v.prg d) := by
  obtain ⟨e, ins, g⟩ := i
  have hp := pev_newer h hc
  have hm := meff_puts (σ := σ') hpu e
  have callee : ∀ {f xs fid caps args}, ins = .call f xs → (σ'.val f).dg = true → (xs.all fun x => (σ'.val x).dg) = true → (σ'.val f).dv = .fn fid caps → AV.portL σ'.own (xs.map (fun x => (σ'.val x).dv) ++ caps) = some args →
      ∃ caps', (σ.val f).dg = true ∧ (xs.all fun x => (σ.val x).dg) = true ∧ (σ.val f).dv = .fn fid caps' ∧ AV.portL σ.own (xs.map (fun x => (σ.val x).dv) ++ caps') = some args := by
    rintro f xs fid caps args rfl h1 h2 h3 h4
    have hf : f ∈ (I.call f xs).xs := by simp [I.xs]
    have hxs : ∀ x ∈ xs, x ∈ (I.call f xs).xs := fun x hx => by simp [I.xs, hx]
    rw [h.dg hf] at h1
    rw [h.all_dg xs hxs] at h2
    rw [h.dv hf] at h3
    obtain ⟨c, hc, rfl⟩ := prg_fn h3
    rw [h.map_dv xs hxs, ← prgL_append, h.portL] at h4
    exact ⟨c, h1, h2, hc, h4⟩
  cases g with
  | none =>
    cases ins <;> first
      | (obtain ⟨fid, caps, args, r, k1, k2, k3, k4, k5, k6, rfl⟩ := ho
         obtain ⟨c, j1, j2, j3, j4⟩ := callee rfl k1 k2 k3 k4
         exact ⟨r, ⟨fid, c, args, r, j1, j2, j3, j4, k5, k6, rfl⟩, by rw [prg_pure d k5]⟩)
      | (simp only [Outc] at ho ⊢
         rcases ho with ⟨q, v, k1, k2, rfl⟩ | ⟨_, q, k2, _⟩
         · simp only [hp, Option.map_eq_some_iff] at k1
           obtain ⟨⟨q', v'⟩, k1, k3⟩ := k1
           simp only [Prod.mk.injEq] at k3
           obtain ⟨rfl, rfl⟩ := k3
           exact ⟨v', .inl ⟨_, v', k1, k2, rfl⟩, rfl⟩
         · simp only at hm; rw [hm] at k2; cases k2)
  | some g =>
    have hgg := guard_newer (hg g rfl)
    cases ins <;> first
      | (obtain ⟨G, hG, r, k5, k6, rfl⟩ := ho
         refine ⟨.opt G r, ⟨G, by rw [← hgg]; exact hG, r, k5, fun hGt => ?_, rfl⟩, by rw [show (AV.opt G r).prg d = .opt G (r.prg d) from rfl, prg_pure d k5]⟩
         obtain ⟨fid, caps, args, k1, k2, k3, k4, k7⟩ := k6 hGt
         obtain ⟨c, j1, j2, j3, j4⟩ := callee rfl k1 k2 k3 k4
         exact ⟨fid, c, args, j1, j2, j3, j4, k7⟩)
      | (simp only [Outc] at ho ⊢
         obtain ⟨G, hG, ho⟩ := ho
         rcases ho with ⟨q, v, k1, k2, rfl⟩ | ⟨_, ⟨q, k2, _⟩ | ⟨k2, _, _⟩⟩
         · simp only [hp, Option.map_eq_some_iff] at k1
           obtain ⟨⟨q', v'⟩, k1, k3⟩ := k1
           simp only [Prod.mk.injEq] at k3
           obtain ⟨rfl, rfl⟩ := k3
           exact ⟨.opt G v', ⟨G, by rw [← hgg]; exact hG, .inl ⟨_, v', k1, k2, rfl⟩⟩, rfl⟩
         · simp only at hm; rw [hm] at k2; cases k2
         · simp only at hpu; rw [hpu] at k2; cases k2)
theorem outc_less {i : Ins} {ε : Eff} {env : Nat → AV} {own own' : Nat → Ob} {b : Bool} (hpu : i.i.putsB = true) (h : OwnLe b own' own) (hb : b = true → i.i.readsBox = false) (ho : Outc P i ⟨env, own'⟩ ε) : Outc P i ⟨env, own⟩ ε := by
  obtain ⟨e, ins, g⟩ := i
  have hm := meff_puts (σ := ⟨env, own'⟩) hpu e
  have hv : ∀ x, St.val ⟨env, own'⟩ x = St.val ⟨env, own⟩ x := val_own
  cases g with
  | none =>
    cases ins <;> first
      | (obtain ⟨fid, caps, args, r, k1, k2, k3, k4, k5, k6, rfl⟩ := ho
         simp only [hv] at k1 k2 k3 k4
         exact ⟨fid, caps, args, r, k1, k2, k3, h.portL k4, k5, k6, rfl⟩)
      | (simp only [Outc] at ho ⊢
         rcases ho with ⟨q, v, k1, k2, rfl⟩ | ⟨_, q, k2, _⟩
         · exact .inl ⟨q, v, h.pev hb k1, k2, rfl⟩
         · simp only at hm; rw [hm] at k2; cases k2)
  | some g =>
    cases ins <;> first
      | (obtain ⟨G, hG, r, k5, k6, rfl⟩ := ho
         refine ⟨G, hG, r, k5, fun hGt => ?_, rfl⟩
         obtain ⟨fid, caps, args, k1, k2, k3, k4, k7⟩ := k6 hGt
         simp only [hv] at k1 k2 k3 k4
         exact ⟨fid, caps, args, k1, k2, k3, h.portL k4, k7⟩)
      | (simp only [Outc] at ho ⊢
         obtain ⟨G, hG, ho⟩ := ho
         refine ⟨G, hG, ?_⟩
         rcases ho with ⟨q, v, k1, k2, rfl⟩ | ⟨_, ⟨q, k2, _⟩ | ⟨k2, _, _⟩⟩
         · exact .inl ⟨q, v, h.pev hb k1, k2, rfl⟩
         · simp only at hm; rw [hm] at k2; cases k2
         · simp only at hpu; rw [hpu] at k2; cases k2)
theorem pevO_gone {env:Nat → AV} {own:Nat → Ob} {n e sz:Nat} {es:List (List CD)} (hn:own n = .grow e sz es) {i:I} (hr:i.readsGrow = false) {r:Prop × AV} (h:pevO ⟨env,own⟩ i = some r):pevO ⟨env,upd own n .none⟩ i = some r:=by
 have hv:∀ x,St.val ⟨env,upd own n .none⟩ x = St.val ⟨env,own⟩ x:=val_own
 have hbox:∀ m,(own m).isBox = true → upd own n .none m = own m:=fun m hm => by
  by_cases hmn:m = n
  ·subst hmn; rw [hn] at hm; cases hm
  ·simp [upd,hmn]
 cases i <;> (try (simp [I.readsGrow] at hr; done))
 case fa off x =>
  simp only [pevO,hv] at h ⊢
  generalize hx:(St.val ⟨env,own⟩ x).dv = y at h ⊢
  cases y
  case bp m o =>
   simp only at h ⊢
   split at h
   ·rename_i hb; rw [hbox m hb,if_pos hb]; exact h
   ·cases h
  case c c => cases c <;> exact h
  all_goals exact h
 case nilc x =>
  simp only [pevO,hv] at h ⊢
  generalize hx:(St.val ⟨env,own⟩ x).dv = y at h ⊢
  cases y
  case bp m o =>
   simp only at h ⊢
   split at h
   ·rename_i hb; rw [hbox m hb,if_pos hb]; exact h
   ·cases h
  case c c => cases c <;> exact h
  all_goals exact h
 case iap n sz x i =>
  simp only [pevO,hv] at h ⊢
  generalize (St.val ⟨env,own⟩ i).dv.asC = u at h ⊢
  generalize (St.val ⟨env,own⟩ x).dv = y at h ⊢
  rcases u with _ | u
  ·exact h
  ·cases u <;> try exact h
   simp only at h ⊢
   cases y
   case bp m o =>
    simp only at h ⊢
    split at h
    ·rename_i hb; rw [hbox m hb,if_pos hb]; exact h
    ·cases h
   case c c => cases c <;> exact h
   all_goals exact h
 case ld one sz x =>
  simp only [pevO,hv] at h ⊢
  generalize hx:(St.val ⟨env,own⟩ x).dv = y at h ⊢
  cases y
  case bp m o =>
   simp only at h ⊢
   cases hm:own m with
   | none => rw [hm] at h; cases h
   | grow _ _ _ => rw [hm] at h; cases h
   | win _ => rw [hm] at h; cases h
   | guest _ _ => rw [hm] at h; cases h
   | mp _ _ _ => rw [hm] at h; cases h
   | box cs => rw [hbox m (by rw [hm]; rfl),hm]; rw [hm] at h; exact h
  case c c => cases c <;> exact h
  all_goals exact h
 all_goals first
  | (simp only [pevO,hv] at h ⊢; exact h)
  | exact h
theorem pev_gone {env:Nat → AV} {own:Nat → Ob} {n e sz:Nat} {es:List (List CD)} (hn:own n = .grow e sz es) {i:I} (hr:i.readsGrow = false) {r:Prop × AV} (h:pev ⟨env,own⟩ i = some r):pev ⟨env,upd own n .none⟩ i = some r:=by
 rw [pev_eq_or] at h ⊢
 rcases h with h | h
 ·exfalso
  cases i <;> first
   | (simp [vwp] at h; done)
   | (simp [I.readsGrow] at hr; done)
 ·exact .inr (pevO_gone hn hr h)
theorem outc_newer {i : Ins} {v : AV} (hpu : i.i.putsB = true) (hnc : i.i.callB = false) (hc : i.i.constB = true) (h : Newer σ σ' d i.i.xs) (hg : ∀ g, i.g = some g → σ'.env g.1 = (σ.env g.1).prg d) (ho : Outc P i σ (.put v)) : Outc P i σ' (.put (v.prg d)) := by
  obtain ⟨e, ins, g⟩ := i
  have hp := pev_newer h hc
  have hm := meff_puts (σ := σ) hpu e
  cases g with
  | none =>
    cases ins <;> first
      | (simp [I.callB] at hnc; done)
      | (simp only [Outc] at ho ⊢
         rcases ho with ⟨q, v', k1, k2, k3⟩ | ⟨_, q, k2, _⟩
         · simp only [Eff.put.injEq] at k3
           subst k3
           simp only at hp
           exact .inl ⟨q, _, by rw [hp, k1]; rfl, k2, rfl⟩
         · simp only at hm; rw [hm] at k2; cases k2)
  | some g =>
    have hgg := guard_newer (hg g rfl)
    cases ins <;> first
      | (simp [I.callB] at hnc; done)
      | (simp only [Outc] at ho ⊢
         obtain ⟨G, hG, ho⟩ := ho
         refine ⟨G, by rw [hgg]; exact hG, ?_⟩
         rcases ho with ⟨q, v', k1, k2, k3⟩ | ⟨_, ⟨q, k2, _⟩ | ⟨k2, _, _⟩⟩
         · simp only [Eff.put.injEq] at k3
           subst k3
           simp only at hp
           exact .inl ⟨q, _, by rw [hp, k1]; rfl, k2, rfl⟩
         · simp only at hm; rw [hm] at k2; cases k2
         · simp only at hpu; rw [hpu] at k2; cases k2)
theorem outc_gone {i : Ins} {ε : Eff} {env : Nat → AV} {own : Nat → Ob} {n e sz : Nat} {es : List (List CD)} (hpu : i.i.putsB = true) (hnc : i.i.callB = false) (hn : own n = .grow e sz es) (hr : i.i.readsGrow = false) (ho : Outc P i ⟨env, own⟩ ε) :
    Outc P i ⟨env, upd own n .none⟩ ε := by
  obtain ⟨e', ins, g⟩ := i
  have hm := meff_puts (σ := ⟨env, own⟩) hpu e'
  cases g with
  | none =>
    cases ins <;> first
      | (simp [I.callB] at hnc; done)
      | (simp only [Outc] at ho ⊢
         rcases ho with ⟨q, v', k1, k2, k3⟩ | ⟨_, q, k2, _⟩
         · exact .inl ⟨q, v', pev_gone hn hr k1, k2, k3⟩
         · simp only at hm; rw [hm] at k2; cases k2)
  | some g =>
    cases ins <;> first
      | (simp [I.callB] at hnc; done)
      | (simp only [Outc] at ho ⊢
         obtain ⟨G, hG, ho⟩ := ho
         refine ⟨G, hG, ?_⟩
         rcases ho with ⟨q, v', k1, k2, k3⟩ | ⟨_, ⟨q, k2, _⟩ | ⟨k2, _, _⟩⟩
         · exact .inl ⟨q, v', pev_gone hn hr k1, k2, k3⟩
         · simp only at hm; rw [hm] at k2; cases k2
         · simp only at hpu; rw [hpu] at k2; cases k2)
theorem upd_comm {α:Type} (f:Nat → α) {s t:Nat} (h:s ≠ t) (u v:α):upd (upd f s u) t v = upd (upd f t v) s u:=by
 funext n
 simp only [upd]
 by_cases h1:n = t <;> by_cases h2:n = s <;> simp_all
theorem St.ext {σ σ':St} (h1:σ.env = σ'.env) (h2:σ.own = σ'.own):σ = σ':=by cases σ; cases σ'; simp_all
theorem put_put (σ:St) {d e:Option Nat} (h:∀ x,d = some x → e ≠ some x) (u v:AV):(σ.put d u).put e v = (σ.put e v).put d u:=by
 cases d <;> cases e <;> try rfl
 rename_i d e
 simp only [St.put]
 rw [upd_comm _ (fun x => h d rfl (by rw [x]))]
theorem prgE_upd (d:Nat) (f:Nat → AV) (t:Nat) (v:AV):prgE d (upd f t v) = upd (prgE d f) t (v.prg d):=by
 funext n; simp only [prgE,upd]; split <;> rfl
theorem new_put (env:Nat → AV) (own:Nat → Ob) {d:Nat} {e:Option Nat} (h:e ≠ some d) (r:AV) (o:Ob) (v:AV) :
  St.new (St.put ⟨env,own⟩ e v) d r o = (St.new ⟨env,own⟩ d r o).put e (v.prg d):=by
 cases e with
 | none => rfl
 | some e =>
  have hne:e ≠ d:=fun x => h (by rw [x])
  refine St.ext ?_ rfl
  simp only [St.new,St.put,prgE_upd]
  exact upd_comm _ hne _ _
theorem val_put_ne {e:Option Nat} {v:AV} {x:X} (h:∀ d,e = some d → x ≠ .t d):(σ.put e v).val x = σ.val x:=by
 cases e with
 | none => rfl
 | some d =>
  cases x with
  | k v => rfl
  | t n =>
   have:n ≠ d:=fun e => h d rfl (by rw [e])
   simp [St.put,St.val,upd,this]
theorem looks_spec {i:Ins} {d:Nat} (h:d ∉ i.looks):(∀ x ∈ i.i.xs,x ≠ .t d) ∧ (∀ g,i.g = some g → g.1 ≠ d):=by
 simp only [Ins.looks,List.mem_append,not_or] at h
 refine ⟨fun x hx hxd => h.1 ?_,fun g hg hgd => h.2 ?_⟩
 ·exact List.mem_filterMap.2 ⟨x,hx,by rw [hxd]; rfl⟩
 ·rw [hg]; obtain ⟨a,b⟩:=g; simp at hgd; simp [hgd]
theorem outc_put {i:Ins} {ε:Eff} {e:Option Nat} {v:AV} (h:∀ d,e = some d → d ∉ i.looks):Outc P i (σ.put e v) ε ↔ Outc P i σ ε:=by
 refine outc_congr (fun x hx => val_put_ne fun d hd hxd => (looks_spec (h d hd)).1 x hx hxd) (by cases e <;> rfl) (fun g hg => ?_)
 cases e with
 | none => rfl
 | some d =>
  have:=(looks_spec (h d rfl)).2 g hg
  simp [St.put,upd,this]
theorem newer_new {env:Nat → AV} {own:Nat → Ob} {d:Nat} {r:AV} {o:Ob} {i:Ins} (hd:own d = .none) (hl:d ∉ i.looks) (hok:i.i.xs.all X.okB = true) :
  Newer ⟨env,own⟩ (St.new ⟨env,own⟩ d r o) d i.i.xs ∧ ∀ g,i.g = some g → (St.new ⟨env,own⟩ d r o).env g.1 = (env g.1).prg d:=by
 obtain ⟨h1,h2⟩:=looks_spec hl
 refine ⟨⟨fun x hx => ?_,fun n hn => by simp [St.new,upd,hn,prgO],hd⟩,fun g hg => by simp [St.new,upd,h2 g hg,prgE]⟩
 cases x with
 | t n =>
  have:n ≠ d:=fun e => h1 _ hx (by rw [e])
  simp [St.val,St.new,upd,this,prgE]
 | k v =>
  have:=List.all_eq_true.1 hok _ hx
  simp only [X.okB] at this
  simp only [St.val]
  rw [prg_pure d this]
theorem rmO_le (own:Nat → Ob) (rm:Option Nat):OwnLe false (rmO own rm) own:=by
 intro n
 cases rm with
 | none => exact .inl rfl
 | some m =>
  by_cases h:n = m
  ·subst h; right; left; simp [rmO,upd]
  ·left; simp [rmO,upd,h]
theorem comm_alone {i j:Ins} (hc:comm i j = true):i.s = false ∧ j.s = false:=by
 simp only [comm,Bool.and_eq_true,Bool.not_eq_true'] at hc
 exact ⟨hc.1.1.1.1.1.1.1.1.1.1,hc.1.1.1.1.1.1.1.1.1.2⟩
theorem comm_sound {i j:Ins} (hc:comm i j = true) {K:St → Prop} (h:AStepP P i (fun σ1 => AStepP P j K σ1) σ):AStepP P j (fun σ1 => AStepP P i K σ1) σ:=by
 simp only [comm,Bool.and_eq_true] at hc
 obtain ⟨⟨⟨⟨⟨⟨⟨_,c1⟩,c2⟩,c3⟩,c4⟩,c5⟩,c6⟩,c7⟩:=hc
 have hid:∀ d,i.d = some d → d ∉ j.looks ∧ j.d ≠ some d:=by
  intro d hd
  rw [hd] at c1
  simpa using c1
 have hjd:∀ d,j.d = some d → d ∉ i.looks:=by
  intro d hd
  rw [hd] at c2
  simpa using c2
 rw [astep_iff] at h
 obtain ⟨εi,hi,h⟩:=h
 rw [astep_iff] at h
 obtain ⟨εj,hj,hK⟩:=h
 rw [astep_iff]
 -- it is enough
 suffices hs:∃ εj' εi',Outc P j σ εj' ∧ Outc P i (εj'.app j.d σ) εi' ∧ εi'.app i.d (εj'.app j.d σ) = εj.app j.d (εi.app i.d σ) by
  obtain ⟨εj',εi',h1,h2,h3⟩:=hs
  refine ⟨εj',h1,?_⟩
  rw [astep_iff]
  exact ⟨εi',h2,by rw [h3]; exact hK⟩
 simp only [Bool.or_eq_true,Bool.and_eq_true,Bool.not_eq_true',Bool.and_eq_false_iff] at c7
 rcases c7 with (⟨hpu,hbx⟩ | ⟨⟨⟨hpu,hnc⟩,hcr⟩,hrc⟩) | ⟨⟨hpu,hnb⟩,hwb⟩
 ·-- j puts
  obtain ⟨vj,rfl⟩:=outc_puts hpu hj
  rcases outc_kind hi with ⟨v,rfl⟩ | ⟨d,r,o,rm,hd,rfl,hnone,_⟩ | ⟨n,cs,cs',rfl,hown,hwb⟩
  ·refine ⟨.put vj,.put v,(outc_put (fun d hd => (hid d hd).1)).1 hj,(outc_put hjd).2 hi,?_⟩
   exact put_put σ (fun x hx hx' => (hid x hx').2 hx) vj v
  ·have e1:(Eff.new r o rm).app i.d σ = St.new ⟨σ.env,rmO σ.own rm⟩ d r o:=by rw [hd]; rfl
   rw [e1] at hj
   obtain ⟨hn,hg⟩:=newer_new (env:=σ.env) (own:=rmO σ.own rm) (r:=r) (o:=o) hnone (hid d hd).1 c4
   obtain ⟨v,hv,he⟩:=outc_newer_back hpu c6 hn hg hj
   simp only [Eff.put.injEq] at he
   subst he
   have hv':Outc P j σ (.put v):=outc_less (own:=σ.own) hpu (rmO_le σ.own rm) (by simp) hv
   refine ⟨.put v,.new r o rm,hv',(outc_put hjd).2 hi,?_⟩
   rw [e1]
   simp only [hd,Eff.app]
   have:=new_put σ.env (rmO σ.own rm) (d:=d) (e:=j.d) (hid d hd).2 r o v
   rw [← this]
   cases j.d <;> rfl
  ·have hb:j.i.readsBox = false:=by
    rcases hbx with h | h
    ·rw [hwb] at h; cases h
    ·exact h
   have hle:OwnLe true (upd σ.own n (.box cs')) σ.own:=by
    intro m
    by_cases hm:m = n
    ·subst hm; right; right; exact ⟨rfl,by simp [upd,Ob.isBox],by rw [hown]; rfl⟩
    ·left; simp [upd,hm]
   have hj':Outc P j σ (.put vj):=outc_less (own:=σ.own) hpu hle (fun _ => hb) hj
   refine ⟨.put vj,.set n (.box cs'),hj',(outc_put hjd).2 hi,?_⟩
   simp only [Eff.app]
   cases j.d <;> rfl
 ·-- i puts,j makes an object
  obtain ⟨v,rfl⟩:=outc_puts hpu hi
  have hj':Outc P j σ εj:=(outc_put (fun d hd => (hid d hd).1)).1 hj
  rcases outc_kind hj' with ⟨v',rfl⟩ | ⟨d,r,o,rm,hd,rfl,hnone,hrm⟩ | ⟨n,cs,cs',rfl,hown,hwb⟩
  ·refine ⟨.put v',.put v,hj',(outc_put hjd).2 hi,?_⟩
   exact put_put σ (fun x hx hx' => (hid x hx').2 hx) v' v
  ·obtain ⟨hn,hg⟩:=newer_new (env:=σ.env) (own:=rmO σ.own rm) (r:=r) (o:=o) hnone (hjd d hd) c3
   have e1:(Eff.new r o rm).app j.d σ = St.new ⟨σ.env,rmO σ.own rm⟩ d r o:=by rw [hd]; rfl
   have hi':Outc P i ⟨σ.env,rmO σ.own rm⟩ (.put v):=by
    rcases hrm with rfl | ⟨n,e',sz,es,rfl,hgr,hcons⟩
    ·exact hi
    ·have hr:i.i.readsGrow = false:=by
      rcases hrc with h | h
      ·exact h
      ·rw [hcons] at h; cases h
     exact outc_gone hpu hnc hgr hr hi
   refine ⟨.new r o rm,.put (v.prg d),hj',?_,?_⟩
   ·rw [e1]; exact outc_newer hpu hnc c5 hn hg hi'
   ·rw [e1]
    simp only [Eff.app]
    have hne:i.d ≠ some d:=fun h => (hid d h).2 hd
    have:=new_put σ.env (rmO σ.own rm) (d:=d) (e:=i.d) hne r o v
    rw [← this]
    rw [hd]
    cases i.d <;> rfl
  ·exfalso
   cases hji:j.i <;> rw [hji] at hwb hcr <;> simp [I.writesBox,I.creates] at hwb hcr
 ·-- i puts and reads no box,j writes one
  obtain ⟨v,rfl⟩:=outc_puts hpu hi
  have hj':Outc P j σ εj:=(outc_put (fun d hd => (hid d hd).1)).1 hj
  rcases outc_st hwb hj' with ⟨v',rfl⟩ | ⟨n,cs,cs',rfl,hown⟩
  ·refine ⟨.put v',.put v,hj',(outc_put hjd).2 hi,?_⟩
   exact put_put σ (fun x hx hx' => (hid x hx').2 hx) v' v
  ·have hle:OwnLe true σ.own (upd σ.own n (.box cs')):=by
    intro m
    by_cases hm:m = n
    ·subst hm; right; right; exact ⟨rfl,by rw [hown]; rfl,by simp [upd,Ob.isBox]⟩
    ·left; simp [upd,hm]
   have hi':Outc P i ⟨σ.env,upd σ.own n (.box cs')⟩ (.put v):=outc_less (own':=σ.own) hpu hle (fun _ => hnb) hi
   refine ⟨.set n (.box cs'),.put v,hj',hi',?_⟩
   simp only [Eff.app]
   cases i.d <;> rfl
end
end Go.V

/-
 A call that makes one new object may change places with what does not look at it.
-/
namespace Go.V
mutual
theorem back_prg {dd d:Nat} (hd:d ≠ dd):∀ {x y:AV},x.back [dd] = some y → y.prg d = y
 | .c x,y,h => by simp only [AV.back,Option.some.injEq] at h; subst h; rfl
 | .gr n,y,h => by
  simp only [AV.back] at h
  split at h
  ·simp only [Option.map_eq_some_iff] at h
   obtain ⟨m,hm,rfl⟩:=h
   have:m = dd:=by have:=List.mem_of_getElem? hm; simpa using this
   subst this
   simp only [AV.prg,fun e:m = d => hd e.symm,if_false]
   rw [if_neg (fun e => hd e.symm)]
  ·cases h
 | .bp n o,y,h => by
  simp only [AV.back] at h
  split at h
  ·simp only [Option.map_eq_some_iff] at h
   obtain ⟨m,hm,rfl⟩:=h
   have:m = dd:=by have:=List.mem_of_getElem? hm; simpa using this
   subst this
   simp only [AV.prg]
   rw [if_neg (fun e => hd e.symm)]
  ·cases h
 | .vw sz n o l c,y,h => by
  simp only [AV.back] at h
  split at h
  ·simp only [Option.map_eq_some_iff] at h
   obtain ⟨m,hm,rfl⟩:=h
   have:m = dd:=by have:=List.mem_of_getElem? hm; simpa using this
   subst this
   simp only [AV.prg]
   rw [if_neg (fun e => hd e.symm)]
  ·cases h
 | .agg cs,y,h => by
  simp only [AV.back,Option.map_eq_some_iff] at h
  obtain ⟨ys,h,rfl⟩:=h
  simp only [AV.prg,backL_prg hd h]
 | .tup cs,y,h => by
  simp only [AV.back,Option.map_eq_some_iff] at h
  obtain ⟨ys,h,rfl⟩:=h
  simp only [AV.prg,backL_prg hd h]
 | .fn f cs,y,h => by
  simp only [AV.back,Option.map_eq_some_iff] at h
  obtain ⟨ys,h,rfl⟩:=h
  simp only [AV.prg,backL_prg hd h]
 | .non,y,h => by simp only [AV.back,Option.some.injEq] at h; subst h; rfl
 | .opt g x,y,h => by
  simp only [AV.back,Option.map_eq_some_iff] at h
  obtain ⟨z,h,rfl⟩:=h
  simp only [AV.prg,back_prg hd h]
theorem backL_prg {dd d:Nat} (hd:d ≠ dd):∀ {xs ys:List AV},AV.backL [dd] xs = some ys → AV.prgL d ys = ys
 | [],ys,h => by simp only [AV.backL,Option.some.injEq] at h; subst h; rfl
 | x :: xs,ys,h => by
  simp only [AV.backL] at h
  split at h
  ·rename_i y ys' h1 h2
   simp only [Option.some.injEq] at h
   subst h
   simp only [AV.prgL,back_prg hd h1,backL_prg hd h2]
  ·cases h
end
theorem obBack_prg {dd d:Nat} (hd:d ≠ dd) {o o':Ob} (h:o.back [dd] = some o'):o'.prg d = o':=by
 cases o <;> simp only [Ob.back,Option.map_eq_some_iff,Option.some.injEq] at h
 case box cs => obtain ⟨ys,h,rfl⟩:=h; simp only [Ob.prg,backL_prg hd h]
 case win cs => obtain ⟨ys,h,rfl⟩:=h; simp only [Ob.prg,backL_prg hd h]
 all_goals (subst h; rfl)
variable {P:Program} {σ σ':St} {d:Nat} {K:St → Prop}
theorem newer_any {env:Nat → AV} {own:Nat → Ob} {d:Nat} {r:AV} {o:Ob} {i:Ins} (hd:own d = .none) (hl:d ∉ i.looks) (hok:i.i.xs.all X.okB = true) :
  Newer ⟨env,own⟩ ⟨upd (prgE d env) d r,upd (prgO d own) d o⟩ d i.i.xs ∧ ∀ g,i.g = some g → (upd (prgE d env) d r) g.1 = (env g.1).prg d:=by
 obtain ⟨h1,h2⟩:=looks_spec hl
 refine ⟨⟨fun x hx => ?_,fun n hn => by simp [upd,hn,prgO],hd⟩,fun g hg => by simp [upd,h2 g hg,prgE]⟩
 cases x with
 | t n =>
  have:n ≠ d:=fun e => h1 _ hx (by rw [e])
  simp [St.val,upd,this,prgE]
 | k v =>
  have:=List.all_eq_true.1 hok _ hx
  simp only [X.okB] at this
  simp only [St.val]
  rw [prg_pure d this]
theorem isNone_eq {o:Ob} (h:o.isNone = true):o = .none:=by cases o <;> first | rfl | cases h
theorem pureL_rep (n:Nat) {z:List AV} (h:AV.pureL z = true):AV.pureL (List.replicate n z).flatten = true:=by
 induction n with
 | zero => rfl
 | succ n ih =>
  simp only [List.replicate_succ,List.flatten_cons]
  revert ih
  generalize (List.replicate n z).flatten = y
  intro ih
  induction z with
  | nil => exact ih
  | cons a z ihz =>
   simp only [AV.pureL,Bool.and_eq_true] at h
   simp only [List.cons_append,AV.pureL,Bool.and_eq_true]
   exact ⟨h.1,ihz h.2⟩
theorem makes_eff {i:Ins} {ε:Eff} (hm:i.i.makesB = true) (hg:i.g = none) (hc:i.i.constB = true) (ho:Outc P i σ ε) :
  ∃ d0 r0 o0,i.d = some d0 ∧ ε = .new r0 o0 none ∧ σ.own d0 = .none ∧ (∀ d,d ≠ d0 → r0.prg d = r0) ∧ (∀ d,o0.prg d = o0) ∧
   ∀ (σ':St) (d:Nat),Newer σ σ' d i.i.xs → σ'.own d0 = .none → Outc P i σ' ε:=by
 obtain ⟨di,ii,gi,si⟩:=i
 simp only at hm hg hc ho ⊢
 subst hg
 cases ii <;> simp only [I.makesB,Bool.false_eq_true] at hm
 case alloc cs =>
  cases di with
  | none => exfalso; simp [Outc,pev,vwp,pevO,meff] at ho
  | some d0 =>
   simp only [I.constB] at hc
   simp only [Outc,pev,vwp,pevO,meff] at ho
   rcases ho with ⟨q,v,h,_⟩ | ⟨_,q,h,hq⟩
   ·cases h
   ·simp only [Option.some.injEq,Prod.mk.injEq] at h
    obtain ⟨rfl,rfl⟩:=h
    refine ⟨d0,_,_,rfl,rfl,isNone_eq hq,fun d hd => by simp only [AV.prg]; rw [if_neg (fun e => hd e.symm)],fun d => by simp only [Ob.prg,prgL_pure d hc],fun σ' d hn h0 => ?_⟩
    simp only [Outc,pev,vwp,pevO,meff]
    exact .inr ⟨trivial,_,rfl,by rw [h0]; rfl⟩
 case mks e sz bytes z x y =>
  cases di with
  | none => exfalso; simp [Outc,pev,vwp,pevO,meff] at ho
  | some d0 =>
   simp only [I.constB] at hc
   simp only [Outc,pev,vwp,pevO,meff] at ho
   rcases ho with ⟨q,v,h,_⟩ | ⟨_,q,h,hq⟩
   ·cases h
   ·split at h
    ·rename_i k l k' c hx hy
     simp only [Option.some.injEq,Prod.mk.injEq] at h
     obtain ⟨rfl,rfl⟩:=h
     obtain ⟨q0,q1,q2,q3⟩:=hq
     refine ⟨d0,_,_,rfl,rfl,isNone_eq q0,fun d hd => by simp only [AV.prg]; rw [if_neg (fun e => hd e.symm)],fun d => by simp only [Ob.prg,prgL_pure d (pureL_rep _ hc)],fun σ' d hn h0 => ?_⟩
     have hxm:x ∈ (I.mks e sz bytes z x y).xs:=by simp [I.xs]
     have hym:y ∈ (I.mks e sz bytes z x y).xs:=by simp [I.xs]
     simp only [Outc,pev,vwp,pevO,meff,hn.dv hxm,hn.dv hym,asC_prg,hx,hy,hn.dg hxm,hn.dg hym]
     exact .inr ⟨trivial,_,rfl,by rw [h0]; rfl,q1,q2,q3⟩
    ·cases h
theorem AStep_calln {dj:Option Nat} {f:X} {xs:List X} {K:St → Prop} {σ:St}:AStep P ⟨dj,.calln f xs,none,true⟩ K σ ↔ ACallM P dj f xs K σ:=by
 unfold AStep; rw [if_pos rfl]; simp only [AStepS]
theorem commN_sound {i j:Ins} (hc:commN i j = true) (h:AStepP P i (fun σ1 => AStep P j K σ1) σ):AStep P j (fun σ1 => AStepP P i K σ1) σ:=by
 obtain ⟨dj,ij,gj,sj⟩:=j
 simp only [commN,Bool.and_eq_true,Bool.not_eq_true'] at hc
 obtain ⟨⟨⟨⟨⟨⟨⟨⟨⟨⟨_,_⟩,hs⟩,hcn⟩,hgj⟩,c1⟩,c2⟩,c3⟩,c4⟩,c5⟩,c6⟩:=hc
 (try simp only at hs hcn hgj c4)
 subst hs
 cases ij <;> simp only [I.callnB,Bool.false_eq_true] at hcn
 rename_i f xs
 cases gj with
 | some g => cases hgj
 | none =>
 rw [AStep_calln]
 rw [astep_iff] at h
 obtain ⟨ε,ho,hk⟩:=h
 rw [AStep_calln] at hk
 obtain ⟨dd,fid,caps,args,Post,rfl,k1,k2,k3,k4,k5,k6,k7,k8⟩:=hk
 have hdd:dd ∉ i.looks:=by simpa using c2
 obtain ⟨d0,hd0⟩ : ∃ d0,i.d = some d0:=by
  cases hd:i.d with
  | none => rw [hd] at c1; cases c1
  | some d0 => exact ⟨d0,rfl⟩
 rw [hd0] at c1
 simp only [Bool.and_eq_true,Bool.not_eq_true',bne_iff_ne,ne_eq,Option.some.injEq] at c1
 obtain ⟨c1,hne⟩:=c1
 have hjl:d0 ∉ (⟨some dd,.calln f xs,none,true⟩ : Ins).looks:=by simpa using c1
 have hxs:∀ x ∈ f :: xs,x ≠ .t d0:=(looks_spec hjl).1
 simp only [Bool.or_eq_true,Bool.and_eq_true,Bool.not_eq_true'] at c6
 rcases c6 with ⟨hpu,hnc⟩ | ⟨hmk,hgi⟩
 ·obtain ⟨v,rfl⟩:=outc_puts hpu ho
  have hv:∀ x ∈ f :: xs,(σ.put i.d v).val x = σ.val x:=fun x hx => val_put_ne fun d hd => by rw [hd0] at hd; cases hd; exact hxs x hx
  have hown:(σ.put i.d v).own = σ.own:=by rw [hd0]; rfl
  have e1:(Eff.put v).app i.d σ = σ.put i.d v:=rfl
  rw [e1] at k2 k3 k4 k5 k6 k8
  rw [hown] at k2 k6
  have hown0:=isNone_eq k2
  refine ⟨dd,fid,caps,args,Post,rfl,k1,k2,by rw [← hv f (by simp)]; exact k3,?_,by rw [← hv f (by simp)]; exact k5,?_,k7,fun r os hp => ?_⟩
  ·rw [← all_dg_congr (σ':=σ.put i.d v) fun x hx => hv x (by simp [hx])]; exact k4
  ·rw [← map_dv_congr (σ':=σ.put i.d v) fun x hx => hv x (by simp [hx])]; exact k6
  obtain ⟨o,r',o',rfl,b1,b2,hkk⟩:=k8 r os hp
  refine ⟨o,r',o',rfl,b1,b2,?_⟩
  obtain ⟨hn,hg⟩:=newer_any (env:=σ.env) (own:=σ.own) (r:=r') (o:=o') hown0 hdd c3
  rw [astep_iff]
  refine ⟨.put (v.prg dd),outc_newer hpu hnc c5 hn hg ho,?_⟩
  have e2:(Eff.put (v.prg dd)).app i.d ⟨upd (prgE dd σ.env) dd r',upd (prgO dd σ.own) dd o'⟩ = ⟨upd (prgE dd (σ.put i.d v).env) dd r',upd (prgO dd (σ.put i.d v).own) dd o'⟩:=by
   rw [hd0]
   simp only [Eff.app,St.put]
   rw [prgE_upd,upd_comm _ (fun e => hne e)]
  rw [e2]
  exact hkk
 ·have hgi:i.g = none:=by simpa using hgi
  obtain ⟨d0',r0,o0,hd0',rfl,hown,hr0,ho0,hout⟩:=makes_eff hmk hgi c5 ho
  rw [hd0] at hd0'
  cases hd0'
  have e1:(Eff.new r0 o0 none).app i.d σ = St.new ⟨σ.env,σ.own⟩ d0 r0 o0:=by rw [hd0]; rfl
  rw [e1] at k2 k3 k4 k5 k6 k8
  obtain ⟨hnw,_⟩:=newer_new (env:=σ.env) (own:=σ.own) (r:=r0) (o:=o0) (i:=⟨some dd,.calln f xs,none,true⟩) hown hjl c4
  have hdn:dd ≠ d0:=hne
  have hown0:σ.own dd = .none:=by
   have:(St.new ⟨σ.env,σ.own⟩ d0 r0 o0).own dd = (σ.own dd).prg d0:=by simp [St.new,upd,hdn,prgO]
   rw [this,isNone_prg] at k2
   exact isNone_eq k2
  have hfm:f ∈ (I.calln f xs).xs:=by simp [I.xs]
  have hxm:∀ x ∈ xs,x ∈ (I.calln f xs).xs:=fun x hx => by simp [I.xs,hx]
  rw [hnw.dg hfm] at k3
  rw [hnw.all_dg xs hxm] at k4
  rw [hnw.dv hfm] at k5
  obtain ⟨c,hc1,rfl⟩:=prg_fn k5
  have e3:AV.prgL d0 (xs.map fun x => (σ.val x).dv) ++ AV.prgL d0 c = AV.prgL d0 ((xs.map fun x => (σ.val x).dv) ++ c):=by rw [prgL_append]
  rw [hnw.map_dv xs hxm,e3,hnw.portL] at k6
  refine ⟨dd,fid,c,args,Post,rfl,k1,by rw [hown0]; rfl,k3,k4,hc1,k6,k7,fun r os hp => ?_⟩
  obtain ⟨o,r',o',rfl,b1,b2,hkk⟩:=k8 r os hp
  refine ⟨o,r',o',rfl,b1,b2,?_⟩
  obtain ⟨hn,hg⟩:=newer_any (env:=σ.env) (own:=σ.own) (r:=r') (o:=o') hown0 hdd c3
  rw [astep_iff]
  refine ⟨.new r0 o0 none,hout _ dd hn ?_,?_⟩
  ·show upd (prgO dd σ.own) dd o' d0 = _
   simp only [upd,fun e:d0 = dd => hdn e.symm,if_false,prgO,hown,Ob.prg]
   rw [if_neg (fun e => hdn e.symm)]
  ·have e2:(Eff.new r0 o0 none).app i.d ⟨upd (prgE dd σ.env) dd r',upd (prgO dd σ.own) dd o'⟩ = ⟨upd (prgE dd (St.new ⟨σ.env,σ.own⟩ d0 r0 o0).env) dd r',upd (prgO dd (St.new ⟨σ.env,σ.own⟩ d0 r0 o0).own) dd o'⟩:=by
    rw [hd0]
    show St.new ⟨upd (prgE dd σ.env) dd r',upd (prgO dd σ.own) dd o'⟩ d0 r0 o0 = _
    have p1:prgE d0 (prgE dd σ.env) = prgE dd (prgE d0 σ.env):=by funext t; exact prg_comm dd d0 _
    have p2:prgO d0 (prgO dd σ.own) = prgO dd (prgO d0 σ.own):=by funext t; exact Ob.prg_comm dd d0 _
    have p3:∀ (e:Nat) (f:Nat → Ob) (t:Nat) (v:Ob),prgO e (upd f t v) = upd (prgO e f) t (v.prg e):=fun e f t v => by funext s; simp only [prgO,upd]; split <;> rfl
    have p4:d0 ≠ dd:=fun e => hdn e.symm
    simp only [St.new,prgE_upd,p3,p1,p2,back_prg p4 b1,obBack_prg p4 b2,hr0 dd hdn,ho0]
    rw [upd_comm _ hdn,upd_comm _ hdn]
   rw [e2]
   exact hkk
end Go.V

/-
 Regions in whatever order; the rules for code.
-/
namespace Go.V
theorem rawI_mono {P:Program} {d:Option Nat} {i:I} {K K':St → Prop} {σ:St} (hk:∀ σ,K σ → K' σ) (h:RawI P d i K σ):RawI P d i K' σ:=fun C loc a w o h1 h2 h3 h4 h5 => by
 obtain ⟨σ',h6,h7⟩:=h C loc a w o h1 h2 h3 h4 h5
 exact ⟨σ',h6,hk _ h7⟩
theorem acallS_mono {P:Program} {d:Option Nat} {f:X} {xs:List X} {K K':St → Prop} {σ:St} (hk:∀ σ,K σ → K' σ) (h:ACallS P d f xs K σ):ACallS P d f xs K' σ:=by
 rcases h with h | h | h | h | h | h | h
 ·obtain ⟨fid,caps,args,r,h1,h2,h3,h4,h5,h6,h7⟩:=h
  exact .inl ⟨fid,caps,args,r,h1,h2,h3,h4,h5,h6,hk _ h7⟩
 ·obtain ⟨fid,caps,args,r,h1,h2,h3,h4,h5,h6,h7⟩:=h
  exact .inr (.inl ⟨fid,caps,args,r,h1,h2,h3,h4,h5,h6,hk _ h7⟩)
 ·obtain ⟨fid,caps,L,l,args,Post,h1,h2,h3,h4,h5,h6,h7,h8⟩:=h
  exact .inr (.inr (.inl ⟨fid,caps,L,l,args,Post,h1,h2,h3,h4,h5,h6,h7,fun r l' hp => by
   obtain ⟨r',os,k1,k2,k3⟩:=h8 r l' hp
   exact ⟨r',os,k1,k2,hk _ k3⟩⟩))
 ·obtain ⟨n,g,e,rem,L,h1,h2,h3,h4,h5,h6,h7,h8⟩:=h
  exact .inr (.inr (.inr (.inl ⟨n,g,e,rem,L,h1,h2,h3,h4,h5,h6,h7,hk _ h8⟩)))
 ·obtain ⟨fid,caps,L,l,pre,fc,fcaps,post,fcaps',pre',post',rem,Fin,r,h1,h2,h3,h4,h5,h6,h7,h8,h9,h10,h11,h12,h13,h14,h15⟩:=h
  exact .inr (.inr (.inr (.inr (.inl ⟨fid,caps,L,l,pre,fc,fcaps,post,fcaps',pre',post',rem,Fin,r,h1,h2,h3,h4,h5,h6,h7,h8,h9,h10,h11,h12,h13,h14,fun l' hf => by
   obtain ⟨os,k1,k2,k3⟩:=h15 l' hf
   exact ⟨os,k1,k2,hk _ k3⟩⟩))))
 ·obtain ⟨fid,caps,args,Post,h1,h2,h3,h4,h5,h6⟩:=h
  exact .inr (.inr (.inr (.inr (.inr (.inl ⟨fid,caps,args,Post,h1,h2,h3,h4,h5,fun r os hp => by
   obtain ⟨L,r',os',k1,k2,k3,k4,k5,k6⟩:=h6 r os hp
   exact ⟨L,r',os',k1,k2,k3,k4,k5,hk _ k6⟩⟩)))))
 ·exact .inr (.inr (.inr (.inr (.inr (.inr (rawI_mono hk h))))))
theorem AStep_mono {P:Program} {i:Ins} {K K':St → Prop} {σ:St} (hk:∀ σ,K σ → K' σ) (h:AStep P i K σ):AStep P i K' σ:=by
 unfold AStep at h ⊢
 split at h
 ·rename_i hs
  rw [if_pos hs]
  simp only [AStepS] at h ⊢
  split at h
  ·split at h
   ·exact acallS_mono hk h
   ·obtain ⟨dd,fid,caps,args,Post,k0,k1,k2,k3,k4,k5,k6,k7,k8⟩:=h
    refine ⟨dd,fid,caps,args,Post,k0,k1,k2,k3,k4,k5,k6,k7,fun r os hp => ?_⟩
    obtain ⟨o,r',o',b0,b1,b2,b3⟩:=k8 r os hp
    exact ⟨o,r',o',b0,b1,b2,hk _ b3⟩
   ·split at h
    ·exact ⟨h.1,hk _ h.2⟩
    ·split at h
     ·exact ⟨h.1,hk _ h.2⟩
     ·split at h
      ·exact ⟨h.1,hk _ h.2⟩
      ·split at h
       ·exact ⟨h.1,hk _ h.2⟩
       ·unfold nvw at h ⊢
        split at h
        ·exact rawI_mono hk h
        ·split at h
         ·exact ⟨h.1,fun b => hk _ (h.2 b)⟩
         ·exact h
        ·split at h
         ·refine ⟨h.1,h.2.1,h.2.2.1,h.2.2.2.1,h.2.2.2.2.1,h.2.2.2.2.2.1,h.2.2.2.2.2.2.1,?_⟩
          have h8:=h.2.2.2.2.2.2.2
          split at h8
          ·rename_i h0
           rw [if_pos h0]
           exact ⟨h8.1,hk _ h8.2⟩
          ·rename_i h0
           rw [if_neg h0]
           exact fun cap j h1 h2 h3 => hk _ (h8 cap j h1 h2 h3)
         ·exact h
        ·exact rawI_mono hk h
        ·exact rawI_mono hk h
        ·exact rawI_mono hk h
        ·exact rawI_mono hk h
        ·exact rawI_mono hk h
        ·exact rawI_mono hk h
        ·exact h
  ·split at h
   ·exact h
   ·split at h
    ·rcases h with ⟨r,h1,h2,h3⟩ | ⟨r,h1,h2,h3⟩ | h
     ·exact .inl ⟨r,h1,h2,hk _ h3⟩
     ·exact .inr (.inl ⟨r,h1,h2,hk _ h3⟩)
     ·exact .inr (.inr ⟨fun hg => acallS_mono hk (h.1 hg),fun hg => hk _ (h.2 hg)⟩)
    ·split at h
     ·exact ⟨h.1,hk _ h.2⟩
     ·split at h
      ·exact ⟨fun hg => ⟨(h.1 hg).1,hk _ (h.1 hg).2⟩,fun hg => hk _ (h.2 hg)⟩
      ·split at h
       ·exact ⟨h.1,hk _ h.2⟩
       ·split at h
        ·exact ⟨fun hg => ⟨(h.1 hg).1,hk _ (h.1 hg).2⟩,fun hg => hk _ (h.2 hg)⟩
        ·unfold nvwG at h ⊢
         split at h
         ·exact ⟨fun hg => rawI_mono hk (h.1 hg),fun hg => hk _ (h.2 hg)⟩
         ·exact ⟨h.1,hk _ h.2⟩
 ·rename_i hs
  rw [if_neg hs]
  exact astep_mono hk h
theorem astep_alone {P:Program} {i:Ins} {K:St → Prop} {σ:St} (hs:i.s = false):AStep P i K σ ↔ AStepP P i K σ:=by
 unfold AStep; rw [if_neg (by rw [hs]; simp)]
def AOps (P:Program):List Ins → (St → Prop) → St → Prop
 | [],K,σ => K σ
 | i :: is,K,σ => AStep P i (AOps P is K) σ
mutual
def ATree (P:Program):OT → (St → Prop) → St → Prop
 | .nil,K,σ => K σ
 | .cons i t,K,σ => AStep P i (ATree P t K) σ
 | .br ts,K,σ => ATrees P ts K σ
def ATrees (P:Program):List OT → (St → Prop) → St → Prop
 | [],_,_ => True
 | t :: ts,K,σ => ATree P t K σ ∧ ATrees P ts K σ
end
section
variable {P:Program} {ops:Array Oper} {is:List Ins} {K:St → Prop}
def AAny (P:Program) (ops:Array Oper) (is:List Ins) (K:St → Prop):Nat → Array Bool → St → Prop
 | 0,listed,σ => Region.ready .any ops listed = [] ∧ K σ
 | n + 1,listed,σ => (Region.ready .any ops listed = [] → K σ) ∧ ∀ i ∈ Region.ready .any ops listed,∃ ins,is[i]? = some ins ∧ AStep P ins (AAny P ops is K n (listed.setIfInBounds i true)) σ
def Closed (ops:Array Oper) (listed:Array Bool):Prop :=
 ∀ (m:Nat) (o:Oper) (e:Edge),ops[m]? = some o → listed.getD m false = true → e ∈ o.after → Region.binds .any e = true → listed.getD e.on false = true
theorem Closed.set_ {listed:Array Bool} (h:Closed ops listed) {i:Nat} (hi:i ∈ Region.ready .any ops listed):Closed ops (listed.setIfInBounds i true):=by
 intro m o e ho hm he hb
 obtain ⟨_,oi,hoi,hall⟩:=mem_ready.1 hi
 have hmono:∀ k,listed.getD k false = true → (listed.setIfInBounds i true).getD k false = true:=by
  intro k hk
  rw [Array.getD_eq_getD_getElem?] at hk ⊢
  rw [Array.getElem?_setIfInBounds]
  split
  ·split <;> simp_all
  ·exact hk
 by_cases hmi:m = i
 ·subst hmi
  rw [ho] at hoi
  cases hoi
  exact hmono _ (hall e he hb)
 ·refine hmono _ (h m o e ho ?_ he hb)
  rw [Array.getD_eq_getD_getElem?] at hm ⊢
  rwa [Array.getElem?_setIfInBounds_ne (Ne.symm hmi)] at hm
theorem anc_one {L:Nat → Prop} (acc:List Nat) (hacc:∀ j,L j → ∀ k,(acc.getD j 0).testBit k = true → L k):∀ (es:List Edge) (m:Nat),(∀ e ∈ es,Region.binds .any e = true → L e.on) → (∀ k,m.testBit k = true → L k) →
  ∀ k,(es.foldl (fun m e => if Region.binds .any e then m ||| 2 ^ e.on ||| acc.getD e.on 0 else m) m).testBit k = true → L k
 | [],m,_,hm,k,h => hm k h
 | e :: es,m,he,hm,k,h => by
  rw [List.foldl_cons] at h
  refine anc_one acc hacc es _ (fun e' h' => he e' (by simp [h'])) (fun k' hk' => ?_) k h
  split at hk'
  ·rename_i hb
   have hl:=he e (by simp) hb
   rw [Nat.testBit_or,Nat.testBit_or,Nat.testBit_two_pow] at hk'
   simp only [Bool.or_eq_true,decide_eq_true_eq] at hk'
   rcases hk' with (h1 | rfl) | h1
   ·exact hm _ h1
   ·exact hl
   ·exact hacc _ hl _ h1
  ·exact hm _ hk'
theorem anc_go {listed:Array Bool} (h:Closed ops listed):∀ (l:List Oper) (acc:List Nat),(∀ (i:Nat) (o:Oper),l[i]? = some o → ops[acc.length + i]? = some o) →
  (∀ j,listed.getD j false = true → ∀ k,(acc.getD j 0).testBit k = true → listed.getD k false = true) →
  ∀ j,listed.getD j false = true → ∀ k,((l.foldl ancStep acc).getD j 0).testBit k = true → listed.getD k false = true
 | [],acc,_,hacc => hacc
 | o :: l,acc,hl,hacc => by
  rw [List.foldl_cons]
  refine anc_go h l (ancStep acc o) (fun i o' hi => ?_) fun j hj k hk => ?_
  ·have:=hl (i + 1) o' (by simpa using hi)
   simp only [ancStep,List.length_append,List.length_cons,List.length_nil]
   rwa [show acc.length + (0 + 1) + i = acc.length + (i + 1) from by omega]
  ·unfold ancStep at hk
   rw [List.getD_eq_getElem?_getD] at hk
   rcases Nat.lt_trichotomy j acc.length with hlt | heq | hgt
   ·rw [List.getElem?_append_left hlt,← List.getD_eq_getElem?_getD] at hk
    exact hacc j hj k hk
   ·subst heq
    rw [List.getElem?_append_right (Nat.le_refl _),Nat.sub_self] at hk
    have ho:=hl 0 o rfl
    rw [Nat.add_zero] at ho
    refine anc_one (L:=fun k => listed.getD k false = true) acc hacc o.after.toList 0 (fun e he hb => h _ o e ho hj (by simpa using he) hb) (fun k hk => by simp at hk) k ?_
    simpa using hk
   ·rw [List.getElem?_eq_none (by simp; omega)] at hk
    simp at hk
theorem waits_in {listed:Array Bool} (h:Closed ops listed) {i:Nat} (hi:listed.getD i true = false) {m:Nat} (hm:listed.getD m false = true) (n:Nat):waits ops i n m = false:=by
 cases hw:waits ops i n m with
 | false => rfl
 | true =>
  have:=anc_go h ops.toList [] (fun i o hi => by simpa using hi) (fun j _ k hk => by simp at hk) m hm i hw
  rw [Array.getD_eq_getD_getElem?] at this hi
  cases hx:listed[i]? <;> rw [hx] at this hi <;> simp_all
theorem waits_ready {listed:Array Bool} (h:Closed ops listed) {i j:Nat} (hi:listed.getD i true = false) (hsz:listed.size = ops.size) (hj:j ∈ Region.ready .any ops listed) (n:Nat) (hji:j ≠ i):waits ops i n j = false:=by
 have hc:=h.set_ hj
 have hjlt:j < listed.size:=by
  obtain ⟨_,o,ho,_⟩:=mem_ready.1 hj
  have:=(Array.getElem?_eq_some_iff.1 ho).1
  omega
 refine waits_in (listed:=listed.setIfInBounds j true) hc ?_ ?_ n
 ·rw [Array.getD_eq_getD_getElem?] at hi ⊢
  rwa [Array.getElem?_setIfInBounds_ne hji]
 ·rw [Array.getD_eq_getD_getElem?,Array.getElem?_setIfInBounds,if_pos rfl,if_pos hjlt]
  rfl
theorem commX_alone {i j:Ins} (hc:(comm i j || commN i j) = true):i.s = false:=by
 simp only [Bool.or_eq_true] at hc
 rcases hc with hc | hc
 ·exact (comm_alone hc).1
 ·simp only [commN,Bool.and_eq_true,Bool.not_eq_true'] at hc
  exact hc.1.1.1.1.1.1.1.1.1.1
theorem commX_sound {i j:Ins} {K:St → Prop} {σ:St} (hc:(comm i j || commN i j) = true) (h:AStepP P i (fun σ1 => AStep P j K σ1) σ):AStep P j (fun σ1 => AStepP P i K σ1) σ:=by
 simp only [Bool.or_eq_true] at hc
 rcases hc with hc | hc
 ·have hsj:=(comm_alone hc).2
  rw [astep_alone hsj]
  exact comm_sound hc (astep_mono (fun σ1 h => (astep_alone hsj).1 h) h)
 ·exact commN_sound hc h
theorem aany_first {i:Nat} {ins:Ins} (hins:is[i]? = some ins) (hlen:∀ j:Nat,j < ops.size → (is[j]?).isSome = true):∀ (n:Nat) (listed:Array Bool) (σ:St),listed.size = ops.size → Closed ops listed →
  (∀ j ins',is[j]? = some ins' → j ≠ i → listed.getD j true = false → waits ops i ops.size j = false → (comm ins ins' || commN ins ins') = true) →
  i ∈ Region.ready .any ops listed → AStep P ins (AAny P ops is K n (listed.setIfInBounds i true)) σ → AAny P ops is K (n + 1) listed σ:=by
 intro n
 induction n with
 | zero =>
  intro listed σ hsz hcl hfree hr H
  refine ⟨fun h => (by rw [h] at hr; cases hr),fun j hj => ?_⟩
  by_cases hji:j = i
  ·subst hji; exact ⟨ins,hins,H⟩
  ·have h1:=ready_mono hj hji
   obtain ⟨hjun,oj,hoj,_⟩:=mem_ready.1 hj
   have hiun:=(mem_ready.1 hr).1
   have hjlt:j < ops.size:=(Array.getElem?_eq_some_iff.1 hoj).1
   obtain ⟨ins',hins'⟩:=Option.isSome_iff_exists.1 (hlen j hjlt)
   have hcomm:=hfree j ins' hins' hji hjun (waits_ready hcl hiun hsz hj _ hji)
   rw [astep_alone (commX_alone hcomm),astep_iff] at H
   obtain ⟨ε,_,h2,_⟩:=H
   rw [h2] at h1
   cases h1
 | succ n ih =>
  intro listed σ hsz hcl hfree hr H
  refine ⟨fun h => (by rw [h] at hr; cases hr),fun j hj => ?_⟩
  by_cases hji:j = i
  ·subst hji; exact ⟨ins,hins,H⟩
  ·obtain ⟨hjun,oj,hoj,_⟩:=mem_ready.1 hj
   have hiun:=(mem_ready.1 hr).1
   have hjlt:j < ops.size:=(Array.getElem?_eq_some_iff.1 hoj).1
   obtain ⟨ins',hins'⟩:=Option.isSome_iff_exists.1 (hlen j hjlt)
   refine ⟨ins',hins',?_⟩
   have hcomm:=hfree j ins' hins' hji hjun (waits_ready hcl hiun hsz hj _ hji)
   have hsi:=commX_alone hcomm
   have h1:AStepP P ins (fun σ1 => AStep P ins' (AAny P ops is K n ((listed.setIfInBounds i true).setIfInBounds j true)) σ1) σ:=by
    rw [astep_alone hsi] at H
    refine astep_mono (fun σ1 h => ?_) H
    obtain ⟨x,hx,hs⟩:=h.2 j (ready_mono hj hji)
    rw [hins'] at hx
    cases hx
    exact hs
   have h2:=commX_sound hcomm h1
   refine AStep_mono (fun σ1 h => ?_) h2
   refine ih (listed.setIfInBounds j true) σ1 (by simpa using hsz) (hcl.set_ hj) (fun k ins'' hk hki hun hw => ?_) (ready_mono hr (Ne.symm hji)) ?_
   ·refine hfree k ins'' hk hki ?_ hw
    by_cases hjk:j = k
    ·subst hjk; exact hjun
    ·rwa [getD_set_ne true hjk] at hun
   ·rw [Array.setIfInBounds_comm _ _ hji,astep_alone hsi]
    exact h
theorem ATrees_mem:∀ {ts:List OT} {σ:St},ATrees P ts K σ → ∀ t ∈ ts,ATree P t K σ
 | [],_,_,t,ht => by cases ht
 | u :: ts,σ,h,t,ht => by
  simp only [ATrees] at h
  rcases List.mem_cons.1 ht with rfl | ht
  ·exact h.1
  ·exact ATrees_mem h.2 t ht
theorem tree_sound (hlen:∀ j:Nat,j < ops.size → (is[j]?).isSome = true):∀ (n:Nat) (listed:Array Bool) (t:OT) (σ:St),listed.size = ops.size → Closed ops listed → tree ops is n listed = some t → ATree P t K σ → AAny P ops is K n listed σ
 | 0,listed,t,σ,_,_,ht,h => by
  simp only [tree] at ht
  split at ht
  ·rename_i he
   simp only [Option.some.injEq] at ht
   subst ht
   simp only [ATree] at h
   exact ⟨List.isEmpty_iff.1 he,h⟩
  ·cases ht
 | n + 1,listed,t,σ,hsz,hcl,ht,h => by
  simp only [tree] at ht
  split at ht
  ·rename_i he
   simp only [Option.some.injEq] at ht
   subst ht
   simp only [ATree] at h
   have he':=List.isEmpty_iff.1 he
   exact ⟨fun _ => h,fun i hi => by rw [he'] at hi; cases hi⟩
  ·rename_i hne
   have cons:∀ k t',k ∈ Region.ready .any ops listed → OT.consAt is k (tree ops is n (listed.setIfInBounds k true)) = some t' → ATree P t' K σ → ∃ ins,is[k]? = some ins ∧ AStep P ins (AAny P ops is K n (listed.setIfInBounds k true)) σ:=by
    intro k t' hk hct hat
    unfold OT.consAt at hct
    split at hct
    ·rename_i ins t'' hins ht''
     simp only [Option.some.injEq] at hct
     subst hct
     simp only [ATree] at hat
     exact ⟨ins,hins,AStep_mono (fun σ1 h1 => tree_sound hlen n _ _ σ1 (by simpa using hsz) (hcl.set_ hk) ht'' h1) hat⟩
    ·cases hct
   split at ht
   ·rename_i k hk
    have hkr:=List.mem_of_find?_eq_some hk
    have hkf:=List.find?_some hk
    obtain ⟨ins,hins,hs⟩:=cons k t hkr ht h
    refine aany_first hins hlen n listed σ hsz hcl (fun j ins' hj hji hun hw => ?_) hkr hs
    simp only [freeB,List.all_eq_true,List.mem_range,Bool.or_eq_true] at hkf
    have hjlt:j < ops.size:=by
     rcases Nat.lt_or_ge j listed.size with h | h
     ·omega
     ·rw [Array.getD_eq_getD_getElem?,Array.getElem?_eq_none h] at hun; cases hun
    have:=hkf j hjlt
    rw [hins,hj] at this
    simp only [beq_iff_eq,hji,hun,hw,Bool.false_eq_true,false_or,or_self] at this
    exact this
   ·split at ht
    ·rename_i k hk
     refine ⟨fun h0 => (by rw [h0] at hk; cases hk),fun j hj => ?_⟩
     rw [hk] at hj
     simp only [List.mem_singleton] at hj
     subst hj
     exact cons j t (by rw [hk]; simp) ht h
    ·simp only [Option.map_eq_some_iff] at ht
     obtain ⟨ts,hts,rfl⟩:=ht
     simp only [ATree] at h
     refine ⟨fun h0 => (by rw [h0] at hne; simp at hne),fun j hj => ?_⟩
     obtain ⟨k,hk⟩:=List.mem_iff_getElem?.1 hj
     obtain ⟨t',ht',hc⟩:=mapM_get hts hk
     exact cons j t' hj hc (ATrees_mem h t' (List.mem_of_getElem? ht'))
theorem list_sound:∀ (t:OT) (l:List Ins) (σ:St),t.list? = some l → AOps P l K σ → ATree P t K σ
 | .nil,l,σ,h,ha => by simp only [OT.list?,Option.some.injEq] at h; subst h; simpa only [ATree,AOps] using ha
 | .cons i t,l,σ,h,ha => by
  simp only [OT.list?,Option.map_eq_some_iff] at h
  obtain ⟨l',hl,rfl⟩:=h
  simp only [ATree]
  exact AStep_mono (fun σ1 h1 => list_sound t l' σ1 hl h1) ha
 | .br _,l,σ,h,_ => by simp [OT.list?] at h
def Wp (C:Ctx) (c:Code) (Q:Exit → St → Prop) (σ:St):Prop :=
 ∀ a w,Gam C σ a w → c.wpIn C.F 0 C.P (fun e a' w' => ∃ σ',Gam C σ' a' w' ∧ Q e σ') a w
def WV (C:Ctx) (v:VC) (Q:Exit → St → Prop) (σ:St):Prop:=∀ c,comp C.P C.N C.m c = some v → Wp C c Q σ
variable {C:Ctx} {σ:St} {Q:Exit → St → Prop}
theorem any_sound (hlen:∀ (j:Nat) (o:Oper),ops[j]? = some o → ∃ ins,is[j]? = some ins ∧ INS C.P C.N ops o ins) {Q':Exit → Act → World → Prop} (hQ:∀ σ a w,Gam C σ a w → K σ → Q' .normal a w) :
  ∀ (n:Nat) (listed:Array Bool) (σ:St) (a:Act) (w:World),Gam C σ a w → AAny C.P ops is K n listed σ → wpAnyIn C.F 0 C.P .any ops Q' n listed a w
 | 0,_,σ,a,w,hg,h => ⟨h.1,hQ σ a w hg h.2⟩
 | n + 1,listed,σ,a,w,hg,h => by
  refine ⟨fun h0 => hQ σ a w hg (h.1 h0),fun i hi => ?_⟩
  obtain ⟨_,o,ho,_⟩:=mem_ready.1 hi
  obtain ⟨ins,hins,hc⟩:=hlen i o ho
  obtain ⟨ins',hins',hs⟩:=h.2 i hi
  rw [hins] at hins'
  cases hins'
  have:=astep_sound hg hc hs (Q:=Q') (fun σ' a' w' hg' hk => any_sound hlen hQ n _ σ' a' w' hg' hk)
  unfold wpOpIn
  rw [ho]
  exact this
theorem ops_sound {Q':Exit → Act → World → Prop} (hQ:∀ σ a w,Gam C σ a w → K σ → Q' .normal a w):∀ (l:List Ins) (k:Nat) (σ:St) (a:Act) (w:World),(∀ (j:Nat) (ins:Ins),l[j]? = some ins → ∃ o,ops[k + j]? = some o ∧ INS C.P C.N ops o ins) →
  Gam C σ a w → AOps C.P l K σ → wpOpsIn C.F 0 C.P ops Q' (List.range' k l.length) a w
 | [],k,σ,a,w,_,hg,h => hQ σ a w hg h
 | i :: l,k,σ,a,w,hl,hg,h => by
  obtain ⟨o,ho,hc⟩:=hl 0 i rfl
  simp only [Nat.add_zero] at ho
  have ih:=fun σ a w => ops_sound hQ l (k + 1) σ a w (fun j ins hj => by have:=hl (j + 1) ins (by simpa using hj); rwa [show k + (j + 1) = k + 1 + j from by omega] at this)
  have:=astep_sound hg hc h (Q:=Q') (fun σ' a' w' hg' hk => ih σ' a' w' hg' hk)
  simp only [List.length_cons,List.range'_succ,wpOpsIn,ho]
  exact this
theorem mapM_len {α β:Type} {f:α → Option β}:∀ {l:List α} {r:List β},l.mapM f = some r → r.length = l.length
 | [],r,h => by simp at h; subst h; rfl
 | x :: l,r,h => by
  simp only [List.mapM_cons,Option.pure_def,Option.bind_eq_bind,Option.bind_eq_some_iff,Option.some.injEq] at h
  obtain ⟨y,_,ys,hys,rfl⟩:=h
  simp [mapM_len hys]
theorem mapM_get' {α β:Type} {f:α → Option β}:∀ {l:List α} {r:List β} {i:Nat} {y:β},l.mapM f = some r → r[i]? = some y → ∃ x,l[i]? = some x ∧ f x = some y
 | [],r,i,y,h,hy => by simp at h; subst h; simp at hy
 | z :: l,r,i,y,h,hy => by
  simp only [List.mapM_cons,Option.pure_def,Option.bind_eq_bind,Option.bind_eq_some_iff,Option.some.injEq] at h
  obtain ⟨u,hu,ys,hys,rfl⟩:=h
  match i,hy with
  | 0,hy => simp at hy; subst hy; exact ⟨z,rfl,hu⟩
  | i + 1,hy => simpa using mapM_get' hys (by simpa using hy)
theorem drawn_sound {id:Nat} {ops:Array Oper} {is:List Ins} (his:ops.toList.mapM (cOp C.P C.N ops) = some is) (hm:C.P.follows .mixedOrders = true) {t:OT} (ht:tree ops (soloed C.m ops is) ops.size (Array.replicate ops.size false) = some t)
  (h:ATree C.P t (Q .normal) σ):Wp C (.region id ops true) Q σ:=by
 intro a w hg
 have hlen:=mapM_len his
 have hget:∀ (j:Nat) (o:Oper),ops[j]? = some o → ∃ ins,(soloed C.m ops is)[j]? = some ins ∧ INS C.P C.N ops o ins:=fun j o ho => by
  obtain ⟨ins,h1,h2⟩:=mapM_get his (by simpa using ho)
  obtain ⟨v1,v2,v3,_⟩:=vwI_vw C.m ins
  refine ⟨{ vwI C.m ins with s:=soloB ops j || forced C.m (vwI C.m ins) },by simp [soloed,h1],ins.s,ins.i,?_,v1⟩
  rw [h2]
  obtain ⟨d,i,g,s⟩:=ins
  simp only at v2 v3 ⊢
  rw [v2,v3]
 have hlen2:(soloed C.m ops is).length = is.length:=by simp [soloed]
 have hcl:Closed ops (Array.replicate ops.size false):=by
  intro m o e ho hm he hb
  rw [Array.getD_eq_getD_getElem?,Array.getElem?_replicate] at hm
  split at hm <;> cases hm
 have:=tree_sound (P:=C.P) (fun j hj => by rw [List.getElem?_eq_getElem (by simp at hlen; omega)]; rfl) ops.size _ t σ (by simp) hcl ht h
 obtain ⟨loc,hg⟩:=hg
 exact wpIn_region_any hm (any_sound hget (fun σ a w hg hk => ⟨σ,hg,hk⟩) _ _ σ a _ ⟨loc,hg.drew⟩ this)
theorem cDraw_list {P:Program} {m:List Nat} {ops:Array Oper} {is is':List Ins} (h:cDraw P m ops is = some (.ops is')):False:=by
 unfold cDraw at h
 split at h
 ·split at h
  ·split at h <;> cases h
  ·cases h
 ·cases h
theorem WV_region {is:List Ins} {c:Code} (hc:comp C.P C.N C.m c = some (.ops is)):∃ id ops,c = .region id ops false ∧ ∀ (j:Nat) (ins:Ins),is[j]? = some ins → ∃ o,ops[j]? = some o ∧ INS C.P C.N ops o ins:=by
 cases c <;> simp only [comp,reduceCtorEq,Option.some.injEq] at hc <;> (try (simp [Option.bind_eq_some_iff,Option.map_eq_some_iff] at hc; done))
 rename_i id ops draw
 split at hc
 ·rename_i is' his
  split at hc
  ·exact (cDraw_list hc).elim
  ·rename_i hd
   simp only [Option.some.injEq,VC.ops.injEq] at hc
   subst hc
   have hd':draw = false:=by simpa using hd
   subst hd'
   refine ⟨id,ops,rfl,fun j ins hj => ?_⟩
   rw [List.getElem?_map,Option.map_eq_some_iff] at hj
   obtain ⟨ins0,hj,rfl⟩:=hj
   obtain ⟨o,ho,hc⟩:=mapM_get' his hj
   obtain ⟨v1,v2,v3,v4⟩:=vwI_vw C.m ins0
   refine ⟨o,by simpa using ho,ins0.s,ins0.i,?_,v1⟩
   rw [v2,v3]
   exact hc
 ·cases hc
theorem WV_region_len {is:List Ins} {id:Nat} {ops:Array Oper} (hc:comp C.P C.N C.m (.region id ops false) = some (.ops is)):is.length = ops.size:=by
 simp only [comp] at hc
 split at hc
 ·rename_i is' his
  simp only [Bool.false_eq_true,if_false,Option.some.injEq,VC.ops.injEq] at hc
  subst hc
  have:=mapM_len his
  simp at this ⊢
  exact this
 ·cases hc
theorem WV_ops {is:List Ins} (h:AOps C.P is (Q .normal) σ):WV C (.ops is) Q σ:=by
 intro c hc
 obtain ⟨id,ops,rfl,hi⟩:=WV_region hc
 intro a w hg
 refine wpIn_region ?_
 have hlen:=WV_region_len hc
 have:=ops_sound (Q':=fun e a' w' => ∃ σ',Gam C σ' a' w' ∧ Q e σ') (fun σ a w hg hk => ⟨σ,hg,hk⟩) is 0 σ a w (fun j ins hj => by simpa using hi j ins hj) hg h
 rw [List.range_eq_range']
 rwa [hlen] at this
theorem WV_dops {is:List Ins} (h:AOps C.P is (Q .normal) σ):WV C (.dops is) Q σ:=by
 intro c hc
 cases c <;> simp only [comp,reduceCtorEq,Option.some.injEq] at hc <;> (try (simp [Option.bind_eq_some_iff,Option.map_eq_some_iff] at hc; done))
 rename_i id ops draw
 split at hc
 ·rename_i is' his
  split at hc
  ·rename_i hd
   subst hd
   unfold cDraw at hc
   split at hc
   ·rename_i hcond
    simp only [Bool.and_eq_true] at hcond
    split at hc
    ·rename_i t ht
     split at hc
     ·rename_i l hl
      simp only [Option.some.injEq,VC.dops.injEq] at hc
      subst hc
      exact drawn_sound his hcond.2 ht (list_sound t _ σ hl h)
     ·cases hc
    ·cases hc
   ·cases hc
  ·cases hc
 ·cases hc
theorem WV_drw {t:OT} (h:ATree C.P t (Q .normal) σ):WV C (.drw t) Q σ:=by
 intro c hc
 cases c <;> simp only [comp,reduceCtorEq,Option.some.injEq] at hc <;> (try (simp [Option.bind_eq_some_iff,Option.map_eq_some_iff] at hc; done))
 rename_i id ops draw
 split at hc
 ·rename_i is' his
  split at hc
  ·rename_i hd
   subst hd
   unfold cDraw at hc
   split at hc
   ·rename_i hcond
    simp only [Bool.and_eq_true] at hcond
    split at hc
    ·rename_i t' ht
     split at hc
     ·cases hc
     ·simp only [Option.some.injEq,VC.drw.injEq] at hc
      subst hc
      exact drawn_sound his hcond.2 ht h
    ·cases hc
   ·cases hc
  ·cases hc
 ·cases hc
end
end Go.V

/-
 The rules for code,and a contract out of a walk.
-/
namespace Go.V
variable {C:Ctx} {σ:St} {Q:Exit → St → Prop}
def thenQ (K:St → Prop) (Q:Exit → St → Prop):Exit → St → Prop
 | .normal,σ => K σ
 | e,σ => Q e σ
def inQ (id:Nat) (Q:Exit → St → Prop):Exit → St → Prop
 | .exit id',σ => if id' = id then Q .normal σ else Q (.exit id') σ
 | e,σ => Q e σ
theorem wpIn_loop_ghost {F:Fence} {m:Nat} {P:Program} {c:Code} {Q:Exit → Act → World → Prop} (I:Nat → Act → World → Prop) (n₀:Nat) {a:Act} {w:World} (h₀:I n₀ a w)
  (hr:∀ n a w,I n a w → c.wpIn F m P (Exit.then (fun a w => ∃ n',n' < n ∧ I n' a w) Q) a w):(Code.loop c).wpIn F m P Q a w:=by
 have key:∀ k n a w,n ≤ k → I n a w → Code.roundsIn F m P c Q (k + 1) a w:=by
  intro k
  induction k with
  | zero =>
   intro n a w hn hI
   have:n = 0:=by omega
   subst this
   rw [roundsIn_succ]
   refine wpIn_mono (hr 0 a w hI) ?_
   intro e a' w' h
   cases e with
   | normal => obtain ⟨n',h1,_⟩:=h; omega
   | _ => exact h
  | succ k ih =>
   intro n a w hn hI
   rw [roundsIn_succ]
   refine wpIn_mono (hr n a w hI) ?_
   intro e a' w' h
   cases e with
   | normal => obtain ⟨n',h1,h2⟩:=h; exact ih n' a' w' (by omega) h2
   | _ => exact h
 exact wpIn_loop_rounds (n₀ + 1) (key n₀ n₀ a w (Nat.le_refl _) h₀)
theorem WV.mono {v:VC} {Q':Exit → St → Prop} (h:WV C v Q σ) (hq:∀ e σ,Q e σ → Q' e σ):WV C v Q' σ:=fun c hc a w hg =>
 wpIn_mono (h c hc a w hg) fun e _ _ ⟨σ',hg',hQ⟩ => ⟨σ',hg',hq e σ' hQ⟩
theorem WV_skip (h:Q .normal σ):WV C .skip Q σ:=by
 intro c hc
 cases c <;> simp only [comp,reduceCtorEq,Option.some.injEq] at hc <;> (try (simp [Option.bind_eq_some_iff,Option.map_eq_some_iff] at hc; done))
 ·exact fun a w hg => wpIn_skip ⟨σ,hg,h⟩
 ·exfalso
  split at hc
  ·split at hc
   ·unfold cDraw at hc
    split at hc
    ·split at hc
     ·split at hc <;> cases hc
     ·cases hc
    ·cases hc
   ·cases hc
  ·cases hc
theorem comp_region {P:Program} {N:Nat} {m:List Nat} {id:Nat} {ops:Array Oper} {draw:Bool} {v:VC} (h:comp P N m (.region id ops draw) = some v):(∃ is,v = .ops is) ∨ (∃ is,v = .dops is) ∨ v = .bad ∨ ∃ t,v = .drw t:=by
 simp only [comp] at h
 split at h
 ·split at h
  ·unfold cDraw at h
   split at h
   ·split at h
    ·split at h <;> simp only [Option.some.injEq] at h <;> subst h
     ·exact .inr (.inl ⟨_,rfl⟩)
     ·exact .inr (.inr (.inr ⟨_,rfl⟩))
    ·cases h
   ·cases h
  ·simp only [Option.some.injEq] at h; subst h; exact .inl ⟨_,rfl⟩
 ·simp only [Option.some.injEq] at h; subst h; exact .inr (.inr (.inl rfl))
theorem WV_seq {x y:VC} (h:∀ K:St → Prop,(∀ σ',WV C y Q σ' → K σ') → WV C x (thenQ K Q) σ):WV C (.seq x y) Q σ:=by
 intro c hc
 cases c
 case seq a b =>
  simp only [comp,Option.bind_eq_bind,Option.bind_eq_some_iff,Option.some.injEq,VC.seq.injEq] at hc
  obtain ⟨x',hx,y',hy,rfl,rfl⟩:=hc
  intro a w hg
  refine wpIn_seq (wpIn_mono (h (WV C y' Q) (fun _ h => h) _ hx a w hg) ?_)
  rintro e a' w' ⟨σ',hg',hq⟩
  cases e with
  | normal => exact hq _ hy a' w' hg'
  | _ => exact ⟨σ',hg',hq⟩
 case region => rcases comp_region hc with ⟨_,h⟩ | ⟨_,h⟩ | h | ⟨_,h⟩ <;> cases h
 all_goals (simp [comp,Option.bind_eq_some_iff,Option.map_eq_some_iff] at hc)
theorem WV_cond {x:X} {t f:VC} {b:Bool} (hx:σ.val x = .c (.bool b)) (ht:b = true → WV C t Q σ) (hf:b = false → WV C f Q σ):WV C (.cond x t f) Q σ:=by
 intro c hc
 cases c
 case cond y a b' =>
  simp only [comp,Option.bind_eq_bind,Option.bind_eq_some_iff,Option.some.injEq,VC.cond.injEq] at hc
  obtain ⟨x',hx',t',ht',f',hf',rfl,rfl,rfl⟩:=hc
  intro a w hg
  have hg0:=hg
  obtain ⟨loc,hg1⟩:=hg
  have hr:=val_rep hg1 hx'
  rw [hx] at hr
  simp only [RepA,RepC] at hr
  refine wpIn_cond hr ?_
  cases b with
  | true => exact ht rfl _ ht' a w hg0
  | false => exact hf rfl _ hf' a w hg0
 case region => rcases comp_region hc with ⟨_,h⟩ | ⟨_,h⟩ | h | ⟨_,h⟩ <;> cases h
 all_goals (simp [comp,Option.bind_eq_some_iff,Option.map_eq_some_iff] at hc)
theorem WV_block {id:Nat} {x:VC} (h:WV C x (inQ id Q) σ):WV C (.block id x) Q σ:=by
 intro c hc
 cases c
 case block id' a =>
  simp only [comp,Option.map_eq_some_iff,VC.block.injEq] at hc
  obtain ⟨x',hx,rfl,rfl⟩:=hc
  intro a w hg
  refine wpIn_block (wpIn_mono (h _ hx a w hg) ?_)
  rintro e a' w' ⟨σ',hg',hq⟩
  cases e with
  | exit id =>
   simp only [Exit.inBlock,inQ] at hq ⊢
   split
   ·rename_i hid; rw [if_pos hid] at hq; exact ⟨σ',hg',hq⟩
   ·rename_i hid; rw [if_neg hid] at hq; exact ⟨σ',hg',hq⟩
  | _ => exact ⟨σ',hg',hq⟩
 case region => rcases comp_region hc with ⟨_,h⟩ | ⟨_,h⟩ | h | ⟨_,h⟩ <;> cases h
 all_goals (simp [comp,Option.bind_eq_some_iff,Option.map_eq_some_iff] at hc)
theorem WV_loop {x:VC} (I:Nat → St → Prop) (n₀:Nat) (h₀:I n₀ σ) (hr:∀ n σ,I n σ → WV C x (thenQ (fun σ' => ∃ n',n' < n ∧ I n' σ') Q) σ):WV C (.loop x) Q σ:=by
 intro c hc
 cases c
 case loop a =>
  simp only [comp,Option.map_eq_some_iff,VC.loop.injEq] at hc
  obtain ⟨x',hx,rfl⟩:=hc
  intro a w hg
  refine wpIn_loop_ghost (fun n a w => ∃ σ,Gam C σ a w ∧ I n σ) n₀ ⟨σ,hg,h₀⟩ ?_
  rintro n a w ⟨σ,hg,hI⟩
  refine wpIn_mono (hr n σ hI _ hx a w hg) ?_
  rintro e a' w' ⟨σ',hg',hq⟩
  cases e with
  | normal =>
   obtain ⟨n',hlt,hI'⟩:=hq
   exact ⟨n',hlt,σ',hg',hI'⟩
  | _ => exact ⟨σ',hg',hq⟩
 case region => rcases comp_region hc with ⟨_,h⟩ | ⟨_,h⟩ | h | ⟨_,h⟩ <;> cases h
 all_goals (simp [comp,Option.bind_eq_some_iff,Option.map_eq_some_iff] at hc)
theorem WV_exit {id:Nat} (h:Q (.exit id) σ):WV C (.exit id) Q σ:=by
 intro c hc
 cases c
 case exit id' =>
  simp only [comp,Option.some.injEq,VC.exit.injEq] at hc
  subst hc
  exact fun a w hg => wpIn_exit ⟨σ,hg,h⟩
 case region => rcases comp_region hc with ⟨_,h⟩ | ⟨_,h⟩ | h | ⟨_,h⟩ <;> cases h
 all_goals (simp [comp,Option.bind_eq_some_iff,Option.map_eq_some_iff] at hc)
theorem WV_ret (h:Q .ret σ):WV C .ret Q σ:=by
 intro c hc
 cases c
 case ret => exact fun a w hg => wpIn_ret ⟨σ,hg,h⟩
 case region => rcases comp_region hc with ⟨_,h⟩ | ⟨_,h⟩ | h | ⟨_,h⟩ <;> cases h
 all_goals (simp [comp,Option.bind_eq_some_iff,Option.map_eq_some_iff] at hc)
theorem WV_weak {v:VC} {σ':St} (h:∀ a w,Gam C σ a w → Gam C σ' a w) (hv:WV C v Q σ'):WV C v Q σ:=fun c hc a w hg => hv c hc a w (h a w hg)
def resA (σ:St):RV → Option (Prop × AV)
 | .t n => some ((σ.env n).dg = true,(σ.env n).dv)
 | .cell n one sz => pev σ (.ld one sz (.t n))
def resAll (σ:St):List RV → Option (Prop × List AV)
 | [] => some (True,[])
 | r :: rs =>
  match resA σ r,resAll σ rs with
  | some (q,v),some (p,vs) => some (q ∧ p,v :: vs)
  | _,_ => none
def tupA:List AV → AV
 | [v] => v
 | vs => .tup vs
def AVle (x y:AV):Prop:=∀ (w:World) (M:Cells) (loc:Nat → Value) (v:Value),RepA w M loc x v → RepA w M loc y v
theorem AVle.of {x y:AV} (h:x = y):AVle x y:=fun _ _ _ _ hr => h ▸ hr
def RetOk (rs:List RV) (r:AV) (σ:St):Prop :=
 match resAll σ rs with
 | some (q,vs) => q ∧ ∃ r',(tupA vs).port σ.own = some r' ∧ AVle r' r
 | none => False
def RetQ (rs:List RV) (r:AV):Exit → St → Prop
 | .normal,σ => RetOk rs r σ
 | .ret,σ => RetOk rs r σ
 | _,_ => False
theorem resA_sound {loc:Nat → Value} {a:Act} {w:World} (hg:G C σ loc a w) {rv:ResultVar} {r:RV} (hc:cRes C.P rv = some r) {q:Prop} {v:AV} (hr:resA σ r = some (q,v)) (hq:q) :
  ∃ u,(match rv with | .tmp t => (pure (a.tmps.getD t undef):Sem Value) | .cell b t => do loadVar t (← asAddr (a.tmps.getD b undef))).run C.P w = .ok u w ∧ RepA w (MM C σ.own loc) loc v u:=by
 cases rv with
 | tmp t =>
  simp only [cRes,Option.some.injEq] at hc
  subst hc
  simp only [resA,Option.some.injEq,Prod.mk.injEq] at hr
  obtain ⟨rfl,rfl⟩:=hr
  exact ⟨_,rfl,dv_rep (hg.slots t) hq⟩
 | cell b t =>
  simp only [cRes,Option.bind_eq_bind,Option.bind_eq_some_iff,Option.some.injEq] at hc
  obtain ⟨ag,hag,sz,hsz,rfl⟩:=hc
  simp only [resA] at hr
  obtain ⟨u,hu,hru⟩:=pev_ld (o:=⟨none,.load t (.tmp b),t, "",#[],none⟩) hg rfl hag hsz (x:=.tmp b) rfl hr hq
  refine ⟨u,?_,hru⟩
  simp only [execOp,Sem.run_bind,Sem.run_pure,Instr.loadAt,Act.eval] at hu
  cases hv:a.tmps.getD b undef <;> rw [hv] at hu <;> try (simp [Instr.sureAddr,Result.andThen] at hu; done)
  rename_i p
  cases p with
  | none => simp [Instr.sureAddr,Result.andThen] at hu
  | some ad =>
   simp only [Instr.sureAddr,Sem.run_pure,Result.andThen_ok] at hu
   have:(loadVar t ad).run C.P w = .ok u w:=by
    cases hl:(loadVar t ad).run C.P w with
    | ok x w1 => rw [hl] at hu; simp only [Result.andThen_ok,Result.ok.injEq,Next.value.injEq] at hu; rw [hu.1,hu.2]
    | halt x w1 => rw [hl] at hu; simp [Result.andThen] at hu
   simp only [hv,asAddr,Sem.run_bind,Sem.run_pure,Result.andThen_ok,this]
theorem resAll_sound {loc:Nat → Value} {a:Act} {w:World} (hg:G C σ loc a w):∀ (l:List ResultVar) (rs:List RV),l.mapM (cRes C.P) = some rs → ∀ {q:Prop} {vs:List AV},resAll σ rs = some (q,vs) → q →
  ∃ us,(l.mapM fun (x:ResultVar) => (match x with | .tmp t => (pure (a.tmps.getD t undef):Sem Value) | .cell b t => do loadVar t (← asAddr (a.tmps.getD b undef)))).run C.P w = .ok us w ∧ RepAs w (MM C σ.own loc) loc vs us
 | [],rs,h,q,vs,hr,hq => by
  simp at h; subst h
  simp only [resAll,Option.some.injEq,Prod.mk.injEq] at hr
  obtain ⟨rfl,rfl⟩:=hr
  exact ⟨[],by simp,by simp [RepAs]⟩
 | x :: l,rs,h,q,vs,hr,hq => by
  simp only [List.mapM_cons,Option.pure_def,Option.bind_eq_bind,Option.bind_eq_some_iff,Option.some.injEq] at h
  obtain ⟨y,hy,ys,hys,rfl⟩:=h
  simp only [resAll] at hr
  split at hr
  ·rename_i q1 v1 p1 vs1 h1 h2
   simp only [Option.some.injEq,Prod.mk.injEq] at hr
   obtain ⟨rfl,rfl⟩:=hr
   obtain ⟨u,hu,hru⟩:=resA_sound hg hy h1 hq.1
   obtain ⟨us,hus,hrus⟩:=resAll_sound hg l ys hys h2 hq.2
   refine ⟨u :: us,?_,by simp only [RepAs]; exact ⟨u,us,rfl,hru,hrus⟩⟩
   simp only [List.mapM_cons,Sem.run_bind]
   rw [hu,Result.andThen_ok,hus]
   simp
  ·cases hr
def St.init (args:List AV):St:=⟨fun t => args.getD t .non,fun _ => .none⟩
theorem init_slots {w:World} {M:Cells} {loc:Nat → Value} (N:Nat):∀ (args:List AV) (vs:List Value),RepAs w M loc args vs → ∀ t,RepA w M loc (args.getD t .non) ((vs.toArray ++ Array.replicate (N - vs.length) undef).getD t undef):=by
 intro args vs h t
 have hlen:=h.length
 by_cases ht:t < args.length
 ·have e1:args[t]? = some args[t]:=List.getElem?_eq_getElem ht
  obtain ⟨v,hv,hr⟩:=h.get t e1
  rw [List.getD_eq_getElem?_getD,e1]
  rw [Array.getD_eq_getD_getElem?,Array.getElem?_append_left (by simp; omega)]
  simpa [hv] using hr
 ·rw [List.getD_eq_getElem?_getD,List.getElem?_eq_none (by omega)]
  simp only [Option.getD_none,RepA]
theorem G.release {loc:Nat → Value} {a:Act} {w:World} (hg:G C σ loc a w) {D:Nat} {ds:List Deferred} (hds:a.defers = { target:=.collected D,args:=#[] } :: ds) (hD:w.heap[D]? = some markO) :
  G C σ loc { a with defers:=ds } (w.putObj D (.deferred none)):=by
 have hmem:∀ d,d ∈ ds → d ∈ a.defers:=fun d h => by rw [hds]; exact List.mem_cons_of_mem _ h
 obtain ⟨D',e1,hB,_,hF⟩:=hg.marks _ (by rw [hds]; exact List.mem_cons_self)
 simp only [Deferred.mk.injEq,Target.collected.injEq,and_true] at e1
 subst e1
 have hsz:(w.putObj D (.deferred none)).heap.size = w.heap.size:=by simp
 have hoth:∀ k,k ≠ D → (w.putObj D (.deferred none)).heap[k]? = w.heap[k]?:=fun k h => World.putObj_heap_other h
 have hcell:∀ p:Addr,(w.cell? p).isSome = true → p.block ≠ D:=by
  rintro p hp rfl
  unfold World.cell? at hp
  rw [hD] at hp
  cases p.spot <;> simp at hp
 have hk:Keeps w (w.putObj D (.deferred none)) (MM C σ.own loc) (MM C σ.own loc):=⟨fun p hp _ => World.cell?_of_block (hoth _ (hcell p hp)),fun p _ h => h⟩
 have hpw:=hg.mnd
 rw [hds,List.pairwise_cons] at hpw
 refine ⟨⟨hg.fr.os,hg.fr.tape,hg.fr.output,by rw [hsz]; exact hg.fr.size,fun k hk hx => (hoth k (by omega)).trans (hg.fr.block k hk hx)⟩,hg.m0,hg.kp.trans hk,fun x hx => ?_,hpw.2,hg.pin,hg.size,fun t => RepA.keep hk _ _ (hg.slots t),fun n => ?_,hg.disj⟩
 ·obtain ⟨D2,e1,e2,e3,e4⟩:=hg.marks x (hmem x hx)
  refine ⟨D2,e1,e2,(hoth D2 ?_).trans e3,e4⟩
  rintro rfl
  exact hpw.1 x hx (by rw [e1])
 ·exact ObOk.keep' hk (by rw [hsz]; exact Nat.le_refl _) (fun b hb => hoth b (by rintro rfl; exact hF ⟨n,hb⟩)) (hg.objs n)
theorem leaves_of_G {fn:Func} {R:Ending → World → Prop} {loc:Nat → Value}:∀ (ds:List Deferred) (a:Act) (w:World),a.defers = ds → G C σ loc a w →
  (∀ w',G C σ loc { a with defers:=[] } w' → ∃ v,(results fn a.tmps).run C.P w' = .ok v w' ∧ R (.returned v) w') → LeavesInM Fence.wide 0 C.P fn a.tmps R ds .returning w
 | [],a,w,hds,hg,h => by
  have:{ a with defers:=[] } = a:=by cases a; simp at hds; simp [hds]
  exact h w (by rw [this]; exact hg)
 | d :: ds,a,w,hds,hg,h => by
  obtain ⟨D,rfl,hB,hD,hF⟩:=hg.marks d (by rw [hds]; exact List.mem_cons_self)
  refine ⟨by simp,.inl ⟨D,_,rfl,run_takeDeferred hD,?_⟩⟩
  exact leaves_of_G ds { a with defers:=ds } _ rfl (hg.release hds hD) fun w' hg' => h w' hg'
theorem body_call {P:Program} {m:List Nat} {f:FuncId} {fc:FC} (hc:compM P m f = some fc):callable P f ∧ ∀ (C:Ctx) (Q:Exit → St → Prop) (σ₀:St) (loc₀:Nat → Value) (vs:List Value) (R:Ending → World → Prop),C.P = P → C.N = fc.N → C.m = m → C.rd = none → vs.length ≤ fc.np →
  WV C fc.body Q σ₀ → (∀ tm,tm.size = fc.N → (∀ t,tm.getD t undef = (vs.toArray ++ Array.replicate (fc.N - vs.length) undef).getD t undef) → G C σ₀ loc₀ { tmps:=tm,defers:=[] } C.w0) →
  (∀ (l:List ResultVar),l.mapM (cRes P) = some fc.rs → ∀ (σ:St) (loc:Nat → Value) (a:Act) (w:World),G C σ loc a w → (Q .normal σ ∨ Q .ret σ) →
   ∃ us,(l.mapM fun (x:ResultVar) => (match x with | .tmp t => (pure (a.tmps.getD t undef):Sem Value) | .cell b t => do loadVar t (← asAddr (a.tmps.getD b undef)))).run P w = .ok us w ∧ R (.returned (if h:us.toArray.size = 1 then us.toArray[0] else .tuple us.toArray)) w) →
  (∀ e σ,Q e σ → e = .normal ∨ e = .ret) → Calls P f vs.toArray C.w0 R:=by
 unfold compM at hc
 split at hc
 case h_2 => cases hc
 rename_i fn hfn
 split at hc
 case h_2 => cases hc
 rename_i c hbody
 simp only [Option.bind_eq_bind,Option.bind_eq_some_iff] at hc
 obtain ⟨vc,hvc,rs,hrs,hfin⟩:=hc
 split at hfin
 case isFalse => cases hfin
 rename_i hcond
 simp only [Bool.and_eq_true,bne_iff_ne,ne_eq,decide_eq_true_eq] at hcond
 simp only [Option.some.injEq] at hfin
 subst hfin
 refine ⟨⟨fn,hfn,by rw [hbody]; rfl,hcond.1⟩,fun C Q σ₀ loc₀ vs R hP hN hmm hrd hlen hwv hg hret hQ => ?_⟩
 subst hP
 simp only at hN hlen hg hret
 have hF:C.F = Fence.wide:=by unfold Ctx.F; rw [hrd]
 have hwp:=hwv c (by rw [hN,hmm]; exact hvc) { tmps:=vs.toArray ++ Array.replicate (fn.ntmps - vs.toArray.size) undef,defers:=[] } C.w0 ⟨loc₀,hg _ (by simp; omega) (fun t => by simp)⟩
 rw [hF] at hwp
 have hfinal:∀ σ a w,Gam C σ a w → (Q .normal σ ∨ Q .ret σ) → LeavesInM Fence.wide 0 C.P fn a.tmps R a.defers .returning w:=by
  rintro σ a w ⟨loc,hg'⟩ hq
  refine leaves_of_G a.defers a w rfl hg' fun w' hg2 => ?_
  obtain ⟨us,hh,hR⟩:=hret fn.results.toList hrs σ loc _ w' hg2 hq
  refine ⟨_,?_,hR⟩
  unfold results
  rw [Array.mapM_eq_mapM_toList]
  simp only at hh
  generalize (fn.results.toList.mapM fun (x:ResultVar) => (match x with | .tmp t => (pure (a.tmps.getD t undef):Sem Value) | .cell b t => do loadVar t (← asAddr (a.tmps.getD b undef)))) = m at hh
  simp only [bind_pure_comp,Sem.run_map,hh,Result.andThen_ok]
 refine (callsIn_wide (n:=0)).1 (callsIn_of_wp_marks hfn hbody trivial (wpIn_mono hwp ?_))
 rintro e a' w' ⟨σ',hg',hq⟩
 rcases hQ e σ' hq with rfl | rfl
 ·exact hfinal σ' a' w' hg' (.inl hq)
 ·exact hfinal σ' a' w' hg' (.inr hq)
theorem tup_rep {w:World} {M:Cells} {loc:Nat → Value}:∀ {avs:List AV} {us:List Value},RepAs w M loc avs us → RepA w M loc (tupA avs) (if h:us.toArray.size = 1 then us.toArray[0] else .tuple us.toArray)
 | [],us,hr => by
  simp only [RepAs] at hr
  subst hr
  simp only [tupA,RepA]
  exact ⟨[],by simp,by simp [RepAs]⟩
 | [v],us,hr => by
  simp only [RepAs] at hr
  obtain ⟨u,_,rfl,h1,rfl⟩:=hr
  simpa [tupA] using h1
 | v1 :: v2 :: avs,us,hr => by
  have hl:=hr.length
  simp only [tupA,RepA]
  refine ⟨us,?_,hr⟩
  rw [dif_neg (by simp at hl ⊢; omega)]
def Ctx.of (P:Program) (N:Nat) (m:List Nat) (w:World) (M:Cells):Ctx:={ P:=P,N:=N,m:=m,w0:=w,M0:=M,X:=fun _ => False,Mi:=fun b o => M b o ∨ Mut (fun _ => .none) (fun _ => undef) b o,rd:=none,l0:=fun _ => undef,pin:=fun _ => False }
theorem Mut_none (loc:Nat → Value) (b o:Nat):¬ Mut (fun _ => .none) loc b o:=fun ⟨n,h⟩ => Ob.has_none _ _ (Ob.has_of_mut h)
theorem G_init {P:Program} {N:Nat} {m:List Nat} {w:World} {M:Cells} {args:List AV} {vs:List Value} (hM:∀ b o,M b o → b < w.heap.size) (hr:RepAs w M (fun _ => undef) args vs) (hn:vs.length ≤ N) {tm:Array Value} (hs:tm.size = N)
  (ht:∀ t,tm.getD t undef = (vs.toArray ++ Array.replicate (N - vs.length) undef).getD t undef):G (Ctx.of P N m w M) (St.init args) (fun _ => undef) { tmps:=tm,defers:=[] } w:=by
 have hk:Keeps w w M (MM (Ctx.of P N m w M) (St.init args).own fun _ => undef):=Keeps.less fun b o h => h.elim id fun h => (Mut_none _ _ _ h).elim
 refine ⟨⟨rfl,rfl,rfl,Nat.le_refl _,fun _ _ _ => rfl⟩,fun b o h => ⟨hM b o h,fun h => h⟩,Keeps.refl _ _,fun d h => (by cases h),List.Pairwise.nil,fun n h => h.elim,hs,fun t => ?_,fun n => trivial,fun n m b _ h _ => Ob.has_none _ _ h⟩
 have:=RepA.keep hk _ _ (init_slots N args vs hr t)
 rw [← ht t] at this
 exact this
theorem FSpec_ofP {P:Program} {m:List Nat} {f:FuncId} {fc:FC} (hc:compM P m f = some fc) {args:List AV} {r:AV} (hn:args.length ≤ fc.np) (hnp:fc.np ≤ fc.N)
  (h:∀ C:Ctx,C.P = P → C.N = fc.N → C.Ok → (∀ n,¬ C.pin n) → AV.lensL args → WV C fc.body (RetQ fc.rs r) (St.init args)):FSpec P f args r:=by
 obtain ⟨hcl,hb⟩:=body_call hc
 refine ⟨hcl,fun w M vs hM hr => ?_⟩
 have hlen:=hr.length
 refine hb (Ctx.of P fc.N m w M) (RetQ fc.rs r) (St.init args) (fun _ => undef) vs _ rfl rfl rfl rfl (by omega) (h _ rfl rfl (fun _ h => by cases h) (fun n h => h) hr.lens) (fun tm hs ht => G_init hM hr (by omega) hs ht) (fun l₀ hl₀ σ loc a w' hg hq => ?_) (fun e σ hq => by cases e <;> first | exact .inl rfl | exact .inr rfl | exact hq.elim)
 have hret:RetOk fc.rs r σ:=hq.elim id id
 unfold RetOk at hret
 split at hret
 case h_2 => exact hret.elim
 rename_i q avs hres
 obtain ⟨hq,r',hport,hle⟩:=hret
 have hbelow:RowKit.Below w.heap.size w w':=⟨hg.fr.os,hg.fr.tape,hg.fr.output,hg.fr.size,fun k hk => hg.fr.block k hk (fun h => h)⟩
 have hk:Keeps w' w' (MM (Ctx.of P fc.N m w M) σ.own loc) M:=Keeps.less fun b o h => .inl h
 obtain ⟨us,hus,hrus⟩:=resAll_sound hg l₀ fc.rs hl₀ hres hq
 exact ⟨us,hus,_,rfl,hle _ _ _ _ (RepA.keep hk _ _ (port_rep hg (tup_rep hrus) hport)),hbelow⟩
theorem FSpec_of {P:Program} {m:List Nat} {f:FuncId} {fc:FC} (hc:compM P m f = some fc) {args:List AV} {r:AV} (hn:args.length ≤ fc.np) (hnp:fc.np ≤ fc.N)
  (h:∀ C:Ctx,C.P = P → C.N = fc.N → C.Ok → AV.lensL args → WV C fc.body (RetQ fc.rs r) (St.init args)):FSpec P f args r:=FSpec_ofP hc hn hnp fun C h1 h2 h3 _ h4 => h C h1 h2 h3 h4
end Go.V

/-
 States that are written out: what may be forgotten,loops over a family of states,calls.
-/
namespace Go.V
def e0:Nat → AV:=fun _ => .non
def o0:Nat → Ob:=fun _ => .none
theorem e0_app (t:Nat):e0 t = .non:=rfl
theorem o0_app (t:Nat):o0 t = .none:=rfl
theorem upd_app {α:Type} (f:Nat → α) (t s:Nat) (v:α):upd f t v s = if s = t then v else f s:=rfl
theorem prgE_app (d:Nat) (f:Nat → AV) (t:Nat):prgE d f t = (f t).prg d:=rfl
theorem prgO_app (d:Nat) (f:Nat → Ob) (t:Nat):prgO d f t = (f t).prg d:=rfl
def updL (f:Nat → AV):Nat → List AV → Nat → AV
 | _,[] => f
 | k,a :: as => updL (upd f k a) (k + 1) as
theorem updL_app:∀ (as:List AV) (f:Nat → AV) (k t:Nat),updL f k as t = if k ≤ t ∧ t < k + as.length then as.getD (t - k) .non else f t
 | [],f,k,t => by
  simp only [updL]
  rw [if_neg (by simp)]
 | a :: as,f,k,t => by
  simp only [updL]
  rw [updL_app as]
  by_cases h1:k + 1 ≤ t ∧ t < k + 1 + as.length
  ·rw [if_pos h1,if_pos (by simp; omega)]
   obtain ⟨n,rfl⟩ : ∃ n,t = k + 1 + n:=⟨t - (k + 1),by omega⟩
   rw [show k + 1 + n - (k + 1) = n from by omega,show k + 1 + n - k = n + 1 from by omega]
   simp
  ·rw [if_neg h1,upd_app]
   by_cases h2:t = k
   ·subst h2; rw [if_pos rfl,if_pos (by simp)]; simp
   ·rw [if_neg h2,if_neg (by simp; omega)]
theorem init_eq (args:List AV):St.init args = ⟨updL e0 0 args,o0⟩:=by
 refine St.ext ?_ rfl
 funext t
 simp only [St.init,updL_app,Nat.zero_le,true_and,Nat.zero_add,Nat.sub_zero]
 split
 ·rfl
 ·rename_i h
  rw [List.getD_eq_getElem?_getD,List.getElem?_eq_none (by omega)]
  rfl
def AWk (own:Nat → Ob) (x y:AV):Prop :=
 y = .non ∨ x = y ∨ (∃ n e sz es,x = .gr n ∧ own n = .grow e sz es ∧ y = .c (.sl sz es)) ∨ (∃ sz,x = .c (.raw (.slice none 0 0)) ∧ y = .c (.sl sz []))
theorem AWk.refl (own:Nat → Ob) (x:AV):AWk own x x:=.inr (.inl rfl)
theorem AWk.of {own:Nat → Ob} {x y:AV} (h:x = y):AWk own x y:=.inr (.inl h)
theorem AWk.grow {own:Nat → Ob} {n e sz:Nat} {es:List (List CD)} (h:own n = .grow e sz es):AWk own (.gr n) (.c (.sl sz es)):=.inr (.inr (.inl ⟨n,e,sz,es,rfl,h,rfl⟩))
theorem AWk.nil {own:Nat → Ob} (sz:Nat):AWk own (.c (.raw (.slice none 0 0))) (.c (.sl sz [])):=.inr (.inr (.inr ⟨sz,rfl,rfl⟩))
def EnvLe (own:Nat → Ob) (f g:Nat → AV):Prop:=∀ t,AWk own (f t) (g t)
theorem EnvLe_e0 (own:Nat → Ob) (f:Nat → AV):EnvLe own f e0:=fun _ => .inl rfl
theorem EnvLe_upd {own:Nat → Ob} {f g:Nat → AV} {t:Nat} {v:AV} (h:AWk own (f t) v) (hg:EnvLe own f g):EnvLe own f (upd g t v):=by
 intro s
 rw [upd_app]
 split
 ·rename_i e; subst e; exact h
 ·exact hg s
def ObjLe (f g:Nat → Ob):Prop:=∀ n,g n = f n ∨ g n = .none
theorem ObjLe_o0 (f:Nat → Ob):ObjLe f o0:=fun _ => .inr rfl
theorem ObjLe_upd {f g:Nat → Ob} {n:Nat} {o:Ob} (h:f n = o) (hg:ObjLe f g):ObjLe f (upd g n o):=by
 intro s
 rw [upd_app]
 split
 ·rename_i e; subst e; exact .inl h.symm
 ·exact hg s
def Sub (σ σ':St):Prop:=∀ (C:Ctx) a w,Gam C σ a w → Gam C σ' a w
theorem Sub_of {σ σ':St} (he:EnvLe σ.own σ.env σ'.env) (ho:ObjLe σ.own σ'.own):Sub σ σ':=by
 rintro C a w ⟨loc,hg⟩
 have hhas:∀ n b,(σ'.own n).has (loc n) b → (σ.own n).has (loc n) b:=by
  intro n b h
  rcases ho n with h1 | h1
  ·rwa [h1] at h
  ·rw [h1] at h; exact (Ob.has_none _ _ h).elim
 have hk:Keeps w w (MM C σ.own loc) (MM C σ'.own loc):=by
  refine Keeps.less fun b o h => ?_
  rcases h with h | ⟨n,h⟩
  ·exact .inl h
  ·rcases ho n with h1 | h1
   ·rw [h1] at h; exact .inr ⟨n,h⟩
   ·rw [h1] at h
    exact (Ob.has_none _ _ (Ob.has_of_mut h)).elim
 refine ⟨loc,hg.fr,hg.m0,hg.kp.trans hk,fun x hx => ?_,hg.mnd,hg.pin,hg.size,fun t => ?_,fun n => ?_,fun n m b hnm hn hm => hg.disj n m b hnm (hhas n b hn) (hhas m b hm)⟩
 ·obtain ⟨D,e1,e2,e3,e4⟩:=hg.marks x hx
  exact ⟨D,e1,e2,e3,fun ⟨n,h⟩ => e4 ⟨n,hhas n D h⟩⟩
 ·have hs:=hg.slots t
  rcases he t with h | h | ⟨n,e,sz,es,h1,h2,h3⟩ | ⟨sz,h1,h2⟩
  ·rw [h]; simp only [RepA]
  ·rw [← h]; exact RepA.keep hk _ _ hs
  ·rw [h1] at hs
   rw [h3]
   simp only [RepA] at hs ⊢
   rw [hs.1]
   exact RepC.keeps hk _ _ (hg.grow_data h2)
  ·rw [h1] at hs
   rw [h2]
   simp only [RepA,RepC] at hs ⊢
   exact ⟨none,0,hs.1,Nat.le_refl _,by simp [maxLen],.inl trivial⟩
 ·rcases ho n with h1 | h1
  ·rw [h1]
   exact ObOk.keep' hk (Nat.le_refl _) (fun _ _ => rfl) (hg.objs n)
  ·rw [h1]; trivial
def NilTo (d:Nat) (x y:AV):Prop:=y = x.prg d ∨ (x = .c (.raw (.slice none 0 0)) ∧ y = .gr d)
def NilTos (d:Nat):List AV → List AV → Prop
 | [],l => l = []
 | x :: xs,l => ∃ y ys,l = y :: ys ∧ NilTo d x y ∧ NilTos d xs ys
def NilOb (d:Nat):Ob → Ob → Prop
 | .box cs,o => ∃ cs',o = .box cs' ∧ NilTos d cs cs'
 | .win cs,o => ∃ cs',o = .win cs' ∧ NilTos d cs cs'
 | o,o' => o' = o
theorem nilTos_rep {w:World} {M:Cells} {loc loc':Nat → Value} {d:Nat} (hl:∀ m,m ≠ d → loc' m = loc m) (hd:loc' d = .slice none 0 0):∀ {xs ys:List AV} {l:List Value},NilTos d xs ys → RepAs w M loc xs l → RepAs w M loc' ys l
 | [],ys,l,h,hr => by simp only [NilTos] at h; subst h; simpa only [RepAs] using hr
 | x :: xs,ys,l,h,hr => by
  simp only [NilTos] at h
  obtain ⟨y,ys',rfl,h1,h2⟩:=h
  simp only [RepAs] at hr ⊢
  obtain ⟨v,vs,rfl,k1,k2⟩:=hr
  refine ⟨v,vs,rfl,?_,nilTos_rep hl hd h2 k2⟩
  rcases h1 with rfl | ⟨rfl,rfl⟩
  ·exact RepA.prg hl k1
  ·simp only [RepA,RepC] at k1 ⊢
   rw [hd]
   exact ⟨k1.1,by rw [k1.1]; rfl⟩
theorem NilOb.mut {d:Nat} {o o':Ob} (h:NilOb d o o') (v:Value):o'.mut v = o.mut v:=by
 cases o <;> simp only [NilOb] at h
 case box cs =>
  obtain ⟨cs',rfl,_⟩:=h
  cases v <;> first | rfl | (rename_i p; cases p <;> rfl)
 case win cs =>
  obtain ⟨cs',rfl,_⟩:=h
  cases v <;> first | rfl | (rename_i p; cases p <;> rfl)
 all_goals (subst h; rfl)
theorem NilOb.has {d:Nat} {o o':Ob} (h:NilOb d o o') (v:Value) (b:Nat):o'.has v b ↔ o.has v b:=by
 cases o <;> simp only [NilOb] at h
 case box cs =>
  obtain ⟨cs',rfl,_⟩:=h
  cases v <;> first | exact Iff.rfl | (rename_i p; cases p <;> exact Iff.rfl)
 case win cs =>
  obtain ⟨cs',rfl,_⟩:=h
  cases v <;> first | exact Iff.rfl | (rename_i p; cases p <;> exact Iff.rfl)
 all_goals (subst h; exact Iff.rfl)
theorem Sub_nil {σ σ':St} (d e sz:Nat) (hd1000:d < 1000) (hsz:0 < sz) (hd:σ.own d = .none) (he:∀ t,NilTo d (σ.env t) (σ'.env t)) (hod:σ'.own d = .grow e sz []) (ho:∀ n,n ≠ d → NilOb d (σ.own n) (σ'.own n)):Sub σ σ':=by
 rintro C a w ⟨loc,hg⟩
 have hl:∀ m,m ≠ d → upd loc d (.slice none 0 0) m = loc m:=fun m hm => by simp [upd,hm]
 have hld:upd loc d (.slice none 0 0) d = .slice none 0 0:=by simp [upd]
 have hhas:∀ n b,(σ'.own n).has (upd loc d (.slice none 0 0) n) b → n ≠ d ∧ (σ.own n).has (loc n) b:=by
  intro n b h
  by_cases hn:n = d
  ·subst hn; rw [hod,hld] at h; exact h.elim
  ·rw [hl n hn,(ho n hn).has] at h; exact ⟨hn,h⟩
 have hk:Keeps w w (MM C σ.own loc) (MM C σ'.own (upd loc d (.slice none 0 0))):=by
  refine Keeps.less fun b o h => ?_
  rcases h with h | ⟨n,h⟩
  ·exact .inl h
  ·by_cases hn:n = d
   ·subst hn; rw [hod,hld] at h; exact h.elim
   ·rw [hl n hn,(ho n hn).mut] at h
    exact .inr ⟨n,h⟩
 refine ⟨upd loc d (.slice none 0 0),hg.fr,hg.m0,hg.kp.trans hk,fun x hx => ?_,hg.mnd,fun n hn => ?_,hg.size,fun t => ?_,fun n => ?_,fun n m b hnm hn hm => hg.disj n m b hnm (hhas n b hn).2 (hhas m b hm).2⟩
 ·obtain ⟨D,e1,e2,e3,e4⟩:=hg.marks x hx
  exact ⟨D,e1,e2,e3,fun ⟨n,h⟩ => e4 ⟨n,(hhas n D h).2⟩⟩
 ·obtain ⟨p1,p2,p3⟩:=hg.pin n hn
  exact ⟨p1,(hl n (by omega)).trans p2,p3⟩
 ·have hs:=hg.slots t
  rcases he t with h | ⟨h1,h2⟩
  ·rw [h]; exact RepA.keep hk _ _ (RepA.prg hl hs)
  ·rw [h1] at hs
   rw [h2]
   simp only [RepA,RepC] at hs ⊢
   rw [hld]
   exact ⟨hs.1,by rw [hs.1]; rfl⟩
 ·by_cases hn:n = d
  ·subst hn
   rw [hod,hld]
   exact ⟨[],World.ownsRow_nil w 0 e sz,fun b hb => by simp [Value.ownBlock] at hb,⟨by simp,by simp [RepAs]⟩,hsz⟩
  ·rw [hl n hn]
   have hob:=hg.objs n
   have hno:=ho n hn
   cases hx:σ.own n <;> rw [hx] at hob hno <;> simp only [NilOb] at hno
   case box cs =>
    obtain ⟨cs',h1,h2⟩:=hno
    rw [h1]
    obtain ⟨b,l,e',k1,k2,k3,k4⟩:=hob
    exact ⟨b,l,e',k1,k2,k3,RepAs.keep hk _ _ (nilTos_rep hl hld h2 k4)⟩
   case none => rw [hno]; trivial
   case win cs =>
    obtain ⟨cs',h1,h2⟩:=hno
    rw [h1]
    obtain ⟨b,l,rest,e',k1,k3,k4⟩:=hob
    exact ⟨b,l,rest,e',k1,k3,RepAs.keep hk _ _ (nilTos_rep hl hld h2 k4)⟩
   case grow e' sz' es => rw [hno]; exact ObOk.keep (d:=d) hl hk (Nat.le_refl _) (fun _ _ => rfl) hob
   case guest g rem => rw [hno]; exact ObOk.keep (d:=d) hl hk (Nat.le_refl _) (fun _ _ => rfl) hob
   case mp kk ek l => rw [hno]; exact ObOk.keep (d:=d) hl hk (Nat.le_refl _) (fun _ _ => rfl) hob
section
variable {C:Ctx} {σ:St} {Q:Exit → St → Prop}
theorem WV_sub {v:VC} {σ':St} (h:Sub σ σ') (hv:WV C v Q σ'):WV C v Q σ:=WV_weak (h C) hv
theorem WV_seq_ {x y:VC} (h:WV C x (thenQ (WV C y Q) Q) σ):WV C (.seq x y) Q σ:=by
 refine WV_seq fun K hK => h.mono fun e σ' hq => ?_
 cases e with
 | normal => exact hK σ' hq
 | _ => exact hq
theorem WV_loopS {ι:Type} {x:VC} (S:ι → St) (Inv:ι → Prop) (μ:ι → Nat) (i₀:ι) (h₀:Inv i₀) (hs:Sub σ (S i₀))
  (hr:∀ i,Inv i → WV C x (thenQ (fun σ' => ∃ i',Inv i' ∧ μ i' < μ i ∧ Sub σ' (S i')) Q) (S i)):WV C (.loop x) Q σ:=by
 refine WV_loop (fun n σ => ∃ i,Inv i ∧ μ i = n ∧ Sub σ (S i)) (μ i₀) ⟨i₀,h₀,rfl,hs⟩ ?_
 rintro n σ ⟨i,hi,rfl,hsub⟩
 refine WV_sub hsub ((hr i hi).mono fun e σ' hq => ?_)
 cases e with
 | normal =>
  obtain ⟨i',h1,h2,h3⟩:=hq
  exact ⟨μ i',h2,i',h1,rfl,h3⟩
 | _ => exact hq
theorem ACall_of {P:Program} {d:Option Nat} {f:X} {xs:List X} {K:St → Prop} {fid:FuncId} {caps args:List AV} {r:AV} (hs:FSpec P fid args r) (h1:(σ.val f).dg = true) (h2:(xs.all fun x => (σ.val x).dg) = true) (h3:(σ.val f).dv = .fn fid caps)
  (h4:AV.portL σ.own (xs.map (fun x => (σ.val x).dv) ++ caps) = some args) (h5:r.pureB = true) (hK:K (σ.put d r)):ACall P d f xs K σ:=⟨fid,caps,args,r,h1,h2,h3,h4,h5,hs,hK⟩
theorem ACallG_of {P:Program} {G:Bool} {d:Option Nat} {f:X} {xs:List X} {K:St → Prop} {fid:FuncId} {caps args:List AV} {r:AV} (hs:G = true → FSpec P fid args r) (h1:(σ.val f).dg = true) (h2:G = true → (xs.all fun x => (σ.val x).dg) = true) (h3:(σ.val f).dv = .fn fid caps)
  (h4:AV.portL σ.own (xs.map (fun x => (σ.val x).dv) ++ caps) = some args) (h5:r.pureB = true) (hK:K (σ.put d (.opt G r))):ACallG P G d f xs K σ:=⟨r,h5,fun h => ⟨fid,caps,args,h1,h2 h,h3,h4,hs h⟩,hK⟩
end
theorem AWk.int {own:Nat → Ob} {k:IntKind} {a b:Int} (h:a = b):AWk own (.c (.int k a)) (.c (.int k b)):=AWk.of (by rw [h])
theorem w64 {n:Int} (h1:-9223372036854775808 ≤ n) (h2:n ≤ 9223372036854775807):IntKind.i64.wrap n = n:=by
 simp only [IntKind.wrap,IntKind.bits,IntKind.signed,IntKind.max]
 simp
 omega
end Go.V

/-
 Contracts out of walks: results that are new,and objects that are lent.
-/
namespace Go.V
variable {C:Ctx} {σ:St} {loc:Nat → Value} {a:Act} {w:World}
end Go.V

/-
 Contracts that borrow,out of walks.
-/
namespace Go.V
mutual
def AV.keepP (own:Nat → Ob):AV → Option AV
 | .c d => some (.c d)
 | .gr n => if 1000 ≤ n then some (.gr n) else match own n with | .grow _ sz es => some (.c (.sl sz es)) | _ => none
 | .bp n off => if 1000 ≤ n then some (.bp n off) else none
 | .vw sz n off len cap => if 1000 ≤ n then some (.vw sz n off len cap) else none
 | .agg cs => (AV.keepPL own cs).map .agg
 | .tup cs => (AV.keepPL own cs).map .tup
 | .fn f cs => (AV.keepPL own cs).map (.fn f)
 | .non => some .non
 | .opt _ _ => none
def AV.keepPL (own:Nat → Ob):List AV → Option (List AV)
 | [] => some []
 | a :: as =>
  match AV.keepP own a,AV.keepPL own as with
  | some x,some xs => some (x :: xs)
  | _,_ => none
end
def Ob.keepP (own:Nat → Ob):Ob → Option Ob
 | .box cs => (AV.keepPL own cs).map .box
 | .win cs => (AV.keepPL own cs).map .win
 | .grow e sz es => some (.grow e sz es)
 | .guest g rem => some (.guest g rem)
 | .mp kk ek l => some (.mp kk ek l)
 | .none => some .none
variable {C:Ctx} {σ:St} {loc:Nat → Value} {a:Act} {w:World}
mutual
theorem keepP_rep (hg:G C σ loc a w):∀ {x y:AV} {v:Value},RepA w (MM C σ.own loc) loc x v → x.keepP σ.own = some y → RepA w (MM C σ.own loc) loc y v
 | .c d,y,v,h,hp => by simp only [AV.keepP,Option.some.injEq] at hp; subst hp; exact h
 | .non,y,v,h,hp => by simp only [AV.keepP,Option.some.injEq] at hp; subst hp; exact h
 | .opt _ _,y,v,h,hp => by simp [AV.keepP] at hp
 | .gr n,y,v,h,hp => by
  simp only [AV.keepP] at hp
  split at hp
  ·simp only [Option.some.injEq] at hp; subst hp; exact h
  ·split at hp
   ·rename_i e sz es hn
    simp only [Option.some.injEq] at hp; subst hp
    simp only [RepA] at h ⊢
    rw [h.1]; exact hg.grow_data hn
   ·cases hp
 | .bp n off,y,v,h,hp => by
  simp only [AV.keepP] at hp
  split at hp
  ·simp only [Option.some.injEq] at hp; subst hp; exact h
  ·cases hp
 | .vw sz n off len cap,y,v,h,hp => by
  simp only [AV.keepP] at hp
  split at hp
  ·simp only [Option.some.injEq] at hp; subst hp; exact h
  ·cases hp
 | .agg cs,y,v,h,hp => by
  simp only [AV.keepP,Option.map_eq_some_iff] at hp
  obtain ⟨ys,hp,rfl⟩:=hp
  simp only [RepA] at h ⊢
  obtain ⟨l,rfl,hr⟩:=h
  exact ⟨l,rfl,keepPs_rep hg hr hp⟩
 | .tup cs,y,v,h,hp => by
  simp only [AV.keepP,Option.map_eq_some_iff] at hp
  obtain ⟨ys,hp,rfl⟩:=hp
  simp only [RepA] at h ⊢
  obtain ⟨l,rfl,hr⟩:=h
  exact ⟨l,rfl,keepPs_rep hg hr hp⟩
 | .fn f cs,y,v,h,hp => by
  simp only [AV.keepP,Option.map_eq_some_iff] at hp
  obtain ⟨ys,hp,rfl⟩:=hp
  simp only [RepA] at h ⊢
  obtain ⟨l,rfl,hr⟩:=h
  exact ⟨l,rfl,keepPs_rep hg hr hp⟩
theorem keepPs_rep (hg:G C σ loc a w):∀ {xs ys:List AV} {l:List Value},RepAs w (MM C σ.own loc) loc xs l → AV.keepPL σ.own xs = some ys → RepAs w (MM C σ.own loc) loc ys l
 | [],ys,l,h,hp => by simp only [AV.keepPL,Option.some.injEq] at hp; subst hp; exact h
 | x :: xs,ys,l,h,hp => by
  simp only [AV.keepPL] at hp
  split at hp
  ·rename_i y ys' h1 h2
   simp only [Option.some.injEq] at hp; subst hp
   simp only [RepAs] at h ⊢
   obtain ⟨v,vs,rfl,k1,k2⟩:=h
   exact ⟨v,vs,rfl,keepP_rep hg k1 h1,keepPs_rep hg k2 h2⟩
  ·cases hp
end
theorem ObOk.allow {P:Program} {A A':Nat → Prop} {M:Cells} {v:Value} {o:Ob} (hA:(∀ cs,o ≠ .win cs) → ∀ b,o.has v b → A' b) (h:ObOk P A w M loc v o):ObOk P A' w M loc v o:=by
 cases o with
 | none => trivial
 | box cs =>
  obtain ⟨b,l,e,rfl,h2,h3,h4⟩:=h
  exact ⟨b,l,e,rfl,hA (fun cs h => by cases h) b rfl,h3,h4⟩
 | win cs => exact h
 | grow e sz es =>
  obtain ⟨xs,h1,h2,h3⟩:=h
  exact ⟨xs,h1,fun b hb => hA (fun cs h => by cases h) b (Ob.has_own.2 hb),h3⟩
 | guest g rem =>
  obtain ⟨h1,Lg,rfl,h2,h3⟩:=h
  exact ⟨h1,Lg,rfl,h2,fun b hb => ⟨(h3 b hb).1,hA (fun cs h => by cases h) b ((footV_encV Lg b).2 hb)⟩⟩
 | mp kk ek l =>
  obtain ⟨b,es,clock,rfl,h2,h3,h4⟩:=h
  exact ⟨b,es,clock,rfl,hA (fun cs h => by cases h) b rfl,h3,h4⟩
theorem Ob.keepP_has {own:Nat → Ob} {o o':Ob} (h:o.keepP own = some o') (v:Value) (b:Nat):o'.has v b ↔ o.has v b:=by
 cases o <;> simp only [Ob.keepP,Option.map_eq_some_iff,Option.some.injEq] at h
 ·subst h; exact Iff.rfl
 ·obtain ⟨cs,_,rfl⟩:=h
  cases v <;> first | exact Iff.rfl | (rename_i p; cases p <;> exact Iff.rfl)
 ·subst h; exact Iff.rfl
 ·obtain ⟨cs,_,rfl⟩:=h
  cases v <;> first | exact Iff.rfl | (rename_i p; cases p <;> exact Iff.rfl)
 ·subst h; exact Iff.rfl
 ·subst h; exact Iff.rfl
theorem Ob.keepP_mut {own:Nat → Ob} {o o':Ob} (h:o.keepP own = some o') (v:Value):o'.mut v = o.mut v:=by
 cases o <;> simp only [Ob.keepP,Option.map_eq_some_iff,Option.some.injEq] at h
 ·subst h; rfl
 ·obtain ⟨cs,_,rfl⟩:=h
  cases v <;> first | rfl | (rename_i p; cases p <;> rfl)
 ·subst h; rfl
 ·obtain ⟨cs,_,rfl⟩:=h
  cases v <;> first | rfl | (rename_i p; cases p <;> rfl)
 ·subst h; rfl
 ·subst h; rfl
theorem ObOk.keepP {A:Nat → Prop} {v:Value} (hg:G C σ loc a w) {o o':Ob} (hk:o.keepP σ.own = some o') (h:ObOk C.P A w (MM C σ.own loc) loc v o):ObOk C.P A w (MM C σ.own loc) loc v o':=by
 cases o <;> simp only [Ob.keepP,Option.map_eq_some_iff,Option.some.injEq] at hk
 ·subst hk; trivial
 ·obtain ⟨cs,hcs,rfl⟩:=hk
  obtain ⟨b,l,e,h1,h2,h3,h4⟩:=h
  exact ⟨b,l,e,h1,h2,h3,keepPs_rep hg h4 hcs⟩
 ·subst hk; exact h
 ·obtain ⟨cs,hcs,rfl⟩:=hk
  obtain ⟨b,l,rest,e,h1,h3,h4⟩:=h
  exact ⟨b,l,rest,e,h1,h3,keepPs_rep hg h4 hcs⟩
 ·subst hk; exact h
 ·subst hk; exact h
end Go.V

/-
 Contracts that borrow,out of walks: the theorem.
-/
namespace Go.V
def Ob.isWin:Ob → Bool
 | .win _ => true
 | _ => false
structure KeepL (l:List Ob) (wl:List (List AV)) (σ:St) (l':List Ob):Prop where
 len:l'.length = l.length
 nowin:(l'.all fun o => !o.isWin) = true
 keep:∀ i,i < l.length → (σ.own (1000 + i)).keepP σ.own = some (l'.getD i .none)
 wins:∀ j,j < wl.length → σ.own (2000 + j) = .win (wl.getD j [])
 place:∀ i,i < l.length → (l.getD i .none).isPlace = true → (l'.getD i .none).isPlace = true
def RetOkL (rs:List RV) (l:List Ob) (wl:List (List AV)) (Post:AV → List Ob → Prop) (σ:St):Prop :=
 match resAll σ rs with
 | some (q,vs) => q ∧ ∃ r l',(tupA vs).keepP σ.own = some r ∧ KeepL l wl σ l' ∧ Post r l'
 | none => False
def RetQL (rs:List RV) (l:List Ob) (wl:List (List AV)) (Post:AV → List Ob → Prop):Exit → St → Prop
 | .normal,σ => RetOkL rs l wl Post σ
 | .ret,σ => RetOkL rs l wl Post σ
 | _,_ => False
def Ctx.lentC (P:Program) (N:Nat) (m:List Nat) (w:World) (M:Cells) (l:List Ob) (wl:List (List AV)) (loc:Nat → Value) (rd:Option Nat):Ctx :=
 { P:=P,N:=N,m:=m,w0:=w,M0:=M,X:=Foot (ownL 1000 l) loc,Mi:=AddM M (ownW l wl) loc,rd:=rd,l0:=loc,pin:=fun n => (ownW l wl n).isPlace = true }
theorem ownW_eq {l:List Ob} {wl:List (List AV)} (hl:l.length ≤ 1000) (n:Nat):(∃ i,i < l.length ∧ n = 1000 + i ∧ ownW l wl n = l.getD i .none ∧ ownL 1000 l n = l.getD i .none) ∨ (∃ j,j < wl.length ∧ n = 2000 + j ∧ ownW l wl n = .win (wl.getD j []) ∧ ownL 1000 l n = .none) ∨ (ownW l wl n = .none ∧ ownL 1000 l n = .none):=by
 rcases ownW_cases l wl n with ⟨i,o,rfl,h2,h3,h4⟩ | ⟨j,cs,rfl,h3,h4⟩ | h
 ·have hi:i < l.length:=(List.getElem?_eq_some_iff.1 h3).1
  exact .inl ⟨i,hi,rfl,by rw [h4,List.getD_eq_getElem?_getD,h3]; rfl,by rw [ownL_at h3,List.getD_eq_getElem?_getD,h3]; rfl⟩
 ·have hj:j < wl.length:=(List.getElem?_eq_some_iff.1 h3).1
  refine .inr (.inl ⟨j,hj,rfl,by rw [h4,List.getD_eq_getElem?_getD,h3]; rfl,ownL_out (.inr (by omega))⟩)
 ·refine .inr (.inr ⟨h,?_⟩)
  rcases ownL_cases l n with ⟨i,o,rfl,h3,h4⟩ | h4
  ·have hi:i < l.length:=(List.getElem?_eq_some_iff.1 h3).1
   rw [ownW_small (by omega)] at h
   exact h
  ·exact h4
theorem isPlace_val {o:Ob} (h:o.isPlace = true) {P:Program} {A:Nat → Prop} {w:World} {M:Cells} {loc:Nat → Value} {v:Value} (hob:ObOk P A w M loc v o):placeV v = true:=by
 cases o <;> simp only [Ob.isPlace,Bool.false_eq_true] at h
 ·obtain ⟨b,l,e,rfl,_⟩:=hob; rfl
 ·obtain ⟨b,l,r,e,rfl,_⟩:=hob; rfl
 ·obtain ⟨b,es,clock,rfl,_⟩:=hob; rfl
theorem Foot_LW {l:List Ob} {wl:List (List AV)} (hl:l.length ≤ 1000) {loc:Nat → Value} {b:Nat} (h:Foot (ownL 1000 l) loc b):Foot (ownW l wl) loc b:=by
 obtain ⟨n,hn⟩:=h
 rcases ownW_eq (wl:=wl) hl n with ⟨i,h1,h2,h3,h4⟩ | ⟨j,h1,h2,h3,h4⟩ | ⟨h3,h4⟩
 ·exact ⟨n,by rw [h3,← h4]; exact hn⟩
 ·rw [h4] at hn; exact (Ob.has_none _ _ hn).elim
 ·rw [h4] at hn; exact (Ob.has_none _ _ hn).elim
theorem G_initL {P:Program} {N:Nat} {m:List Nat} {w:World} {M:Cells} {l:List Ob} {wl:List (List AV)} {loc:Nat → Value} {rd:Option Nat} {env:Nat → AV} (hl:l.length ≤ 1000) (hN:N ≤ 1000) (hM:∀ b o,M b o → b < w.heap.size ∧ ¬ Foot (ownW l wl) loc b) (hok:LentOk P w M loc (ownW l wl))
  {tm:Array Value} (hs:tm.size = N) (hr:∀ t,RepA w (AddM M (ownW l wl) loc) loc (env t) (tm.getD t undef)):G (Ctx.lentC P N m w M l wl loc rd) ⟨env,ownW l wl⟩ loc { tmps:=tm,defers:=[] } w:=by
 refine ⟨⟨rfl,rfl,rfl,Nat.le_refl _,fun _ _ _ => rfl⟩,fun b o h => ⟨(hM b o h).1,fun hx => (hM b o h).2 (Foot_LW hl hx)⟩,Keeps.refl _ _,fun d h => (by cases h),List.Pairwise.nil,fun n h => ⟨?_,rfl,isPlace_val h (hok.objs n)⟩,hs,hr,fun n => ?_,fun n m b hnm h h' => hok.disj n m b hnm h h'⟩
 ·have h':(ownW l wl n).isPlace = true:=h
  show N ≤ n ∧ 1000 ≤ n
  rcases ownW_eq (wl:=wl) hl n with ⟨i,h1,h2,h3,h4⟩ | ⟨j,h1,h2,h3,h4⟩ | ⟨h3,h4⟩
  ·omega
  ·omega
  ·rw [h3] at h'; cases h'
 ·refine ObOk.allow (fun hw b hb => .inr ?_) (hok.objs n)
  refine ⟨n,?_⟩
  show (ownL 1000 l n).has (loc n) b
  have hb':(ownW l wl n).has (loc n) b:=hb
  rcases ownW_eq (wl:=wl) hl n with ⟨i,h1,h2,h3,h4⟩ | ⟨j,h1,h2,h3,h4⟩ | ⟨h3,h4⟩
  ·rw [h4,← h3]; exact hb'
  ·exact (hw _ h3).elim
  ·rw [h3] at hb'; exact (Ob.has_none _ _ hb').elim
theorem ownL_some {l:List Ob} {i:Nat} (h:i < l.length):ownL 1000 l (1000 + i) = l.getD i .none :=
 ownL_at (by rw [List.getD_eq_getElem?_getD,List.getElem?_eq_getElem h]; rfl)
theorem lentC_end {C:Ctx} {σ:St} {loc loc':Nat → Value} {a:Act} {w':World} {M:Cells} {l l':List Ob} {wl:List (List AV)} (hl:l.length ≤ 1000) (hM0:C.M0 = M) (hX:C.X = Foot (ownL 1000 l) loc) (hMi:C.Mi = AddM M (ownW l wl) loc) (hl0:C.l0 = loc)
  (hpin:C.pin = fun n => (ownW l wl n).isPlace = true) (hg:G C σ loc' a w') (hk:KeepL l wl σ l') :
  Fx C.w0 w' (Foot (ownL 1000 l) loc) ∧ Keeps C.w0 w' (AddM M (ownW l wl) loc) (AddM M (ownW l' wl) loc') ∧ LentOk C.P w' M loc' (ownW l' wl) ∧
   (∀ n b,(ownL 1000 l' n).has (loc' n) b → Foot (ownL 1000 l) loc b ∨ C.w0.heap.size ≤ b) ∧ (∀ n,(ownW l wl n).isPlace = true → (ownW l' wl n).isPlace = true ∧ loc' n = loc n) ∧
   (∀ r r' v,r.keepP σ.own = some r' → RepA w' (MM C σ.own loc') loc' r v → RepA w' (AddM M (ownW l' wl) loc') loc' r' v):=by
 obtain ⟨hll,hnw,hkl,hkw,hpl⟩:=hk
 have own_eq:∀ n,(σ.own n).keepP σ.own = some (ownW l' wl n) ∨ σ.own n = ownW l' wl n ∨ ownW l' wl n = .none:=by
  intro n
  rcases ownW_eq (l:=l') (wl:=wl) (by omega) n with ⟨i,h1,rfl,h3,h4⟩ | ⟨j,h1,rfl,h3,h4⟩ | ⟨h3,h4⟩
  ·left; rw [h3]; exact hkl i (by omega)
  ·right; left; rw [h3,hkw j h1]
  ·exact .inr (.inr h3)
 have hhas:∀ n b,(ownW l' wl n).has (loc' n) b → (σ.own n).has (loc' n) b:=by
  intro n b hb
  rcases own_eq n with h | h | h
  ·exact (Ob.keepP_has h _ _).1 hb
  ·rw [h]; exact hb
  ·rw [h] at hb; exact (Ob.has_none _ _ hb).elim
 have hmut:∀ n b o,(ownW l' wl n).mut (loc' n) b o → (σ.own n).mut (loc' n) b o:=by
  intro n b o hb
  rcases own_eq n with h | h | h
  ·rwa [Ob.keepP_mut h] at hb
  ·rw [h]; exact hb
  ·rw [h] at hb; exact (Ob.has_none _ _ (Ob.has_of_mut hb)).elim
 have hk:Keeps w' w' (MM C σ.own loc') (AddM M (ownW l' wl) loc'):=Keeps.less fun b o hb => by
  rcases hb with hb | ⟨n,hn⟩
  ·exact .inl (hM0 ▸ hb)
  ·exact .inr ⟨n,hmut n b o hn⟩
 refine ⟨⟨hg.fr.os,hg.fr.tape,hg.fr.output,hg.fr.size,fun k hk1 hk2 => hg.fr.block k hk1 (hX ▸ hk2)⟩,hMi ▸ hg.kp.trans hk,⟨fun n => ?_,fun n m b hnm hb hb' => hg.disj n m b hnm (hhas n b hb) (hhas m b hb')⟩,fun n b hb => ?_,fun n hp => ?_,fun r r' v hr hv => RepA.keep hk _ _ (keepP_rep hg hv hr)⟩
 ·refine ObOk.keep' hk (Nat.le_refl _) (fun _ _ => rfl) ?_
  rcases own_eq n with h | h | h
  ·exact ObOk.allow (fun _ _ _ => trivial) (ObOk.keepP hg h (hg.objs n))
  ·rw [← h]; exact ObOk.allow (fun _ _ _ => trivial) (hg.objs n)
  ·rw [h]; trivial
 ·rcases ownW_eq (l:=l') (wl:=wl) (by omega) n with ⟨i,h1,rfl,h3,h4⟩ | ⟨j,h1,rfl,h3,h4⟩ | ⟨h3,h4⟩
  ·rw [h4,← h3] at hb
   have hb':=hhas _ _ hb
   have hA:C.A b:=by
    have hob:=hg.objs (1000 + i)
    rw [h3] at hb
    cases hx:σ.own (1000 + i) <;> rw [hx] at hob hb'
    case none => exact (Ob.has_none _ _ hb').elim
    case box cs => obtain ⟨b1,l1,e1,k1,k2,_⟩:=hob; rw [k1] at hb'; cases hb'; exact k2
    case win cs =>
     exfalso
     have h6:=hkl i (by omega)
     rw [hx] at h6
     simp only [Ob.keepP,Option.map_eq_some_iff] at h6
     obtain ⟨cs',_,h6⟩:=h6
     have h7:l'.getD i .none ∈ l':=by
      rw [List.getD_eq_getElem?_getD,List.getElem?_eq_getElem h1]; exact List.getElem_mem h1
     have h8:=List.all_eq_true.1 hnw _ h7
     rw [← h6] at h8
     cases h8
    case grow e sz es => obtain ⟨xs,k1,k2,_⟩:=hob; exact k2 b (Ob.has_own.1 hb')
    case guest g rem => obtain ⟨k0,Lg,k1,k2,k3⟩:=hob; rw [k1] at hb'; exact (k3 b ((footV_encV Lg b).1 hb')).2
    case mp kk ek l => obtain ⟨b1,es,clock,k1,k2,_⟩:=hob; rw [k1] at hb'; cases hb'; exact k2
   exact (hX ▸ hA:C.B ≤ b ∨ Foot (ownL 1000 l) loc b).symm
  ·rw [h4] at hb; exact (Ob.has_none _ _ hb).elim
  ·rw [h4] at hb; exact (Ob.has_none _ _ hb).elim
 ·have hpn:=hg.pin n (by rw [hpin]; exact hp)
  refine ⟨?_,hl0 ▸ hpn.2.1⟩
  rcases ownW_eq (l:=l) (wl:=wl) hl n with ⟨i,h1,rfl,h3,h4⟩ | ⟨j,h1,rfl,h3,h4⟩ | ⟨h3,h4⟩
  ·rw [h3] at hp
   have h5:=hpl i h1 hp
   rcases ownW_eq (l:=l') (wl:=wl) (by omega) (1000 + i) with ⟨i',h1',h2',h3',h4'⟩ | ⟨j,h1',h2',h3',h4'⟩ | ⟨h3',h4'⟩
   ·have:i' = i:=by omega
    subst this
    rw [h3']; exact h5
   ·omega
   ·have:=ownL_at (l:=l') (i:=i) (o:=l'.getD i .none) (by rw [List.getD_eq_getElem?_getD,List.getElem?_eq_getElem (by omega)]; rfl)
    rw [this] at h4'
    rw [h4'] at h5; cases h5
  ·rw [ownW_big (cs:=wl.getD j []) (by rw [List.getD_eq_getElem?_getD,List.getElem?_eq_getElem h1]; rfl)]; rfl
  ·rw [h3] at hp; cases hp
theorem FSpecL_of {P:Program} {m:List Nat} {f:FuncId} {fc:FC} (hc:compM P m f = some fc) {args:List AV} {l:List Ob} {wl:List (List AV)} {Post:AV → List Ob → Prop} (hl:l.length ≤ 1000) (hn:args.length ≤ fc.np) (hnp:fc.np ≤ fc.N) (hN:fc.N ≤ 1000)
  (h:∀ C:Ctx,C.P = P → C.N = fc.N → C.Ok → AV.lensL args → WV C fc.body (RetQL fc.rs l wl Post) ⟨fun t => args.getD t .non,ownW l wl⟩):FSpecL P f args l wl Post:=by
 obtain ⟨hcl,hb⟩:=body_call hc
 refine ⟨hcl,hl,fun w M loc vs hM hok hr => ?_⟩
 have hlen:=hr.length
 refine hb (Ctx.lentC P fc.N m w M l wl loc none) (RetQL fc.rs l wl Post) _ loc vs _ rfl rfl rfl rfl (by omega) (h _ rfl rfl (fun _ h => by cases h) hr.lens) (fun tm hs ht => G_initL hl hN hM hok hs (fun t => by rw [ht t]; exact init_slots fc.N args vs hr t)) (fun l₀ hl₀ σ loc' a w' hg hq => ?_) (fun e σ hq => by cases e <;> first | exact .inl rfl | exact .inr rfl | exact hq.elim)
 have hret:RetOkL fc.rs l wl Post σ:=hq.elim id id
 unfold RetOkL at hret
 split at hret
 case h_2 => exact hret.elim
 rename_i q avs hres
 obtain ⟨hq,r,l',hkr,hkl,hpost⟩:=hret
 obtain ⟨us,hus,hrus⟩:=resAll_sound hg l₀ fc.rs hl₀ hres hq
 obtain ⟨k1,k2,k3,k4,k5,k6⟩:=lentC_end hl rfl rfl rfl rfl rfl hg hkl
 exact ⟨us,hus,_,r,l',loc',rfl,hpost,hkl.len,k1,k2,k3,k4,k5,k6 _ _ _ hkr (tup_rep hrus)⟩
end Go.V

/-
 A range over a function: a guest out of its rounds.
-/
namespace Go.V
section
variable {C:Ctx} {σ:St} {loc:Nat → Value} {a:Act} {w:World}
end
def updPs:(Nat → AV) → List (Nat × AV) → Nat → AV
 | env,[] => env
 | env,(p,v) :: r => updPs (upd env p v) r
end Go.V

/-
 A range over a function.
-/
namespace Go.V
section
variable {C:Ctx} {σ:St} {loc:Nat → Value} {a:Act} {w:World}
end
end Go.V

/-
 A box that is not written any more turns into data.
-/
namespace Go.V
mutual
def AV.frz (n:Nat) (ds:List CD):AV → AV
 | .bp m o => if m = n then .c (.pt (ds.drop o)) else .bp m o
 | .vw sz m off len cap => if m = n then (if off + len * sz ≤ ds.length then .c (.sl sz (grp sz len ((ds.drop off).take (len * sz)))) else .non) else .vw sz m off len cap
 | .agg cs => .agg (AV.frzL n ds cs)
 | .tup cs => .tup (AV.frzL n ds cs)
 | .fn f cs => .fn f (AV.frzL n ds cs)
 | .opt g x => .opt g (AV.frz n ds x)
 | .gr m => .gr m
 | .non => .non
 | .c x => .c x
def AV.frzL (n:Nat) (ds:List CD):List AV → List AV
 | [] => []
 | a :: as => AV.frz n ds a :: AV.frzL n ds as
end
def Ob.frz (n:Nat) (ds:List CD):Ob → Ob
 | .box cs => .box (AV.frzL n ds cs)
 | .win cs => .win (AV.frzL n ds cs)
 | o => o
def frzE (n:Nat) (ds:List CD) (f:Nat → AV):Nat → AV:=fun t => (f t).frz n ds
def frzO (n:Nat) (ds:List CD) (f:Nat → Ob):Nat → Ob:=fun m => if m = n then .none else (f m).frz n ds
theorem frzE_app (n:Nat) (ds:List CD) (f:Nat → AV) (t:Nat):frzE n ds f t = (f t).frz n ds:=rfl
theorem frzO_app (n:Nat) (ds:List CD) (f:Nat → Ob) (m:Nat):frzO n ds f m = if m = n then .none else (f m).frz n ds:=rfl
section
variable {w:World} {M:Cells} {loc:Nat → Value} {n b:Nat} {ds:List CD}
theorem RepL.take':∀ (k:Nat) (cs:List CD) (ad:Addr),RepL w M cs ad → RepL w M (cs.take k) ad
 | 0,cs,ad,_ => by simp [RepL]
 | k + 1,[],ad,_ => by simp [RepL]
 | k + 1,c :: cs,ad,h => by
  simp only [RepL] at h
  simp only [List.take_succ_cons,RepL]
  exact ⟨h.1,RepL.take' k cs _ h.2⟩
theorem repE_grp (sz:Nat):∀ (len:Nat) (cs:List CD) (ad:Addr),len * sz ≤ cs.length → RepL w M cs ad → RepE w M sz (grp sz len cs) ad
 | 0,cs,ad,_,_ => by simp [grp,RepE]
 | len + 1,cs,ad,hl,h => by
  have hm:(len + 1) * sz = len * sz + sz:=by rw [Nat.add_mul]; omega
  simp only [grp,RepE]
  exact ⟨⟨by rw [List.length_take]; omega,RepL.take' sz cs ad h⟩,repE_grp sz len _ _ (by rw [List.length_drop]; omega) (RepL.drop sz cs ad h)⟩
mutual
theorem frz_rep (hl:loc n = .pointer (some ⟨b,0,none⟩)) (hd:RepL w M ds ⟨b,0,none⟩):∀ {x:AV} {v:Value},RepA w M loc x v → RepA w M loc (x.frz n ds) v
 | .non,v,h => h
 | .c d,v,h => h
 | .gr m,v,h => h
 | .bp m o,v,h => by
  simp only [AV.frz]
  split
  ·rename_i hm; subst hm
   simp only [RepA,RepC] at h ⊢
   obtain ⟨b',e1,e2⟩:=h
   rw [hl] at e1
   simp only [Value.pointer.injEq,Option.some.injEq,Addr.mk.injEq,and_true] at e1
   subst e1
   refine ⟨_,e2,?_⟩
   have:=RepL.drop o ds _ hd
   have e:(⟨b,0,none⟩ : Addr).add o = ⟨b,o,none⟩:=by unfold Addr.add; split <;> simp_all
   rwa [e] at this
  ·exact h
 | .vw sz m off len cap,v,h => by
  simp only [AV.frz]
  split
  ·rename_i hm; subst hm
   split
   ·rename_i hfit
    simp only [RepA,RepC] at h ⊢
    obtain ⟨b',o',e1,rfl,ho,hlc,hcm⟩:=h
    rw [hl] at e1
    simp only [Value.pointer.injEq,Option.some.injEq,Addr.mk.injEq,and_true] at e1
    subst e1
    refine ⟨_,cap,by rw [grp_len],by rw [grp_len]; exact hlc,hcm,?_⟩
    by_cases h0:len = 0
    ·subst h0; exact .inl rfl
    ·have:=ho (by omega)
     subst this
     refine .inr ⟨_,rfl,repE_grp sz len _ _ (by rw [List.length_take,List.length_drop]; omega) (RepL.take' _ _ _ ?_)⟩
     have:=RepL.drop o' ds _ hd
     have e:(⟨b,0,none⟩ : Addr).add o' = ⟨b,o',none⟩:=by unfold Addr.add; split <;> simp_all
     rwa [e] at this
   ·simp only [RepA]
  ·exact h
 | .agg cs,v,h => by
  simp only [AV.frz,RepA] at h ⊢
  obtain ⟨l,hv,hr⟩:=h
  exact ⟨l,hv,frzs_rep hl hd hr⟩
 | .tup cs,v,h => by
  simp only [AV.frz,RepA] at h ⊢
  obtain ⟨l,hv,hr⟩:=h
  exact ⟨l,hv,frzs_rep hl hd hr⟩
 | .fn f cs,v,h => by
  simp only [AV.frz,RepA] at h ⊢
  obtain ⟨l,hv,hr⟩:=h
  exact ⟨l,hv,frzs_rep hl hd hr⟩
 | .opt g x,v,h => by
  simp only [AV.frz,RepA] at h ⊢
  exact ⟨fun hg => frz_rep hl hd (h.1 hg),h.2⟩
theorem frzs_rep (hl:loc n = .pointer (some ⟨b,0,none⟩)) (hd:RepL w M ds ⟨b,0,none⟩):∀ {xs:List AV} {l:List Value},RepAs w M loc xs l → RepAs w M loc (AV.frzL n ds xs) l
 | [],l,h => h
 | x :: xs,l,h => by
  simp only [AV.frzL,RepAs] at h ⊢
  obtain ⟨v,vs,e,h1,h2⟩:=h
  exact ⟨v,vs,e,frz_rep hl hd h1,frzs_rep hl hd h2⟩
end
theorem Ob.frz_has (o:Ob) (v:Value) (b:Nat):(o.frz n ds).has v b ↔ o.has v b:=by
 cases o <;> first | exact Iff.rfl | (cases v <;> first | exact Iff.rfl | (rename_i p; cases p <;> exact Iff.rfl))
theorem Ob.frz_mut (o:Ob) (v:Value):(o.frz n ds).mut v = o.mut v:=by
 cases o <;> first | rfl | (cases v <;> first | rfl | (rename_i p; cases p <;> rfl))
theorem ObOk.frz {P:Program} {A:Nat → Prop} {v:Value} {o:Ob} (hl:loc n = .pointer (some ⟨b,0,none⟩)) (hd:RepL w M ds ⟨b,0,none⟩) (h:ObOk P A w M loc v o):ObOk P A w M loc v (o.frz n ds):=by
 cases o with
 | none => trivial
 | box cs => obtain ⟨b1,l,e,h1,h2,h3,h4⟩:=h; exact ⟨b1,l,e,h1,h2,h3,frzs_rep hl hd h4⟩
 | win cs => obtain ⟨b1,l,r,e,h1,h3,h4⟩:=h; exact ⟨b1,l,r,e,h1,h3,frzs_rep hl hd h4⟩
 | grow e sz es => exact h
 | guest g rem => exact h
 | mp kk ek l => exact h
end
theorem repL_of {w:World} {M:Cells} {loc:Nat → Value} {b:Nat}:∀ (ds:List CD) (l:List Value) (o:Nat),RepAs w M loc (ds.map .c) l → (∀ j u,l[j]? = some u → w.cell? ⟨b,o + j,none⟩ = some u) → (∀ j,j < l.length → ¬ M b (o + j)) → RepL w M ds ⟨b,o,none⟩
 | [],l,o,_,_,_ => by simp [RepL]
 | c :: cs,l,o,h,hc,hm => by
  simp only [List.map_cons,RepAs] at h
  obtain ⟨v,vs,rfl,h1,h2⟩:=h
  simp only [RepL]
  refine ⟨⟨v,by simpa using hc 0 v rfl,by simpa using hm 0 (by simp),by simpa only [RepA] using h1⟩,?_⟩
  have:(⟨b,o,none⟩ : Addr).add 1 = ⟨b,o + 1,none⟩:=by simp [Addr.add]
  rw [this]
  refine repL_of cs vs (o + 1) h2 (fun j u hj => ?_) (fun j hj => ?_)
  ·have:=hc (j + 1) u (by simpa using hj)
   rwa [show o + (j + 1) = o + 1 + j from by omega] at this
  ·have:=hm (j + 1) (by simpa using hj)
   rwa [show o + (j + 1) = o + 1 + j from by omega] at this
theorem Sub_freeze {σ:St} (n:Nat) (cs:List AV) (ds:List CD) (hb:σ.own n = .box cs) (hd:cs.mapM (AV.toCD σ.own) = some ds):Sub σ ⟨frzE n ds σ.env,frzO n ds σ.own⟩:=by
 rintro C a w ⟨loc,hg⟩
 have hob:=hg.objs n
 rw [hb] at hob
 obtain ⟨b,l,e,hl,hA,hh,hrs⟩:=hob
 have hrd:=toCDs_rep hg hrs hd
 have hhas:∀ m c,(frzO n ds σ.own m).has (loc m) c → m ≠ n ∧ (σ.own m).has (loc m) c:=by
  intro m c h
  unfold frzO at h
  split at h
  ·exact (Ob.has_none _ _ h).elim
  ·rename_i hm; exact ⟨hm,(Ob.frz_has _ _ _).1 h⟩
 have hMb:∀ o,¬ MM C (frzO n ds σ.own) loc b o:=by
  rintro o (h | ⟨m,h⟩)
  ·have h1:=hg.m0 _ _ h
   rcases hA with h2 | h2
   ·omega
   ·exact h1.2 h2
  ·obtain ⟨hm,h'⟩:=hhas m b (Ob.has_of_mut h)
   exact hg.disj m n b hm h' (by rw [hb,hl]; rfl)
 have hk:Keeps w w (MM C σ.own loc) (MM C (frzO n ds σ.own) loc):=Keeps.less fun c o h => by
  rcases h with h | ⟨m,h⟩
  ·exact .inl h
  ·unfold frzO at h
   split at h
   ·exact (Ob.has_none _ _ (Ob.has_of_mut h)).elim
   ·rw [Ob.frz_mut] at h; exact .inr ⟨m,h⟩
 have hrd':RepL w (MM C (frzO n ds σ.own) loc) ds ⟨b,0,none⟩:=by
  refine repL_of ds l 0 (RepAs.keep hk _ _ hrd) (fun j u hj => ?_) (fun j _ => by simpa using hMb _)
  rw [cell_bp hh,Nat.zero_add,hj]
 refine ⟨loc,hg.fr,hg.m0,hg.kp.trans hk,fun x hx => ?_,hg.mnd,hg.pin,hg.size,fun t => ?_,fun m => ?_,fun m k c hmk hm hk' => hg.disj m k c hmk (hhas m c hm).2 (hhas k c hk').2⟩
 ·obtain ⟨D,e1,e2,e3,e4⟩:=hg.marks x hx
  exact ⟨D,e1,e2,e3,fun ⟨m,h⟩ => e4 ⟨m,(hhas m D h).2⟩⟩
 ·exact frz_rep hl hrd' (RepA.keep hk _ _ (hg.slots t))
 ·show ObOk C.P C.A w _ loc (loc m) (frzO n ds σ.own m)
  unfold frzO
  split
  ·trivial
  ·exact ObOk.frz hl hrd' (ObOk.keep' hk (Nat.le_refl _) (fun _ _ => rfl) (hg.objs m))
theorem WV_freeze {C:Ctx} {Q:Exit → St → Prop} {v:VC} {env:Nat → AV} {own:Nat → Ob} (n:Nat) {cs:List AV} {ds:List CD} (hb:own n = .box cs) (hd:cs.mapM (AV.toCD own) = some ds) (h:WV C v Q ⟨frzE n ds env,frzO n ds own⟩):WV C v Q ⟨env,own⟩ :=
 WV_sub (Sub_freeze n cs ds hb hd) h
end Go.V

/-
 Rules over states that are written out: loops that name what they change alone; calls; rounds.
-/
namespace Go.V
theorem AOps_cons {P:Program} {i:Ins} {is:List Ins} {K:St → Prop} {σ:St}:AOps P (i :: is) K σ = AStep P i (AOps P is K) σ:=rfl
theorem AOps_nil {P:Program} {K:St → Prop} {σ:St}:AOps P [] K σ = K σ:=rfl
theorem ATree_cons {P:Program} {i:Ins} {t:OT} {K:St → Prop} {σ:St}:ATree P (.cons i t) K σ = AStep P i (ATree P t K) σ:=by simp only [ATree]
theorem ATree_nil {P:Program} {K:St → Prop} {σ:St}:ATree P .nil K σ = K σ:=by simp only [ATree]
theorem ATree_br {P:Program} {ts:List OT} {K:St → Prop} {σ:St}:ATree P (.br ts) K σ = ATrees P ts K σ:=by simp only [ATree]
theorem ATrees_cons {P:Program} {t:OT} {ts:List OT} {K:St → Prop} {σ:St}:ATrees P (t :: ts) K σ = (ATree P t K σ ∧ ATrees P ts K σ):=by simp only [ATrees]
theorem ATrees_nil {P:Program} {K:St → Prop} {σ:St}:ATrees P [] K σ = True:=by simp only [ATrees]
theorem ATrees_one {P:Program} {t:OT} {K:St → Prop} {σ:St}:ATrees P [t] K σ = ATree P t K σ:=by simp only [ATrees,and_true]
theorem AStep_S {P:Program} {d:Option Nat} {i:I} {g:Option (Nat × Bool)} {K:St → Prop} {σ:St}:AStep P ⟨d,i,g,true⟩ K σ = AStepS P ⟨d,i,g,true⟩ K σ:=rfl
theorem AStep_P {P:Program} {d:Option Nat} {i:I} {g:Option (Nat × Bool)} {K:St → Prop} {σ:St}:AStep P ⟨d,i,g,false⟩ K σ = AStepP P ⟨d,i,g,false⟩ K σ:=by simp [AStep]
theorem bif_and (q x:Bool):(bif q then x else false) = (q && x):=by cases q <;> rfl
theorem bif_or (q x:Bool):(bif q then true else x) = (q || x):=by cases q <;> rfl
def Ins.wr (i:Ins):List Nat:=match i.d with | some d => [d] | none => []
mutual
def OT.wr:OT → List Nat
 | .nil => []
 | .cons i t => i.wr ++ t.wr
 | .br ts => OT.wrL ts
def OT.wrL:List OT → List Nat
 | [] => []
 | t :: ts => t.wr ++ OT.wrL ts
end
def VC.wr:VC → List Nat
 | .ops is => is.flatMap Ins.wr
 | .drw t => t.wr
 | .seq a b => a.wr ++ b.wr
 | .cond _ a b => a.wr ++ b.wr
 | .block _ a => a.wr
 | .loop a => a.wr
 | .rng _ ps _ _ => ps
 | _ => []
def hav (ws:List Nat) (f:Nat → AV):Nat → AV:=fun t => if t ∈ ws then .non else f t
def havO (ws:List Nat) (f:Nat → Ob):Nat → Ob:=fun t => if t ∈ ws then .none else f t
def updOs:(Nat → Ob) → List (Nat × Ob) → Nat → Ob
 | own,[] => own
 | own,(p,v) :: r => updOs (upd own p v) r
theorem prgE_upd' (d:Nat) (f:Nat → AV) (t:Nat) (v:AV):prgE d (upd f t v) = upd (prgE d f) t (v.prg d):=prgE_upd d f t v
theorem prgE_e0 (d:Nat):prgE d e0 = e0:=rfl
theorem prgE_hav (d:Nat) (ws:List Nat) (f:Nat → AV):prgE d (hav ws f) = hav ws (prgE d f):=by
 funext t; simp only [prgE,hav]; split <;> rfl
theorem prgO_upd (d:Nat) (f:Nat → Ob) (n:Nat) (o:Ob):prgO d (upd f n o) = upd (prgO d f) n (o.prg d):=by
 funext t; simp only [prgO,upd]; split <;> rfl
theorem prgO_o0 (d:Nat):prgO d o0 = o0:=rfl
theorem prgO_havO (d:Nat) (ws:List Nat) (f:Nat → Ob):prgO d (havO ws f) = havO ws (prgO d f):=by
 funext t; simp only [prgO,havO]; split <;> rfl
theorem frzE_upd (n:Nat) (ds:List CD) (f:Nat → AV) (t:Nat) (v:AV):frzE n ds (upd f t v) = upd (frzE n ds f) t (v.frz n ds):=by
 funext s; simp only [frzE,upd]; split <;> rfl
theorem frzE_e0 (n:Nat) (ds:List CD):frzE n ds e0 = e0:=rfl
theorem frzE_hav (n:Nat) (ds:List CD) (ws:List Nat) (f:Nat → AV):frzE n ds (hav ws f) = hav ws (frzE n ds f):=by
 funext t; simp only [frzE,hav]; split <;> rfl
theorem frzO_upd (n:Nat) (ds:List CD) (f:Nat → Ob) (m:Nat) (o:Ob):frzO n ds (upd f m o) = if m = n then frzO n ds f else upd (frzO n ds f) m (o.frz n ds):=by
 funext t
 by_cases hm:m = n
 ·subst hm; simp only [frzO,upd,if_true]; split <;> rfl
 ·rw [if_neg hm]; simp only [frzO,upd]; split <;> split <;> simp_all
theorem frzO_o0 (n:Nat) (ds:List CD):frzO n ds o0 = o0:=by funext m; simp only [frzO,o0]; split <;> rfl
theorem hav_upd (ws:List Nat) (f:Nat → AV) (t:Nat) (v:AV):hav ws (upd f t v) = if t ∈ ws then hav ws f else upd (hav ws f) t v:=by
 funext s
 by_cases ht:t ∈ ws
 ·rw [if_pos ht]
  simp only [hav,upd]
  split
  ·rfl
  ·rename_i hs
   have:s ≠ t:=by rintro rfl; exact hs ht
   rw [if_neg this]
 ·rw [if_neg ht]
  simp only [hav,upd]
  split <;> split <;> simp_all
theorem hav_e0 (ws:List Nat):hav ws e0 = e0:=by funext t; simp only [hav,e0]; split <;> rfl
theorem havO_upd (ws:List Nat) (f:Nat → Ob) (t:Nat) (v:Ob):havO ws (upd f t v) = if t ∈ ws then havO ws f else upd (havO ws f) t v:=by
 funext s
 by_cases ht:t ∈ ws
 ·rw [if_pos ht]
  simp only [havO,upd]
  split
  ·rfl
  ·rename_i hs
   have:s ≠ t:=by rintro rfl; exact hs ht
   rw [if_neg this]
 ·rw [if_neg ht]
  simp only [havO,upd]
  split <;> split <;> simp_all
theorem havO_o0 (ws:List Nat):havO ws o0 = o0:=by funext t; simp only [havO,o0]; split <;> rfl
theorem havO_nil (f:Nat → Ob):havO [] f = f:=by funext t; simp [havO]
theorem ObjLe.rfl' (f:Nat → Ob):ObjLe f f:=fun _ => .inl rfl
theorem ObjLe_new {f g:Nat → Ob} {d:Nat} {o:Ob} (hd:g d = .none) (h:ObjLe f g):ObjLe (upd f d o) g:=by
 intro s
 by_cases hs:s = d
 ·subst hs; exact .inr hd
 ·have:=h s; simpa [upd,hs] using this
theorem ObjLe_same {f g:Nat → Ob} {d:Nat} {o:Ob} (h:ObjLe f g):ObjLe (upd f d o) (upd g d o):=by
 intro s
 by_cases hs:s = d
 ·subst hs; left; simp [upd]
 ·have:=h s; simpa [upd,hs] using this
section
variable {C:Ctx} {Q:Exit → St → Prop}
theorem nilTos_set (d:Nat):∀ (cs:List AV) (i:Nat),cs[i]? = some (.c (.raw (.slice none 0 0))) → NilTos d cs ((AV.prgL d cs).set i (.gr d))
 | [],i,h => by simp at h
 | a :: cs,0,h => by
  simp only [List.getElem?_cons_zero,Option.some.injEq] at h
  subst h
  refine ⟨.gr d,_,rfl,.inr ⟨rfl,rfl⟩,?_⟩
  have:∀ l:List AV,NilTos d l (AV.prgL d l):=by
   intro l
   induction l with
   | nil => rfl
   | cons a l ih => exact ⟨_,_,rfl,.inl rfl,ih⟩
  exact this cs
 | a :: cs,i + 1,h => ⟨_,_,rfl,.inl rfl,nilTos_set d cs i (by simpa using h)⟩
theorem nilTos_prg (d:Nat):∀ l:List AV,NilTos d l (AV.prgL d l)
 | [] => rfl
 | a :: l => ⟨_,_,rfl,.inl rfl,nilTos_prg d l⟩
theorem nilOb_prg (d:Nat) (o:Ob):NilOb d o (o.prg d):=by
 cases o with
 | box cs => exact ⟨_,rfl,nilTos_prg d cs⟩
 | win cs => exact ⟨_,rfl,nilTos_prg d cs⟩
 | _ => rfl
theorem WV_nilbox {v:VC} {env:Nat → AV} {own:Nat → Ob} (n i d e sz:Nat) {cs:List AV} (hd1:d < 1000) (hsz:0 < sz) (hnd:n ≠ d) (hd:own d = .none) (hn:own n = .box cs) (hi:cs[i]? = some (.c (.raw (.slice none 0 0))))
  (h:WV C v Q ⟨prgE d env,upd (upd (prgO d own) d (.grow e sz [])) n (.box ((AV.prgL d cs).set i (.gr d)))⟩):WV C v Q ⟨env,own⟩:=by
 refine WV_sub (Sub_nil d e sz hd1 hsz hd (fun t => .inl rfl) ?_ fun m hm => ?_) h
 ·show upd (upd (prgO d own) d (.grow e sz [])) n _ d = _
  simp [upd,Ne.symm hnd]
 ·show NilOb d (own m) (upd (upd (prgO d own) d (.grow e sz [])) n _ m)
  by_cases hmn:m = n
  ·subst hmn
   simp only [upd,if_true]
   rw [hn]
   exact ⟨_,rfl,nilTos_set d cs i hi⟩
  ·simp only [upd,hmn,hm,if_false,prgO]
   exact nilOb_prg d _
theorem WV_nilslot {v:VC} {env:Nat → AV} {own:Nat → Ob} (t d e sz:Nat) (hd1:d < 1000) (hsz:0 < sz) (hd:own d = .none) (ht:env t = .c (.raw (.slice none 0 0)))
  (h:WV C v Q ⟨upd (prgE d env) t (.gr d),upd (prgO d own) d (.grow e sz [])⟩):WV C v Q ⟨env,own⟩:=by
 refine WV_sub (Sub_nil d e sz hd1 hsz hd (fun s => ?_) ?_ fun m hm => ?_) h
 ·show NilTo d (env s) (upd (prgE d env) t (.gr d) s)
  by_cases hst:s = t
  ·subst hst; right; exact ⟨ht,by simp [upd]⟩
  ·left; simp [upd,hst,prgE]
 ·simp [upd]
 ·show NilOb d (own m) (upd (prgO d own) d (.grow e sz []) m)
  simp only [upd,hm,if_false,prgO]
  exact nilOb_prg d _
def keepE:List Nat → (Nat → AV) → Nat → AV
 | [],_ => e0
 | t :: ts,f => upd (keepE ts f) t (f t)
theorem WV_loopK {ι:Type} {x:VC} {env:Nat → AV} {own:Nat → Ob} (ks os:List Nat) (Inv:ι → Prop) (μ:ι → Nat) (E:ι → List (Nat × AV)) (O:ι → List (Nat × Ob)) (i₀:ι) (h₀:Inv i₀)
  (hs:Sub ⟨env,own⟩ ⟨updPs (keepE ks env) (E i₀),updOs (havO os own) (O i₀)⟩)
  (hr:∀ i,Inv i → WV C x (thenQ (fun σ' => ∃ i',Inv i' ∧ μ i' < μ i ∧ Sub σ' ⟨updPs (keepE ks env) (E i'),updOs (havO os own) (O i')⟩) Q) ⟨updPs (keepE ks env) (E i),updOs (havO os own) (O i)⟩) :
  WV C (.loop x) Q ⟨env,own⟩ :=
 WV_loopS (fun i => ⟨updPs (keepE ks env) (E i),updOs (havO os own) (O i)⟩) Inv μ i₀ h₀ hs hr
end
section
variable {P:Program} {σ:St} {d:Option Nat} {f:X} {xs:List X} {K:St → Prop}
theorem AS_pure {fid:FuncId} {caps args:List AV} {r:AV} (hs:FSpec P fid args r) (h1:(σ.val f).dg = true) (h2:(xs.all fun x => (σ.val x).dg) = true) (h3:(σ.val f).dv = .fn fid caps)
  (h4:AV.portL σ.own (xs.map (fun x => (σ.val x).dv) ++ caps) = some args) (h5:r.pureB = true) (hK:K (σ.put d r)):ACallS P d f xs K σ:=.inl ⟨fid,caps,args,r,h1,h2,h3,h4,h5,hs,hK⟩
theorem AS_vol {fid:FuncId} {caps args:List AV} {r:AV} (hs:FSpec P fid args r) (h6:r.scal = true) (h1:(σ.val f).dg = true) (h2:(xs.all fun x => (σ.val x).dg) = true) (h3:(σ.val f).dv = .fn fid caps)
  (h4:AV.vportL σ.own (xs.map (fun x => (σ.val x).dv) ++ caps) = some args) (h5:r.pureB = true) (hK:K (σ.put d r)):ACallS P d f xs K σ:=.inr (.inl ⟨fid,caps,args,r,h1,h2,h3,h4,h5,.inr ⟨hs,h6⟩,hK⟩)
theorem AG_pure {G:Bool} {A B:Prop} {fid:FuncId} {caps args:List AV} {r:AV} (hs:G = true → FSpec P fid args r) (h1:(σ.val f).dg = true) (h2:G = true → (xs.all fun x => (σ.val x).dg) = true) (h3:(σ.val f).dv = .fn fid caps)
  (h4:AV.portL σ.own (xs.map (fun x => (σ.val x).dv) ++ caps) = some args) (h5:r.pureB = true) (hK:K (σ.put d (.opt G r))):ACallG P G d f xs K σ ∨ A ∨ B:=.inl ⟨r,h5,fun h => ⟨fid,caps,args,h1,h2 h,h3,h4,hs h⟩,hK⟩
theorem AS_lend (L:List Nat) {fid:FuncId} {caps args:List AV} {l:List Ob} {Post:AV → List Ob → Prop} (hs:FSpecL P fid args l [] Post) (h1:(σ.val f).dg = true) (h2:(xs.all fun x => (σ.val x).dg) = true) (h3:(σ.val f).dv = .fn fid caps) (hL:L.Nodup)
  (h4:AV.lendL 1000 L σ.own (xs.map (fun x => (σ.val x).dv) ++ caps) = some args) (h5:obsLend L σ.own L = some l)
  (hK:∀ r l',Post r l' → ∃ r' os,r.back L = some r' ∧ obsBack L l' = some os ∧ K (St.put ⟨prgEs (growsOf σ.own L) σ.env,ownBack (prgOs (growsOf σ.own L) σ.own) L os⟩ d r')):ACallS P d f xs K σ:=.inr (.inr (.inl ⟨fid,caps,L,l,args,Post,h1,h2,h3,hL,h4,h5,hs,hK⟩))
theorem AS_guest (n:Nat) (L:List Nat) {g:Gst} {e:Ent} {rem:List Ent} (h0:σ.own n = .guest g (e :: rem)) (h1:(σ.val f).dg = true) (h2:(xs.all fun x => (σ.val x).dg) = true) (h3:(σ.val f).dv = .c (.raw g.fv)) (hL:L.Nodup)
  (h4:AV.lendL 2000 L σ.own (xs.map fun x => (σ.val x).dv) = some e.args) (h5:winsOf σ.own L e.wins) (hK:K (St.put ⟨σ.env,upd σ.own n (.guest g rem)⟩ d e.res)):ACallS P d f xs K σ:=.inr (.inr (.inr (.inl ⟨n,g,e,rem,L,h0,h1,h2,h3,hL,h4,h5,hK⟩)))
end
theorem AVle.refl (x:AV):AVle x x:=fun _ _ _ _ h => h
theorem AVle.nil (sz:Nat):AVle (.c (.raw (.slice none 0 0))) (.c (.sl sz [])):=fun w M loc v h => by
 simp only [RepA,RepC] at h ⊢
 exact ⟨none,0,h.1,Nat.le_refl _,by simp [maxLen],.inl trivial⟩
def AVles:List AV → List AV → Prop
 | [],l => l = []
 | x :: xs,l => ∃ y ys,l = y :: ys ∧ AVle x y ∧ AVles xs ys
theorem AVles.rep:∀ {xs ys:List AV},AVles xs ys → ∀ (w:World) (M:Cells) (loc:Nat → Value) (l:List Value),RepAs w M loc xs l → RepAs w M loc ys l
 | [],ys,h,w,M,loc,l,hr => by simp only [AVles] at h; subst h; exact hr
 | x :: xs,ys,h,w,M,loc,l,hr => by
  simp only [AVles] at h
  obtain ⟨y,ys',rfl,h1,h2⟩:=h
  simp only [RepAs] at hr ⊢
  obtain ⟨v,vs,rfl,k1,k2⟩:=hr
  exact ⟨v,vs,rfl,h1 _ _ _ _ k1,h2.rep _ _ _ _ k2⟩
theorem AVles.refl:∀ xs:List AV,AVles xs xs
 | [] => rfl
 | x :: xs => ⟨x,xs,rfl,AVle.refl x,AVles.refl xs⟩
theorem AVles.cons {x y:AV} {xs ys:List AV} (h:AVle x y) (k:AVles xs ys):AVles (x :: xs) (y :: ys):=⟨y,ys,rfl,h,k⟩
theorem AVle.agg {xs ys:List AV} (h:AVles xs ys):AVle (.agg xs) (.agg ys):=fun w M loc v hr => by
 simp only [RepA] at hr ⊢
 obtain ⟨l,hv,hr⟩:=hr
 exact ⟨l,hv,h.rep _ _ _ _ hr⟩
theorem AVle.tup {xs ys:List AV} (h:AVles xs ys):AVle (.tup xs) (.tup ys):=fun w M loc v hr => by
 simp only [RepA] at hr ⊢
 obtain ⟨l,hv,hr⟩:=hr
 exact ⟨l,hv,h.rep _ _ _ _ hr⟩
theorem FSpec.le {P:Program} {f:FuncId} {as bs:List AV} {r r':AV} (h:FSpec P f bs r) (ha:AVles as bs) (hr:AVle r r'):FSpec P f as r' :=
 ⟨h.1,fun w M vs hM hv => (h.2 w M vs hM (ha.rep _ _ _ _ hv)).mono fun e w' hh => by
  obtain ⟨v,rfl,k1,k2⟩:=hh
  exact ⟨v,rfl,hr _ _ _ _ k1,k2⟩⟩
def keepAll (own:Nat → Ob):Nat → List Ob → Prop
 | _,[] => True
 | k,o :: os => (own k).keepP own = some o ∧ keepAll own (k + 1) os
def winAll (own:Nat → Ob):Nat → List (List AV) → Prop
 | _,[] => True
 | k,w :: ws => own k = .win w ∧ winAll own (k + 1) ws
def placeAll:List Ob → List Ob → Bool
 | [],_ => true
 | o :: os,[] => !o.isPlace && placeAll os []
 | o :: os,p :: ps => (!o.isPlace || p.isPlace) && placeAll os ps
theorem keepAll_get {own:Nat → Ob}:∀ {l:List Ob} {k:Nat},keepAll own k l → ∀ i,i < l.length → (own (k + i)).keepP own = some (l.getD i .none)
 | o :: os,k,h,0,_ => by simpa using h.1
 | o :: os,k,h,i + 1,hi => by
  have:=keepAll_get h.2 i (by simpa using hi)
  rw [show k + (i + 1) = k + 1 + i from by omega]
  simpa using this
theorem winAll_get {own:Nat → Ob}:∀ {l:List (List AV)} {k:Nat},winAll own k l → ∀ i,i < l.length → own (k + i) = .win (l.getD i [])
 | o :: os,k,h,0,_ => by simpa using h.1
 | o :: os,k,h,i + 1,hi => by
  have:=winAll_get h.2 i (by simpa using hi)
  rw [show k + (i + 1) = k + 1 + i from by omega]
  simpa using this
theorem placeAll_get : ∀ {l l' : List Ob}, placeAll l l' = true → ∀ i, i < l.length → (l.getD i .none).isPlace = true → (l'.getD i .none).isPlace = true
  | o :: os, [], h, 0, _, hp => by simp [placeAll] at h hp; rw [h.1] at hp; cases hp
  | o :: os, [], h, i + 1, hi, hp => by
    simp only [placeAll, Bool.and_eq_true] at h
    exact placeAll_get h.2 i (by simpa using hi) (by simpa using hp)
  | o :: os, p :: ps, h, 0, _, hp => by simp [placeAll] at h hp ⊢; rcases h.1 with h | h; · rw [h] at hp; cases hp
                                        · exact h
  | o :: os, p :: ps, h, i + 1, hi, hp => by
    simp only [placeAll, Bool.and_eq_true] at h
    have := placeAll_get h.2 i (by simpa using hi) (by simpa using hp)
    simpa using this
theorem KeepL_mk {l:List Ob} {wl:List (List AV)} {σ:St} {l':List Ob} (h1:l'.length = l.length) (h2:(l'.all fun o => !o.isWin) = true) (h3:keepAll σ.own 1000 l') (h4:winAll σ.own 2000 wl) (h5:placeAll l l' = true):KeepL l wl σ l' :=
 ⟨h1,h2,fun i hi => keepAll_get h3 i (by omega),fun j hj => winAll_get h4 j hj,placeAll_get h5⟩
def updLo:(Nat → Ob) → Nat → List Ob → Nat → Ob
 | f,_,[] => f
 | f,k,a :: as => updLo (upd f k a) (k + 1) as
theorem updLo_app:∀ (as:List Ob) (f:Nat → Ob) (k t:Nat),updLo f k as t = if k ≤ t ∧ t < k + as.length then as.getD (t - k) .none else f t
 | [],f,k,t => by
  simp only [updLo]
  rw [if_neg (by simp)]
 | a :: as,f,k,t => by
  simp only [updLo]
  rw [updLo_app as]
  by_cases h1:k + 1 ≤ t ∧ t < k + 1 + as.length
  ·rw [if_pos h1,if_pos (by simp; omega)]
   obtain ⟨n,rfl⟩ : ∃ n,t = k + 1 + n:=⟨t - (k + 1),by omega⟩
   rw [show k + 1 + n - (k + 1) = n from by omega,show k + 1 + n - k = n + 1 from by omega]
   simp
  ·rw [if_neg h1,upd_app]
   by_cases h2:t = k
   ·subst h2; rw [if_pos rfl,if_pos (by simp)]; simp
   ·rw [if_neg h2,if_neg (by simp; omega)]
theorem ownW_upd {l:List Ob} {wl:List (List AV)} (hl:l.length ≤ 1000):ownW l wl = updLo (updLo o0 1000 l) 2000 (wl.map .win):=by
 funext n
 rw [updLo_app,updLo_app]
 rcases ownW_eq (wl:=wl) hl n with ⟨i,h1,rfl,h3,_⟩ | ⟨j,h1,rfl,h3,_⟩ | ⟨h3,h4⟩
 ·rw [h3,if_neg (by omega),if_pos (by omega),show 1000 + i - 1000 = i from by omega]
 ·rw [h3,if_pos (by simp; omega),show 2000 + j - 2000 = j from by omega]
  simp [List.getD_eq_getElem?_getD,h1]
 ·rw [h3]
  have e1:¬ (2000 ≤ n ∧ n < 2000 + (wl.map Ob.win).length):=by
   rintro ⟨a,b⟩
   simp only [List.length_map] at b
   obtain ⟨j,rfl⟩ : ∃ j,n = 2000 + j:=⟨n - 2000,by omega⟩
   rw [ownW_big (List.getElem?_eq_getElem (show j < wl.length by omega))] at h3
   cases h3
  rw [if_neg e1]
  split
  ·rename_i h
   obtain ⟨i,rfl⟩ : ∃ i,n = 1000 + i:=⟨n - 1000,by omega⟩
   rw [ownL_some (by omega)] at h4
   rw [show 1000 + i - 1000 = i from by omega,h4]
  ·rfl
theorem init_env (args:List AV):(St.init args).env = updL e0 0 args:=by rw [init_eq]
theorem init_env' (args:List AV):(fun t => args.getD t AV.non) = updL e0 0 args:=by rw [← init_env]; rfl
end Go.V

/-
 Calls that are handed a function value: for the user.
-/
namespace Go.V
section
variable {P:Program} {d:Option Nat} {f:X} {xs:List X} {K:St → Prop} {σ:St}
end
end Go.V

/-
 Contracts whose result may be written: out of a walk,and in a call.
-/
namespace Go.V
def RetOkN (rs:List RV) (Post:AV → List Ob → Prop) (σ:St):Prop :=
 match resAll σ rs with
 | some (q,vs) => q ∧ ∃ L r0 r os,L.Nodup ∧ L.length ≤ 1000 ∧ (tupA vs).lend 1000 L σ.own = some r0 ∧ AVle r0 r ∧ obsLend L σ.own L = some os ∧ Post r os
 | none => False
def RetQN (rs:List RV) (Post:AV → List Ob → Prop):Exit → St → Prop
 | .normal,σ => RetOkN rs Post σ
 | .ret,σ => RetOkN rs Post σ
 | _,_ => False
theorem FSpecN_ofP {P:Program} {m:List Nat} {f:FuncId} {fc:FC} (hc:compM P m f = some fc) {args:List AV} {Post:AV → List Ob → Prop} (hn:args.length ≤ fc.np) (hnp:fc.np ≤ fc.N)
  (h:∀ C:Ctx,C.P = P → C.N = fc.N → C.Ok → (∀ n,¬ C.pin n) → AV.lensL args → WV C fc.body (RetQN fc.rs Post) (St.init args)):FSpecN P f args Post:=by
 obtain ⟨hcl,hb⟩:=body_call hc
 refine ⟨hcl,fun w M vs hM hr => ?_⟩
 have hlen:=hr.length
 refine hb (Ctx.of P fc.N m w M) (RetQN fc.rs Post) (St.init args) (fun _ => undef) vs _ rfl rfl rfl rfl (by omega) (h _ rfl rfl (fun _ h => by cases h) (fun n h => h) hr.lens) (fun tm hs ht => G_init hM hr (by omega) hs ht) (fun l₀ hl₀ σ loc a w' hg hq => ?_) (fun e σ hq => by cases e <;> first | exact .inl rfl | exact .inr rfl | exact hq.elim)
 have hret:RetOkN fc.rs Post σ:=hq.elim id id
 unfold RetOkN at hret
 split at hret
 case h_2 => exact hret.elim
 rename_i q avs hres
 obtain ⟨hq,L,r0,r,os,hL,hLl,hlend,hle,hol,hpost⟩:=hret
 have hbelow:RowKit.Below w.heap.size w w':=⟨hg.fr.os,hg.fr.tape,hg.fr.output,hg.fr.size,fun k hk => hg.fr.block k hk (fun h => h)⟩
 obtain ⟨us,hus,hrus⟩:=resAll_sound hg l₀ fc.rs hl₀ hres hq
 obtain ⟨e1,e2,e3⟩:=obsLend_get hol
 have hsub:∀ b k,AddM M (ownL 1000 os) (locL 1000 loc L) b k → MM (Ctx.of P fc.N m w M) σ.own loc b k:=by
  rintro b k (h | ⟨n,h⟩)
  ·exact .inl h
  ·rcases ownL_cases os n with ⟨i,o,rfl,h2,h3⟩ | h3
   ·obtain ⟨p,hp,hlp⟩:=e3 i o h2
    rw [h3,locL_at hp,Ob.lend_mut hlp] at h
    exact .inr ⟨p,h⟩
   ·rw [h3] at h; exact (Ob.has_none _ _ (Ob.has_of_mut h)).elim
 have hone:∀ n b,(ownL 1000 os n).has (locL 1000 loc L n) b → ∃ i p o,n = 1000 + i ∧ L[i]? = some p ∧ Ob.lend L σ.own (σ.own p) = some o ∧ (σ.own p).has (loc p) b:=by
  intro n b h
  rcases ownL_cases os n with ⟨i,o,rfl,h2,h3⟩ | h3
  ·obtain ⟨p,hp,hlp⟩:=e3 i o h2
   rw [h3,locL_at hp,Ob.lend_has hlp] at h
   exact ⟨i,p,o,rfl,hp,hlp,h⟩
  ·rw [h3] at h; exact (Ob.has_none _ _ h).elim
 refine ⟨us,hus,_,r,os,locL 1000 loc L,rfl,hpost,by omega,hbelow,⟨fun n => ?_,fun n k b hnk h1 h2 => ?_⟩,fun n b h => ?_,?_⟩
 ·rcases ownL_cases os n with ⟨i,o,rfl,h2,h3⟩ | h3
  ·obtain ⟨p,hp,hlp⟩:=e3 i o h2
   rw [h3,locL_at hp]
   exact (ObOk.lend hg hlp).1.keep' (Keeps.less hsub) (Nat.le_refl _) (fun _ _ => rfl)
  ·rw [h3]; trivial
 ·obtain ⟨i,p,_,rfl,hp,_,hpb⟩:=hone n b h1
  obtain ⟨j,q,_,rfl,hq,_,hqb⟩:=hone k b h2
  refine hg.disj p q b ?_ hpb hqb
  rintro rfl
  exact hnk (by rw [nodup_idx hL hp hq])
 ·obtain ⟨i,p,o,rfl,hp,hlp,hpb⟩:=hone n b h
  rcases (ObOk.lend hg hlp).2 b hpb with h' | h'
  ·exact h'
  ·exact h'.elim
 ·exact hle _ _ _ _ (RepA.keep (Keeps.less hsub) _ _ (lend_rep hg (tup_rep hrus) hlend))
theorem FSpecN_of {P:Program} {m:List Nat} {f:FuncId} {fc:FC} (hc:compM P m f = some fc) {args:List AV} {Post:AV → List Ob → Prop} (hn:args.length ≤ fc.np) (hnp:fc.np ≤ fc.N)
  (h:∀ C:Ctx,C.P = P → C.N = fc.N → C.Ok → AV.lensL args → WV C fc.body (RetQN fc.rs Post) (St.init args)):FSpecN P f args Post:=FSpecN_ofP hc hn hnp fun C h1 h2 h3 _ h4 => h C h1 h2 h3 h4
section
variable {P:Program} {d:Option Nat} {f:X} {xs:List X} {K:St → Prop} {σ:St}
theorem AS_new {fid:FuncId} {caps args:List AV} {Post:AV → List Ob → Prop} (hs:FSpecN P fid args Post) (h1:(σ.val f).dg = true) (h2:(xs.all fun x => (σ.val x).dg) = true) (h3:(σ.val f).dv = .fn fid caps)
  (h4:AV.portL σ.own (xs.map (fun x => (σ.val x).dv) ++ caps) = some args)
  (hK:∀ r os,Post r os → ∃ L r' os',L.Nodup ∧ L.length = os.length ∧ (L.all fun n => decide (n < 1000) && (σ.own n).isNone) = true ∧ r.back L = some r' ∧ obsBack L os = some os' ∧ K (St.put ⟨prgEs L σ.env,ownBack (prgOs L σ.own) L os'⟩ d r')):ACallS P d f xs K σ :=
 .inr (.inr (.inr (.inr (.inr (.inl ⟨fid,caps,args,Post,h1,h2,h3,h4,hs,hK⟩)))))
end
theorem Sub_freezeJ {σ:St} (n:Nat) (ds:List CD) (junk:List AV) (hb:σ.own n = .box (ds.map .c ++ junk)):Sub σ ⟨frzE n ds σ.env,frzO n ds σ.own⟩:=by
 rintro C a w ⟨loc,hg⟩
 have hob:=hg.objs n
 rw [hb] at hob
 obtain ⟨b,l0,e,hl,hA,hh,hrs⟩:=hob
 obtain ⟨l,l2,rfl,hrs,_⟩:=hrs.split
 have hrd:RepAs w (MM C σ.own loc) loc (ds.map .c) l:=hrs
 have hhas:∀ m c,(frzO n ds σ.own m).has (loc m) c → m ≠ n ∧ (σ.own m).has (loc m) c:=by
  intro m c h
  unfold frzO at h
  split at h
  ·exact (Ob.has_none _ _ h).elim
  ·rename_i hm; exact ⟨hm,(Ob.frz_has _ _ _).1 h⟩
 have hMb:∀ o,¬ MM C (frzO n ds σ.own) loc b o:=by
  rintro o (h | ⟨m,h⟩)
  ·have h1:=hg.m0 _ _ h
   rcases hA with h2 | h2
   ·omega
   ·exact h1.2 h2
  ·obtain ⟨hm,h'⟩:=hhas m b (Ob.has_of_mut h)
   exact hg.disj m n b hm h' (by rw [hb,hl]; rfl)
 have hk:Keeps w w (MM C σ.own loc) (MM C (frzO n ds σ.own) loc):=Keeps.less fun c o h => by
  rcases h with h | ⟨m,h⟩
  ·exact .inl h
  ·unfold frzO at h
   split at h
   ·exact (Ob.has_none _ _ (Ob.has_of_mut h)).elim
   ·rw [Ob.frz_mut] at h; exact .inr ⟨m,h⟩
 have hrd':RepL w (MM C (frzO n ds σ.own) loc) ds ⟨b,0,none⟩:=by
  refine repL_of ds l 0 (RepAs.keep hk _ _ hrd) (fun j u hj => ?_) (fun j _ => by simpa using hMb _)
  rw [cell_bp hh,Nat.zero_add,List.getElem?_append_left (List.getElem?_eq_some_iff.1 hj).1,hj]
 refine ⟨loc,hg.fr,hg.m0,hg.kp.trans hk,fun x hx => ?_,hg.mnd,hg.pin,hg.size,fun t => ?_,fun m => ?_,fun m k c hmk hm hk' => hg.disj m k c hmk (hhas m c hm).2 (hhas k c hk').2⟩
 ·obtain ⟨D,e1,e2,e3,e4⟩:=hg.marks x hx
  exact ⟨D,e1,e2,e3,fun ⟨m,h⟩ => e4 ⟨m,(hhas m D h).2⟩⟩
 ·exact frz_rep hl hrd' (RepA.keep hk _ _ (hg.slots t))
 ·show ObOk C.P C.A w _ loc (loc m) (frzO n ds σ.own m)
  unfold frzO
  split
  ·trivial
  ·exact ObOk.frz hl hrd' (ObOk.keep' hk (Nat.le_refl _) (fun _ _ => rfl) (hg.objs m))
theorem WV_freezeJ {C:Ctx} {Q:Exit → St → Prop} {v:VC} {env:Nat → AV} {own:Nat → Ob} (n:Nat) {ds:List CD} {junk:List AV} (hb:own n = .box (ds.map .c ++ junk)) (h:WV C v Q ⟨frzE n ds env,frzO n ds own⟩):WV C v Q ⟨env,own⟩ :=
 WV_sub (Sub_freezeJ n ds junk hb) h
end Go.V

/-
 A contract whose result may be written,as one whose result is data.
-/
namespace Go.V
end Go.V

/-
 Elements of a constant size as cells that may be written.
-/
namespace Go.V
section
variable {α:Type}
def flatG (cds:α → List CD) (l:List α):List CD:=(l.map cds).flatten
def cellsG (cds:α → List CD) (l:List α) (j:Nat):List AV:=(flatG cds l).map .c ++ List.replicate j .non
theorem flatG_cons (cds:α → List CD) (a:α) (l:List α):flatG cds (a :: l) = cds a ++ flatG cds l:=rfl
theorem flatG_append (cds:α → List CD) (l m:List α):flatG cds (l ++ m) = flatG cds l ++ flatG cds m:=by simp [flatG]
variable {cds:α → List CD} {m:Nat}
theorem flatG_len (hm:∀ a,(cds a).length = m) (l:List α):(flatG cds l).length = l.length * m:=by
 induction l with
 | nil => simp [flatG]
 | cons a l ih => rw [flatG_cons,List.length_append,ih,hm,List.length_cons,Nat.add_mul,Nat.one_mul,Nat.add_comm]
theorem cellsG_len (hm:∀ a,(cds a).length = m) (l:List α) (j:Nat):(cellsG cds l j).length = l.length * m + j:=by simp [cellsG,flatG_len hm]
theorem flatG_split {l:List α} {k:Nat} (h:k < l.length):flatG cds l = flatG cds (l.take k) ++ (cds l[k] ++ flatG cds (l.drop (k + 1))):=by
 rw [← flatG_cons,← flatG_append,List.getElem_cons_drop,List.take_append_drop]
theorem flatG_takelen (hm:∀ a,(cds a).length = m) {l:List α} {k:Nat} (h:k < l.length):(flatG cds (l.take k)).length = k * m:=by
 rw [flatG_len hm,List.length_take,Nat.min_eq_left (by omega)]
theorem flatG_get (hm:∀ a,(cds a).length = m) {l:List α} {k:Nat} (h:k < l.length) (i:Nat) (hi:i < m):(flatG cds l)[k * m + i]? = (cds l[k])[i]?:=by
 rw [flatG_split h,List.getElem?_append_right (by rw [flatG_takelen hm h]; omega),flatG_takelen hm h,Nat.add_sub_cancel_left,List.getElem?_append_left (by rw [hm]; exact hi)]
theorem cellsG_get (hm:∀ a,(cds a).length = m) {l:List α} {k:Nat} (h:k < l.length) (j i:Nat) {d:CD} (hd:(cds l[k])[i]? = some d) (x:AV):(cellsG cds l j).getD (k * m + i) x = .c d:=by
 have hi:i < m:=by rw [← hm l[k]]; exact (List.getElem?_eq_some_iff.1 hd).1
 have h1:=flatG_get hm h i hi
 rw [hd] at h1
 rw [List.getD_eq_getElem?_getD]
 unfold cellsG
 rw [List.getElem?_append_left (by simpa using (List.getElem?_eq_some_iff.1 h1).1),List.getElem?_map,h1]
 rfl
theorem cellsG_elem (hm:∀ a,(cds a).length = m) {l:List α} {k:Nat} (h:k < l.length) (j:Nat):((cellsG cds l j).drop (k * m)).take m = (cds l[k]).map .c:=by
 unfold cellsG
 rw [flatG_split h,List.map_append,List.map_append,List.append_assoc,List.drop_left' (by rw [List.length_map,flatG_takelen hm h]),List.append_assoc,List.take_left' (by rw [List.length_map,hm])]
theorem flatG_set (hm:∀ a,(cds a).length = m) {l:List α} {k:Nat} (h:k < l.length) (i:Nat) (hi:i < m) (d:CD) (a:α) (ha:cds a = (cds l[k]).set i d):(flatG cds l).set (k * m + i) d = flatG cds (l.set k a):=by
 have h2:k < (l.set k a).length:=by simpa using h
 rw [flatG_split h,flatG_split h2,List.set_append_right _ _ (by rw [flatG_takelen hm h]; omega),flatG_takelen hm h,Nat.add_sub_cancel_left,List.set_append_left _ _ (by rw [hm]; exact hi),← ha]
 rw [List.take_set_of_le (Nat.le_refl _),List.drop_set_of_lt (by omega),List.getElem_set_self]
theorem cellsG_set (hm:∀ a,(cds a).length = m) {l:List α} {k:Nat} (h:k < l.length) (j i:Nat) (hi:i < m) (d:CD) (a:α) (ha:cds a = (cds l[k]).set i d):(cellsG cds l j).set (k * m + i) (.c d) = cellsG cds (l.set k a) j:=by
 have hlt:k * m + i < (flatG cds l).length:=by
  rw [flatG_len hm]
  have:=Nat.mul_le_mul_right m (show k + 1 ≤ l.length from h)
  rw [Nat.add_mul,Nat.one_mul] at this
  omega
 unfold cellsG
 rw [List.set_append_left _ _ (by simpa using hlt),← List.map_set,flatG_set hm h i hi d a ha]
theorem cellsG_splice (hm:∀ a,(cds a).length = m) {l:List α} {k:Nat} (h:k < l.length) (j:Nat) (a:α):splice (cellsG cds l j) (k * m) ((cds a).map .c) = cellsG cds (l.set k a) j:=by
 have h2:k < (l.set k a).length:=by simpa using h
 unfold splice cellsG
 rw [List.length_map,hm,flatG_split h,flatG_split h2,List.getElem_set_self,List.take_set_of_le (Nat.le_refl _),List.drop_set_of_lt (by omega)]
 simp only [List.map_append,List.append_assoc]
 rw [List.take_left' (by rw [List.length_map,flatG_takelen hm h])]
 congr 1
 congr 1
 rw [← List.append_assoc,List.drop_left' (by rw [List.length_append,List.length_map,List.length_map,flatG_takelen hm h,hm])]
theorem cellsG_two (hm:∀ a,(cds a).length = 2) {l:List α} {k:Nat} (h:k < l.length) (j:Nat) (a:α) {x y:CD} (ha:cds a = [x,y]):splice (cellsG cds l j) (k * 2) [.c x,.c y] = cellsG cds (l.set k a) j:=by
 have:=cellsG_splice hm h j a
 rw [ha] at this
 exact this
theorem grp_flatG (hm:∀ a,(cds a).length = m):∀ l:List α,grp m l.length (flatG cds l) = l.map cds
 | [] => rfl
 | a :: l => by
  simp only [List.length_cons,grp,flatG_cons,List.map_cons]
  rw [List.take_left' (hm a),List.drop_left' (hm a),grp_flatG hm l]
theorem grp_cellsG (hm:∀ a,(cds a).length = m) (l:List α):grp m l.length ((flatG cds l).take (l.length * m)) = l.map cds:=by
 rw [List.take_of_length_le (by rw [flatG_len hm]; exact Nat.le_refl _),grp_flatG hm]
theorem cellsG_take (hm:∀ a,(cds a).length = m) (l:List α) (j:Nat):(cellsG cds l j).take (l.length * m) = cellsG cds l 0:=by
 unfold cellsG
 rw [List.take_left' (by rw [List.length_map,flatG_len hm])]
 simp
theorem prg_cs (d:Nat):∀ l:List CD,AV.prgL d (l.map .c) = l.map .c
 | [] => rfl
 | a :: l => by simp only [List.map_cons,AV.prgL,AV.prg,prg_cs d l]
theorem prg_non (d:Nat):∀ j:Nat,AV.prgL d (List.replicate j .non) = List.replicate j .non
 | 0 => rfl
 | j + 1 => by simp only [List.replicate_succ,AV.prgL,AV.prg,prg_non d j]
theorem prg_cellsG (cds:α → List CD) (d:Nat) (l:List α) (j:Nat):AV.prgL d (cellsG cds l j) = cellsG cds l j:=by
 unfold cellsG; rw [prgL_append,prg_cs,prg_non]
theorem lend_cs (b:Nat) (L:List Nat) (own:Nat → Ob):∀ l:List CD,AV.lendL b L own (l.map .c) = some (l.map .c)
 | [] => rfl
 | a :: l => by simp only [List.map_cons,AV.lendL,AV.lend,lend_cs b L own l]
theorem lend_non (b:Nat) (L:List Nat) (own:Nat → Ob):∀ j:Nat,AV.lendL b L own (List.replicate j .non) = some (List.replicate j .non)
 | 0 => rfl
 | j + 1 => by simp only [List.replicate_succ,AV.lendL,AV.lend,lend_non b L own j]
theorem lendL_append (b:Nat) (L:List Nat) (own:Nat → Ob):∀ x y:List AV,AV.lendL b L own (x ++ y) = (AV.lendL b L own x).bind fun x' => (AV.lendL b L own y).map fun y' => x' ++ y'
 | [],y => by simp [AV.lendL]
 | a :: x,y => by
  simp only [List.cons_append,AV.lendL,lendL_append b L own x y]
  cases AV.lend b L own a <;> cases AV.lendL b L own x <;> cases AV.lendL b L own y <;> rfl
theorem lend_cellsG (cds:α → List CD) (b:Nat) (L:List Nat) (own:Nat → Ob) (l:List α) (j:Nat):AV.lendL b L own (cellsG cds l j) = some (cellsG cds l j):=by
 unfold cellsG; rw [lendL_append,lend_cs,lend_non]; rfl
theorem frz_cs (n:Nat) (ds:List CD):∀ l:List CD,AV.frzL n ds (l.map .c) = l.map .c
 | [] => rfl
 | a :: l => by simp only [List.map_cons,AV.frzL,AV.frz,frz_cs n ds l]
theorem frz_non (n:Nat) (ds:List CD):∀ j:Nat,AV.frzL n ds (List.replicate j .non) = List.replicate j .non
 | 0 => rfl
 | j + 1 => by simp only [List.replicate_succ,AV.frzL,AV.frz,frz_non n ds j]
theorem frzL_append (n:Nat) (ds:List CD):∀ a b:List AV,AV.frzL n ds (a ++ b) = AV.frzL n ds a ++ AV.frzL n ds b
 | [],b => rfl
 | x :: a,b => by simp only [List.cons_append,AV.frzL,frzL_append n ds a b]
theorem frz_cellsG (cds:α → List CD) (n:Nat) (ds:List CD) (l:List α) (j:Nat):AV.frzL n ds (cellsG cds l j) = cellsG cds l j:=by
 unfold cellsG; rw [frzL_append,frz_cs,frz_non]
theorem pure_cs:∀ l:List CD,AV.pureL (l.map .c) = true
 | [] => rfl
 | a :: l => by simp only [List.map_cons,AV.pureL,AV.pureB,Bool.true_and,pure_cs l]
theorem pure_non:∀ j:Nat,AV.pureL (List.replicate j .non) = true
 | 0 => rfl
 | j + 1 => by simp only [List.replicate_succ,AV.pureL,AV.pureB,Bool.true_and,pure_non j]
theorem pureL_app:∀ {a b:List AV},AV.pureL a = true → AV.pureL b = true → AV.pureL (a ++ b) = true
 | [],b,_,hb => hb
 | x :: a,b,ha,hb => by
  simp only [AV.pureL,Bool.and_eq_true] at ha
  simp only [List.cons_append,AV.pureL,Bool.and_eq_true]
  exact ⟨ha.1,pureL_app ha.2 hb⟩
theorem back_cellsG (cds:α → List CD) (L:List Nat) (l:List α) (j:Nat):AV.backL L (cellsG cds l j) = some (cellsG cds l j):=by
 refine backs_pure ?_
 unfold cellsG
 exact pureL_app (pure_cs _) (pure_non _)
end
end Go.V

namespace Go.V
attribute [go_sem] AOps_cons
 growsOf
 Ob.isGrow
 prgEs
 prgOs
 AOps_nil
 AStep_S
 AStep_P
 AStepS
 AStepP
 ATree_cons
 ATree_nil
 ATree_br
 ATrees_cons
 ATrees_nil
 ATrees_one
 pvw
 mvw
 nvw
 nvwG
 AV.vbase
 AV.vcells
 rmv
 bslvGo
 I.putsB
 pev
 pevO
 vwp
 mev
 St.guard
 St.val
 St.put
 init_eq
 init_env
 updL
 updPs
 updOs
 keepE
 upd_app
 e0_app
 o0_app
 hav_upd
 hav_e0
 havO_nil
 havO_upd
 havO_o0
 prgE_upd'
 prgE_e0
 prgE_hav
 prgO_upd
 prgO_o0
 prgO_havO
 prgE_app
 prgO_app
 frzE_upd
 frzE_e0
 frzE_hav
 frzO_upd
 frzO_o0
 frzE_app
 frzO_app
 AV.frz
 AV.frzL
 Ob.frz
 AV.dg
 AV.dv
 AV.asC
 AV.isBo
 AV.bo
 CD.isBo
 CD.bo
 AV.elems
 AV.elemsZ
 AV.rawLen
 AV.cellsA
 AV.toCD
 AV.cds
 AV.oneB
 ibin binD
 ishf
 bound
 bldGo
 splice
 setAt
 St.new
 Ob.prg
 AV.prg
 AV.prgL
 Ob.isNone
 Ob.isBox
 thenQ
 inQ
 VC.wr
 OT.wr
 OT.wrL
 Ins.wr
 List.flatMap_cons
 List.flatMap_nil
 List.mem_cons
 List.not_mem_nil
 or_false
 false_or
 or_true
 true_or
 or_self
 true_and
 and_true
 false_and
 and_false
 Bool.true_eq_false
 if_true
 if_false
 and_self
 List.getElem?_cons_zero
 List.getElem?_cons_succ
 Option.map_some
 Option.some.injEq
 implies_true
 imp_self
 List.all_cons
 List.all_nil
 Bool.and_true
 Bool.true_or
 Bool.false_or
 Bool.or_false
 Bool.or_true
 Bool.true_and
 Bool.false_and
 Bool.and_false
 Bool.and_self
 List.length_cons
 List.length_nil
 Nat.zero_add
 List.set_cons_zero
 List.set_cons_succ
 List.take_succ_cons
 List.drop_succ_cons
 List.take_zero
 List.drop_zero
 List.nil_append
 List.cons_append
 Bool.false_eq_true
 beq_true
 beq_false
 Bool.and_eq_true
 List.mapM_cons
 List.mapM_nil
 Option.pure_def
 Option.bind_eq_bind
 Option.bind_some
 List.append_nil
 List.take_nil
 List.drop_nil
 Nat.le_refl
 Nat.zero_lt_succ
 List.getD_cons_zero
 List.getD_cons_succ
 Nat.zero_le
 cond_true
 cond_false
 Nat.add_zero
 Bool.not_true
 Bool.not_false
 forall_const
 false_implies
 true_implies
 bif_and
 bif_or
 ge_iff_le
 gt_iff_lt
 List.map_cons
 List.map_nil
 List.length_map
 List.map_append
 List.length_append
 List.idxOf_cons
 List.idxOf_nil
attribute [go_sem] prg_cellsG frz_cellsG lend_cellsG
end Go.V

/-
 A slice that the call has grown,as a box that may be written: what reads as data is forgotten.
-/
namespace Go.V
def CD.flat:CD → Bool
 | .sl _ _ => false
 | .pt _ => false
 | _ => true
mutual
def AV.gd (n sz len cap:Nat):AV → AV
 | .gr m => if m = n then .vw sz n 0 len cap else .gr m
 | .c d => if d.flat then .c d else .non
 | .agg cs => .agg (AV.gdL n sz len cap cs)
 | .tup cs => .tup (AV.gdL n sz len cap cs)
 | .fn f cs => .fn f (AV.gdL n sz len cap cs)
 | .opt g x => .opt g (AV.gd n sz len cap x)
 | .bp m o => if m = n then .non else .bp m o
 | .vw a m o l k => if m = n then .non else .vw a m o l k
 | .non => .non
def AV.gdL (n sz len cap:Nat):List AV → List AV
 | [] => []
 | a :: as => AV.gd n sz len cap a :: AV.gdL n sz len cap as
end
def Ob.gd (n sz len cap:Nat):Ob → Ob
 | .box cs => .box (AV.gdL n sz len cap cs)
 | .grow e z es => if es.all (fun e => e.all CD.flat) then .grow e z es else .none
 | .mp a b l => .mp a b l
 | _ => .none
def gdE (n sz len cap:Nat) (f:Nat → AV):Nat → AV:=fun t => (f t).gd n sz len cap
def gdO (n sz len cap:Nat) (f:Nat → Ob):Nat → Ob:=fun t => (f t).gd n sz len cap
theorem gdE_upd (n sz len cap:Nat) (f:Nat → AV) (t:Nat) (v:AV):gdE n sz len cap (upd f t v) = upd (gdE n sz len cap f) t (v.gd n sz len cap):=by
 funext s; simp only [gdE,upd]; split <;> rfl
theorem gdE_e0 (n sz len cap:Nat):gdE n sz len cap e0 = e0:=rfl
theorem gdO_upd (n sz len cap:Nat) (f:Nat → Ob) (t:Nat) (v:Ob):gdO n sz len cap (upd f t v) = upd (gdO n sz len cap f) t (v.gd n sz len cap):=by
 funext s; simp only [gdO,upd]; split <;> rfl
theorem gdO_o0 (n sz len cap:Nat):gdO n sz len cap o0 = o0:=rfl
section
variable {w:World} {M M':Cells} {loc loc':Nat → Value} {n b sz len cap:Nat}
end
end Go.V

/-
 An object gets another number: what has been lent and has grown takes its old place.
-/
namespace Go.V
mutual
def AV.rn (d n:Nat):AV → AV
 | .bp m o => if m = d then .bp n o else if m = n then .non else .bp m o
 | .gr m => if m = d then .gr n else if m = n then .non else .gr m
 | .vw sz m off len cap => if m = d then .vw sz n off len cap else if m = n then .non else .vw sz m off len cap
 | .agg cs => .agg (AV.rnL d n cs)
 | .tup cs => .tup (AV.rnL d n cs)
 | .fn f cs => .fn f (AV.rnL d n cs)
 | .opt g x => .opt g (AV.rn d n x)
 | .non => .non
 | .c x => .c x
def AV.rnL (d n:Nat):List AV → List AV
 | [] => []
 | a :: as => AV.rn d n a :: AV.rnL d n as
end
def Ob.rn (d n:Nat):Ob → Ob
 | .box cs => .box (AV.rnL d n cs)
 | .win cs => .win (AV.rnL d n cs)
 | o => o
def rnE (d n:Nat) (f:Nat → AV):Nat → AV:=fun t => (f t).rn d n
def rnP (d n:Nat) (f:Nat → Ob):Nat → Ob:=fun t => (f t).rn d n
def rnO (d n:Nat) (f:Nat → Ob):Nat → Ob:=upd (upd (rnP d n f) n ((f d).rn d n)) d .none
theorem rnE_upd (d n:Nat) (f:Nat → AV) (t:Nat) (v:AV):rnE d n (upd f t v) = upd (rnE d n f) t (v.rn d n):=by
 funext s; simp only [rnE,upd]; split <;> rfl
theorem rnE_e0 (d n:Nat):rnE d n e0 = e0:=rfl
theorem rnP_upd (d n:Nat) (f:Nat → Ob) (t:Nat) (v:Ob):rnP d n (upd f t v) = upd (rnP d n f) t (v.rn d n):=by
 funext s; simp only [rnP,upd]; split <;> rfl
theorem rnP_o0 (d n:Nat):rnP d n o0 = o0:=rfl
theorem rnE_app (d n:Nat) (f:Nat → AV) (t:Nat):rnE d n f t = (f t).rn d n:=rfl
theorem rnP_app (d n:Nat) (f:Nat → Ob) (t:Nat):rnP d n f t = (f t).rn d n:=rfl
section
variable {w:World} {M:Cells} {loc loc':Nat → Value} {d n:Nat}
mutual
theorem rn_rep (hl:∀ m,m ≠ n → loc' m = loc m) (hn:loc' n = loc d):∀ {x:AV} {v:Value},RepA w M loc x v → RepA w M loc' (x.rn d n) v
 | .non,v,h => by simp only [AV.rn,RepA]
 | .c x,v,h => by simp only [AV.rn,RepA] at h ⊢; exact h
 | .gr m,v,h => by
  simp only [AV.rn]
  split
  ·rename_i e; subst e; simp only [RepA] at h ⊢; rw [hn]; exact h
  ·split
   ·simp only [RepA]
   ·rename_i e; simp only [RepA] at h ⊢; rw [hl m e]; exact h
 | .bp m o,v,h => by
  simp only [AV.rn]
  split
  ·rename_i e; subst e; simp only [RepA] at h ⊢; rw [hn]; exact h
  ·split
   ·simp only [RepA]
   ·rename_i e; simp only [RepA] at h ⊢; rw [hl m e]; exact h
 | .vw sz m off len cap,v,h => by
  simp only [AV.rn]
  split
  ·rename_i e; subst e; simp only [RepA] at h ⊢; rw [hn]; exact h
  ·split
   ·simp only [RepA]
   ·rename_i e; simp only [RepA] at h ⊢; rw [hl m e]; exact h
 | .agg cs,v,h => by
  simp only [AV.rn,RepA] at h ⊢
  obtain ⟨l,hv,hr⟩:=h
  exact ⟨l,hv,rns_rep hl hn hr⟩
 | .tup cs,v,h => by
  simp only [AV.rn,RepA] at h ⊢
  obtain ⟨l,hv,hr⟩:=h
  exact ⟨l,hv,rns_rep hl hn hr⟩
 | .fn f cs,v,h => by
  simp only [AV.rn,RepA] at h ⊢
  obtain ⟨l,hv,hr⟩:=h
  exact ⟨l,hv,rns_rep hl hn hr⟩
 | .opt g x,v,h => by
  simp only [AV.rn,RepA] at h ⊢
  exact ⟨fun hg => rn_rep hl hn (h.1 hg),h.2⟩
theorem rns_rep (hl:∀ m,m ≠ n → loc' m = loc m) (hn:loc' n = loc d):∀ {xs:List AV} {l:List Value},RepAs w M loc xs l → RepAs w M loc' (AV.rnL d n xs) l
 | [],l,h => h
 | x :: xs,l,h => by
  simp only [AV.rnL,RepAs] at h ⊢
  obtain ⟨v,vs,e,k1,k2⟩:=h
  exact ⟨v,vs,e,rn_rep hl hn k1,rns_rep hl hn k2⟩
end
theorem Ob.rn_has (o:Ob) (v:Value) (b:Nat):(o.rn d n).has v b ↔ o.has v b:=by
 cases o <;> first | exact Iff.rfl | (cases v <;> first | exact Iff.rfl | (rename_i p; cases p <;> exact Iff.rfl))
theorem Ob.rn_mut (o:Ob) (v:Value):(o.rn d n).mut v = o.mut v:=by
 cases o <;> first | rfl | (cases v <;> first | rfl | (rename_i p; cases p <;> rfl))
theorem ObOk.rn {P:Program} {A:Nat → Prop} {v:Value} {o:Ob} (hl:∀ m,m ≠ n → loc' m = loc m) (hn:loc' n = loc d) (h:ObOk P A w M loc v o):ObOk P A w M loc' v (o.rn d n):=by
 cases o with
 | none => trivial
 | box cs => obtain ⟨b1,l,e,h1,h2,h3,h4⟩:=h; exact ⟨b1,l,e,h1,h2,h3,rns_rep hl hn h4⟩
 | win cs => obtain ⟨b1,l,r,e,h1,h3,h4⟩:=h; exact ⟨b1,l,r,e,h1,h3,rns_rep hl hn h4⟩
 | grow e sz es => exact h
 | guest g rem => exact h
 | mp kk ek l => exact h
end
theorem Gam_move {C:Ctx} {σ:St} {a:Act} {w:World} {d n:Nat} (hdn:d ≠ n) (hp:¬ C.pin n) (hn:σ.own n = .none) (h:Gam C σ a w):Gam C ⟨rnE d n σ.env,rnO d n σ.own⟩ a w:=by
 obtain ⟨loc,hg⟩:=h
 let loc':Nat → Value:=fun m => if m = n then loc d else loc m
 have hl:∀ m,m ≠ n → loc' m = loc m:=fun m hm => by simp only [loc',hm,if_false]
 have hn':loc' n = loc d:=by simp only [loc',if_true]
 have hnd:n ≠ d:=fun e => hdn e.symm
 have o1:rnO d n σ.own d = .none:=by simp only [rnO,upd,if_true]
 have o2:rnO d n σ.own n = (σ.own d).rn d n:=by simp only [rnO,upd,hnd,if_false,if_true]
 have o3:∀ m,m ≠ d → m ≠ n → rnO d n σ.own m = (σ.own m).rn d n:=fun m h1 h2 => by simp only [rnO,upd,h1,h2,if_false,rnP]
 have hhas:∀ m k,(rnO d n σ.own m).has (loc' m) k → (m = n ∧ (σ.own d).has (loc d) k) ∨ (m ≠ n ∧ m ≠ d ∧ (σ.own m).has (loc m) k):=by
  intro m k h
  by_cases hm:m = n
  ·subst hm; rw [o2,hn',Ob.rn_has] at h; exact .inl ⟨rfl,h⟩
  ·by_cases hmd:m = d
   ·subst hmd; rw [o1] at h; exact (Ob.has_none _ _ h).elim
   ·rw [o3 m hmd hm,hl m hm,Ob.rn_has] at h; exact .inr ⟨hm,hmd,h⟩
 have hmut:∀ b k,MM C (rnO d n σ.own) loc' b k → MM C σ.own loc b k:=by
  rintro b k (h | ⟨m,h⟩)
  ·exact .inl h
  ·by_cases hm:m = n
   ·subst hm; rw [o2,hn',Ob.rn_mut] at h; exact .inr ⟨d,h⟩
   ·by_cases hmd:m = d
    ·subst hmd; rw [o1] at h; exact (Ob.has_none _ _ (Ob.has_of_mut h)).elim
    ·rw [o3 m hmd hm,hl m hm,Ob.rn_mut] at h; exact .inr ⟨m,h⟩
 have hk:Keeps w w (MM C σ.own loc) (MM C (rnO d n σ.own) loc'):=Keeps.less hmut
 have hfoot:∀ b,Foot (rnO d n σ.own) loc' b → Foot σ.own loc b:=by
  rintro b ⟨m,h⟩
  rcases hhas m b h with ⟨_,h⟩ | ⟨_,_,h⟩
  ·exact ⟨d,h⟩
  ·exact ⟨m,h⟩
 refine ⟨loc',hg.fr,hg.m0,hg.kp.trans hk,fun x hx => ?_,hg.mnd,fun m hm => ?_,hg.size,fun t => ?_,fun m => ?_,fun m k c hmk h1 h2 => ?_⟩
 ·obtain ⟨D,e1,e2,e3,e4⟩:=hg.marks x hx
  exact ⟨D,e1,e2,e3,fun h => e4 (hfoot _ h)⟩
 ·obtain ⟨p1,p2,p3⟩:=hg.pin m hm
  exact ⟨p1,by rw [hl m (fun e => hp (e ▸ hm))]; exact p2,p3⟩
 ·exact rn_rep hl hn' (RepA.keep hk _ _ (hg.slots t))
 ·show ObOk C.P C.A w _ loc' (loc' m) (rnO d n σ.own m)
  by_cases hm:m = n
  ·subst hm
   rw [o2,hn']
   exact ObOk.rn hl hn' (ObOk.keep' hk (Nat.le_refl _) (fun _ _ => rfl) (hg.objs d))
  ·by_cases hmd:m = d
   ·subst hmd; rw [o1]; trivial
   ·rw [o3 m hmd hm,hl m hm]
    exact ObOk.rn hl hn' (ObOk.keep' hk (Nat.le_refl _) (fun _ _ => rfl) (hg.objs m))
 ·rcases hhas m c h1 with ⟨e1,k1⟩ | ⟨e1,e2,k1⟩ <;> rcases hhas k c h2 with ⟨f1,k2⟩ | ⟨f1,f2,k2⟩
  ·exact hmk (e1.trans f1.symm)
  ·exact hg.disj d k c (fun e => f2 e.symm) k1 k2
  ·exact hg.disj m d c e2 k1 k2
  ·exact hg.disj m k c hmk k1 k2
theorem WV_post {C:Ctx} {Q:Exit → St → Prop} {v:VC} {σ:St} (h:WV C v (fun e σ' => ∃ σ'',(∀ a w,Gam C σ' a w → Gam C σ'' a w) ∧ Q e σ'') σ):WV C v Q σ:=fun c hc a w hg =>
 wpIn_mono (h c hc a w hg) fun _ _ _ ⟨_,hg',σ'',hw,hq⟩ => ⟨σ'',hw _ _ hg',hq⟩
theorem FSpecL_ofX {P:Program} {m:List Nat} {f:FuncId} {fc:FC} (hc:compM P m f = some fc) {args:List AV} {l:List Ob} {wl:List (List AV)} {Post:AV → List Ob → Prop} (hl:l.length ≤ 1000) (hn:args.length ≤ fc.np) (hnp:fc.np ≤ fc.N) (hN:fc.N ≤ 1000)
  (h:∀ C:Ctx,C.P = P → C.N = fc.N → C.Ok → (∀ n,C.pin n → (ownW l wl n).isPlace = true) → AV.lensL args → WV C fc.body (RetQL fc.rs l wl Post) ⟨fun t => args.getD t .non,ownW l wl⟩):FSpecL P f args l wl Post:=by
 obtain ⟨hcl,hb⟩:=body_call hc
 refine ⟨hcl,hl,fun w M loc vs hM hok hr => ?_⟩
 have hlen:=hr.length
 refine hb (Ctx.lentC P fc.N m w M l wl loc none) (RetQL fc.rs l wl Post) _ loc vs _ rfl rfl rfl rfl (by omega) (h _ rfl rfl (fun _ h => by cases h) (fun _ h => h) hr.lens) (fun tm hs ht => G_initL hl hN hM hok hs (fun t => by rw [ht t]; exact init_slots fc.N args vs hr t)) (fun l₀ hl₀ σ loc' a w' hg hq => ?_) (fun e σ hq => by cases e <;> first | exact .inl rfl | exact .inr rfl | exact hq.elim)
 have hret:RetOkL fc.rs l wl Post σ:=hq.elim id id
 unfold RetOkL at hret
 split at hret
 case h_2 => exact hret.elim
 rename_i q avs hres
 obtain ⟨hq,r,l',hkr,hkl,hpost⟩:=hret
 obtain ⟨us,hus,hrus⟩:=resAll_sound hg l₀ fc.rs hl₀ hres hq
 obtain ⟨k1,k2,k3,k4,k5,k6⟩:=lentC_end hl rfl rfl rfl rfl rfl hg hkl
 exact ⟨us,hus,_,r,l',loc',rfl,hpost,hkl.len,k1,k2,k3,k4,k5,k6 _ _ _ hkr (tup_rep hrus)⟩
section
variable {P:Program} {dd:Nat} {f:X} {xs:List X} {K:St → Prop} {σ:St}
theorem AM_new {fid:FuncId} {caps args:List AV} {Post:AV → List Ob → Prop} (hs:FSpecN P fid args Post) (h0:dd < 1000) (h00:(σ.own dd).isNone = true) (h1:(σ.val f).dg = true) (h2:(xs.all fun x => (σ.val x).dg) = true) (h3:(σ.val f).dv = .fn fid caps)
  (h4:AV.portL σ.own (xs.map (fun x => (σ.val x).dv) ++ caps) = some args)
  (hK:∀ r os,Post r os → ∃ o r' o',os = [o] ∧ r.back [dd] = some r' ∧ o.back [dd] = some o' ∧ K ⟨upd (prgE dd σ.env) dd r',upd (prgO dd σ.own) dd o'⟩):ACallM P (some dd) f xs K σ :=
 ⟨dd,fid,caps,args,Post,rfl,h0,h00,h1,h2,h3,h4,hs,hK⟩
end
section
variable {α:Type}
theorem rn_cs (d n:Nat):∀ l:List CD,AV.rnL d n (l.map .c) = l.map .c
 | [] => rfl
 | a :: l => by simp only [List.map_cons,AV.rnL,AV.rn,rn_cs d n l]
theorem rn_non (d n:Nat):∀ j:Nat,AV.rnL d n (List.replicate j .non) = List.replicate j .non
 | 0 => rfl
 | j + 1 => by simp only [List.replicate_succ,AV.rnL,AV.rn,rn_non d n j]
theorem rnL_append (d n:Nat):∀ a b:List AV,AV.rnL d n (a ++ b) = AV.rnL d n a ++ AV.rnL d n b
 | [],b => rfl
 | x :: a,b => by simp only [List.cons_append,AV.rnL,rnL_append d n a b]
theorem rn_cellsG (cds:α → List CD) (d n:Nat) (l:List α) (j:Nat):AV.rnL d n (cellsG cds l j) = cellsG cds l j:=by
 unfold cellsG; rw [rnL_append,rn_cs,rn_non]
theorem keep_cs (own:Nat → Ob):∀ l:List CD,AV.keepPL own (l.map .c) = some (l.map .c)
 | [] => rfl
 | a :: l => by simp only [List.map_cons,AV.keepPL,AV.keepP,keep_cs own l]
theorem keep_non (own:Nat → Ob):∀ j:Nat,AV.keepPL own (List.replicate j .non) = some (List.replicate j .non)
 | 0 => rfl
 | j + 1 => by simp only [List.replicate_succ,AV.keepPL,AV.keepP,keep_non own j]
theorem keepL_append (own:Nat → Ob):∀ x y:List AV,AV.keepPL own (x ++ y) = (AV.keepPL own x).bind fun x' => (AV.keepPL own y).map fun y' => x' ++ y'
 | [],y => by simp [AV.keepPL]
 | a :: x,y => by
  simp only [List.cons_append,AV.keepPL,keepL_append own x y]
  cases AV.keepP own a <;> cases AV.keepPL own x <;> cases AV.keepPL own y <;> rfl
theorem keep_cellsG (cds:α → List CD) (own:Nat → Ob) (l:List α) (j:Nat):AV.keepPL own (cellsG cds l j) = some (cellsG cds l j):=by
 unfold cellsG; rw [keepL_append,keep_cs,keep_non]; rfl
theorem elemsV_cellsG {cds:α → List CD} {m:Nat} (hm:∀ a,(cds a).length = m) (own:Nat → Ob) (n:Nat) (l:List α) (j cap:Nat) (h:own n = .box (cellsG cds l j)):AV.elemsV own (.vw m n 0 l.length cap) = some (m,l.map cds):=by
 have h2:(cellsG cds l j).take (l.length * m) = (flatG cds l).map .c:=by rw [cellsG_take hm]; simp [cellsG]
 have h3:((flatG cds l).map AV.c).mapM (AV.toCD own) = some (flatG cds l):=by
  induction flatG cds l with
  | nil => rfl
  | cons a t ih => simp only [List.map_cons,List.mapM_cons,AV.toCD,Option.pure_def,Option.bind_eq_bind,Option.bind_some,ih]
 simp only [AV.elemsV,h,Ob.cellsR,Nat.zero_add,List.drop_zero,h2,h3,Option.map_some]
 rw [if_pos (by rw [cellsG_len hm]; omega)]
 have:=grp_cellsG hm l
 rw [List.take_of_length_le (by rw [flatG_len hm]; exact Nat.le_refl _)] at this
 rw [this]
end
attribute [go_sem] rn_cellsG keep_cellsG back_cellsG
attribute [go_sem] gdE_upd gdE_e0 gdO_upd gdO_o0 AV.gd AV.gdL Ob.gd CD.flat rnE_upd rnE_e0 rnP_upd rnP_o0 rnO AV.rn AV.rnL Ob.rn rnE_app rnP_app
end Go.V

/-
 What may be forgotten of one slot or one object; an object gets another number.
-/
namespace Go.V
section
variable {C:Ctx} {Q:Exit → St → Prop} {x:VC} {env:Nat → AV} {own:Nat → Ob}
theorem AG_skip {P:Program} {A B:Prop} {d:Option Nat} {f:X} {xs:List X} {K:St → Prop} {σ:St} (h:K (σ.put d (.opt false (.c (.bool false))))):ACallG P false d f xs K σ ∨ A ∨ B :=
 .inl ⟨.c (.bool false),rfl,(fun e => by cases e),h⟩
end
end Go.V

/-
 What is kept of objects that were written more than once.
-/
namespace Go.V
def ObjLeX (f g:Nat → Ob) (ds:List Nat):Prop:=∀ m,ds.contains m = false → g m = f m ∨ g m = .none
theorem ObjLe_X {f g:Nat → Ob} (h:ObjLeX f g []):ObjLe f g:=fun m => h m rfl
theorem ObjLeX_o0 (f:Nat → Ob) (ds:List Nat):ObjLeX f o0 ds:=fun _ _ => .inr rfl
theorem ObjLeX_skip {f g:Nat → Ob} {d:Nat} {o:Ob} {ds:List Nat} (hd:ds.contains d = true) (h:ObjLeX f g ds):ObjLeX f (upd g d o) ds:=fun m hm => by
 have hne:m ≠ d:=by rintro rfl; rw [hd] at hm; cases hm
 have:=h m hm
 simpa [upd,hne] using this
theorem ObjLeX_upd {f g:Nat → Ob} {d:Nat} {o:Ob} {ds:List Nat} (hd:f d = o) (h:ObjLeX f g (d :: ds)):ObjLeX f (upd g d o) ds:=fun m hm => by
 by_cases hmd:m = d
 ·subst hmd; left; simp [upd,hd]
 ·have hne:(m == d) = false:=by simpa using hmd
  have:=h m (by simp only [List.contains_cons,hne,hm,Bool.false_or])
  simpa [upd,hmd] using this
theorem Sub_au {e e':Nat → AV} {o o':Nat → Ob}
  (h1:EnvLe o e e':=by (try simp only [go_sem,init_env',Nat.reduceEqDiff,Nat.reduceAdd,Nat.reduceMul,reduceIte,Nat.reduceLeDiff,Nat.reduceLT,Nat.reduceBEq,reduceCtorEq]); ((repeat' (first | exact EnvLe_e0 _ _ | refine EnvLe_upd ?_ ?_)) <;> ((try simp only [upd_app,e0_app,o0_app,Nat.reduceEqDiff,reduceIte]); first | exact AWk.refl _ _ | exact AWk.int (by omega) | exact AWk.int (by rw [w64 (by omega) (by omega)]; omega) | exact AWk.grow rfl | exact AWk.nil _ | exact AWk.of (by simp))))
  (h2:ObjLe o o':=by (try simp only [go_sem,init_env',Nat.reduceEqDiff,Nat.reduceAdd,Nat.reduceMul,reduceIte,Nat.reduceLeDiff,Nat.reduceLT,Nat.reduceBEq,reduceCtorEq]); (first | ((repeat' (first | exact ObjLe_o0 _ | exact ObjLe.rfl' _ | refine ObjLe_same ?_ | refine ObjLe_upd ?_ ?_ | refine ObjLe_new rfl ?_)) <;> rfl) | (refine ObjLe_X ?_; (repeat' (first | exact ObjLeX_o0 _ _ | refine ObjLeX_skip rfl ?_ | refine ObjLeX_upd ?_ ?_)) <;> rfl))):Sub ⟨e,o⟩ ⟨e',o'⟩:=Sub_of h1 h2
section
variable {C:Ctx} {Q:Exit → St → Prop} {σ:St}
theorem w1 {a b:VC} (h:WV C a (thenQ (WV C b Q) Q) σ):WV C (.seq a b) Q σ:=WV_seq_ h
end
end Go.V

/-
 Families of objects: rows of a slice of slices,each an object of its own.
-/
namespace Go.V
structure Row (α:Type) where
 l:List α
 j:Nat
 cap:Nat
section
variable {α:Type} {cds:α → List CD} {b sz m:Nat} {R:List (Row α)} {own:Nat → Ob}
def refs (b sz:Nat):Nat → List (Row α) → List AV
 | _,[] => []
 | k,r :: R => .vw sz (k + b) 0 r.l.length r.cap :: refs b sz (k + 1) R
def rng (b m:Nat):List Nat:=(List.range m).map (· + b)
variable {C:Ctx} {Q:Exit → St → Prop} {v:VC} {env:Nat → AV}
end
end Go.V

/-
 The primitives at the user's level.
-/
namespace Go.V
theorem primV_1 (p:Prim) (d:CD) (g:Bool):primV p [.c d] g = (match p.ev [d] with | some (q,e) => some (g = true ∧ q,.c e) | none => primD p):=rfl
theorem primV_2 (p:Prim) (d d':CD) (g:Bool):primV p [.c d,.c d'] g = (match p.ev [d,d'] with | some (q,e) => some (g = true ∧ q,.c e) | none => primD p):=rfl
theorem primV_3 (p:Prim) (d d' d'':CD) (g:Bool):primV p [.c d,.c d',.c d''] g = (match p.ev [d,d',d''] with | some (q,e) => some (g = true ∧ q,.c e) | none => primD p):=rfl
theorem ev_slen (s:List UInt8):Prim.ev .slen [.str s] = some (True,.int .i64 s.length):=rfl
theorem ev_sidx (s:List UInt8) (k:IntKind) (j:Int):Prim.ev .sidx [.str s,.int k j] = some (0 ≤ j ∧ j < s.length,.int .u8 (s.getD j.toNat 0).toNat):=rfl
theorem ev_sslc0 (s:List UInt8):Prim.ev (.sslc false false) [.str s] = some (True,.str s):=rfl
theorem ev_sslc1 (s:List UInt8) (k:IntKind) (j:Int):Prim.ev (.sslc true false) [.str s,.int k j] = some (0 ≤ j ∧ j ≤ s.length,.str (s.drop j.toNat)):=rfl
theorem ev_sslc2 (s:List UInt8) (k:IntKind) (j:Int):Prim.ev (.sslc false true) [.str s,.int k j] = some (0 ≤ j ∧ j ≤ s.length,.str (s.take j.toNat)):=rfl
theorem ev_sslc3 (s:List UInt8) (k k':IntKind) (i j:Int):Prim.ev (.sslc true true) [.str s,.int k i,.int k' j] = some (0 ≤ i ∧ i ≤ j ∧ j ≤ s.length,.str ((s.drop i.toNat).take (j.toNat - i.toNat))):=rfl
theorem ev_add (a b:List UInt8):Prim.ev (.sbin .add) [.str a,.str b] = some (a.length + b.length ≤ maxLen,.str (a ++ b)):=rfl
theorem ev_eql (a b:List UInt8):Prim.ev (.sbin .eql) [.str a,.str b] = some (True,.bool (a == b)):=rfl
theorem ev_neq (a b:List UInt8):Prim.ev (.sbin .neq) [.str a,.str b] = some (True,.bool (!(a == b))):=rfl
theorem ev_conv (k k':IntKind) (n:Int):Prim.ev (.conv k) [.int k' n] = some (True,.int k (k.wrap n)):=rfl
attribute [go_sem] primV_1 primV_2 primV_3 ev_slen ev_sidx ev_sslc0 ev_sslc1 ev_sslc2 ev_sslc3 ev_add ev_eql ev_neq ev_conv
end Go.V

/-
 Short names for what the user's texts write again and again; no condition.
-/
namespace Go.V
open Go
section
variable {C:Ctx} {Q:Exit → St → Prop} {σ:St}
theorem Va {a b:VC} (h:WV C a (thenQ (WV C b Q) Q) σ):WV C (.seq a b) Q σ:=WV_seq_ h
theorem Vb {id:Nat} {x:VC} (h:WV C x (inQ id Q) σ):WV C (.block id x) Q σ:=WV_block h
theorem Vc {is:List Ins} (h:AOps C.P is (Q .normal) σ):WV C (.ops is) Q σ:=WV_ops h
theorem Vd {is:List Ins} (h:AOps C.P is (Q .normal) σ):WV C (.dops is) Q σ:=WV_dops h
theorem Ve (h:Q .normal σ):WV C .skip Q σ:=WV_skip h
theorem Vf {id:Nat} (h:Q (.exit id) σ):WV C (.exit id) Q σ:=WV_exit h
theorem WV_op {v:VC} {p:Prop} (q:p) (h:p → WV C v Q σ:=by first | exact WV_ops | exact WV_dops):WV C v Q σ:=h q
theorem WV_sop {a v:VC} {p:Prop} (q:p) (h:p → WV C a (thenQ (WV C v Q) Q) σ:=by first | exact WV_ops | exact WV_dops):WV C (.seq a v) Q σ:=WV_seq_ (h q)
end
theorem init_st (args:List AV):St.init args = ⟨updL e0 0 args,o0⟩:=by unfold St.init; rw [init_env']; rfl
theorem qJ {a b:Prop} (hb:b) (ha:a:=by (fail_if_success with_reducible exact (rfl:0 = 0)); first | omega | (intros; simp_all; done) | (intros; simp_all; omega)):a ∧ b:=⟨ha,hb⟩
theorem EnvLe_au {o:Nat → Ob} {e e':Nat → AV} (h:EnvLe o e e':=by ((repeat' (first | exact EnvLe_e0 _ _ | refine EnvLe_upd ?_ ?_)) <;> ((try simp only [upd_app,e0_app,o0_app,Nat.reduceEqDiff,reduceIte]); first | exact AWk.refl _ _ | exact AWk.int (by omega) | exact AWk.int (by rw [w64 (by omega) (by omega)]; omega) | exact AWk.grow rfl | exact AWk.nil _ | exact AWk.of (by simp)))):EnvLe o e e':=h
theorem ObjLe_au {o o':Nat → Ob} (h:ObjLe o o':=by (first | ((repeat' (first | exact ObjLe_o0 _ | exact ObjLe.rfl' _ | refine ObjLe_same ?_ | refine ObjLe_upd ?_ ?_ | refine ObjLe_new rfl ?_)) <;> rfl) | (refine ObjLe_X ?_; (repeat' (first | exact ObjLeX_o0 _ _ | refine ObjLeX_skip rfl ?_ | refine ObjLeX_upd ?_ ?_)) <;> rfl))):ObjLe o o':=h
section
variable {P:Program} {σ:St} {d:Option Nat} {f:X} {xs:List X} {K:St → Prop}
theorem AS_pu {fid:FuncId} {caps args:List AV} {r:AV} (hs:FSpec P fid args r) (hK:K (σ.put d r)) (h1:(σ.val f).dg = true:=by rfl) (h2:(xs.all fun x => (σ.val x).dg) = true:=by rfl) (h3:(σ.val f).dv = .fn fid caps:=by rfl)
  (h4:AV.portL σ.own (xs.map (fun x => (σ.val x).dv) ++ caps) = some args:=by rfl) (h5:r.pureB = true:=by rfl):ACallS P d f xs K σ:=AS_pure hs h1 h2 h3 h4 h5 hK
theorem AG_pu {G:Bool} {A B:Prop} {fid:FuncId} {caps args:List AV} {r:AV} (hs:G = true → FSpec P fid args r) (hK:K (σ.put d (.opt G r))) (h1:(σ.val f).dg = true:=by rfl)
  (h2:G = true → (xs.all fun x => (σ.val x).dg) = true:=by intro hG; first | (simp only [go_sem,init_env',Nat.reduceEqDiff,Nat.reduceAdd,Nat.reduceMul,reduceIte,Nat.reduceLeDiff,Nat.reduceLT,Nat.reduceBEq,reduceCtorEq,hG]; done) | (simp only [go_sem,init_env',Nat.reduceEqDiff,Nat.reduceAdd,Nat.reduceMul,reduceIte,Nat.reduceLeDiff,Nat.reduceLT,Nat.reduceBEq,reduceCtorEq]; revert hG; simp; done) | (simp only [go_sem,init_env',Nat.reduceEqDiff,Nat.reduceAdd,Nat.reduceMul,reduceIte,Nat.reduceLeDiff,Nat.reduceLT,Nat.reduceBEq,reduceCtorEq,hG]; simp_all; done) | (revert hG; simp; done) | simp_all)
  (h3:(σ.val f).dv = .fn fid caps:=by rfl) (h4:AV.portL σ.own (xs.map (fun x => (σ.val x).dv) ++ caps) = some args:=by rfl) (h5:r.pureB = true:=by rfl):ACallG P G d f xs K σ ∨ A ∨ B:=AG_pure hs h1 h2 h3 h4 h5 hK
end
end Go.V

/-
 Operations that the machine has no instruction of its own for: what the model does at them,for the user.
-/
namespace Go.V
theorem RawI_raw {P:Program} {d:Option Nat} {op:Op} {K:St → Prop} {σ:St} (h:∀ (C:Ctx) (loc:Nat → Value) (a:Act) (w:World) (o:Oper),C.P = P → o.op = op → o.dst = d → d.all (· < C.N) = true → G C σ loc a w → ∃ σ',Mnd C σ' a w o ∧ K σ'):RawI P d (.raw op) K σ:=by
 intro C loc a w o hP hc hd hdl hg
 have hop:o.op = op:=by
  generalize o.op = op' at hc
  cases cI_inv hc
  rfl
 subst hd
 exact h C loc a w o hP hop rfl hdl hg
theorem RawI_snd {P:Program} {d:Option Nat} {op:Op} {K:St → Prop} {σ:St} {v:AV} (h:∀ (C:Ctx) (loc:Nat → Value) (a:Act) (w:World) (o:Oper),C.P = P → o.op = op → G C σ loc a w → Snd C σ loc a w o v) (hK:K (σ.put d v)):RawI P d (.raw op) K σ :=
 RawI_raw fun C loc a w o hP ho hd hdl hg => by
  obtain ⟨u,hrun,hr⟩:=h C loc a w o hP ho hg
  exact ⟨_,⟨w,loc,.inl ⟨u,hrun,by rw [hd]; exact hg.put hdl hr⟩⟩,hK⟩
def bcd (b:UInt8):List CD:=[.int .u8 b.toNat]
def bval (b:UInt8):Value:=.int .u8 b.toNat
theorem bytes_of {w:World} {M:Cells} {s:List UInt8} {v:Value} (h:RepC w M (.sl 1 (s.map bcd)) v):∃ A cap,v = .slice A s.length cap ∧ (s = [] ∨ ∃ ad,A = some ad ∧ ∀ j (hj:j < s.length),w.cell? (ad.add j) = some (.int .u8 (s[j].toNat:Int))):=by
 simp only [RepC,List.length_map] at h
 obtain ⟨A,cap,hv,_,_,hE⟩:=h
 refine ⟨A,cap,hv,?_⟩
 rcases hE with hE | ⟨ad,rfl,hE⟩
 ·exact .inl (by simpa using hE)
 ·refine .inr ⟨ad,rfl,fun j hj => ?_⟩
  obtain ⟨_,h2⟩:=hE.get _ ad j (by simpa using hj)
  rw [List.getD_eq_getElem?_getD,List.getElem?_map,List.getElem?_eq_getElem hj] at h2
  simp only [Option.map_some,Option.getD_some,bcd,RepL,RepC,Nat.mul_one,and_true] at h2
  obtain ⟨u,h3,_,rfl⟩:=h2
  exact h3
theorem raw_bs {P:Program} {σ:St} {d:Option Nat} {src dst e:TypeId} {x:Operand} {x':X} {s:List UInt8} {K:St → Prop} (hs:P.underlying src = some (.slice e)) (he:P.underlying e = some (.int .u8)) (hd:P.underlying dst = some .string)
  (hx:cX x = some x') (hdg:(σ.val x').dg = true) (hv:(σ.val x').dv.vport σ.own = some (.c (.sl 1 (s.map bcd)))) (hK:K (σ.put d (.c (.str s)))):RawI P d (.raw (.convert src dst x)) K σ:=by
 refine RawI_snd (fun C loc a w o hP ho hg => ?_) hK
 subst hP
 have hr:=vport_rep hg (vald hg hx hdg) hv
 simp only [RepA] at hr
 obtain ⟨A,cap,hv,hc⟩:=bytes_of hr
 refine ⟨.string ⟨s.toArray⟩,?_,by simp only [RepA,RepC]⟩
 rcases hc with rfl | ⟨ad,rfl,hc⟩
 ·have:=run_convert_bytes_string (P:=C.P) w src dst e A 0 cap hs he hd
  simp only [List.length_nil] at hv
  simp only [execOp,ho,hv]
  simp [this,Conv.bytesToString]
  cases A <;> simp [loadCells,loadCellsFrom] <;> rfl
 ·have:=run_convert_bytes_back (P:=C.P) w src dst e ad cap s hs he hd hc
  simp [execOp,ho,hv,this]
end Go.V

/-
 A region step by step,with what is known of where the objects lie; calls that are lent objects at known places.
-/
namespace Go.V
def SOps (C:Ctx) (is:List Ins) (K:St → Prop) (σ:St):Prop :=
 ∀ (ops:Array Oper) (k:Nat) (Q':Exit → Act → World → Prop),(∀ σ a w,Gam C σ a w → K σ → Q' .normal a w) →
  (∀ (j:Nat) (ins:Ins),is[j]? = some ins → ∃ o,ops[k + j]? = some o ∧ INS C.P C.N ops o ins) → ∀ a w,Gam C σ a w → wpOpsIn C.F 0 C.P ops Q' (List.range' k is.length) a w
section
variable {C:Ctx} {σ σ':St} {K:St → Prop} {is js:List Ins} {i:Ins} {Q:Exit → St → Prop}
theorem SOps_ops (h:AOps C.P is K σ):SOps C is K σ:=fun _ k _ hQ hi a w hg => ops_sound hQ is k σ a w hi hg h
theorem SOps_weak (h:∀ a w,Gam C σ a w → Gam C σ' a w) (h2:SOps C is K σ'):SOps C is K σ:=fun ops k Q' hQ hi a w hg => h2 ops k Q' hQ hi a w (h a w hg)
theorem SOps_sem (h:∀ (ops:Array Oper) (o:Oper),INS C.P C.N ops o i → ∀ (Q':Exit → Act → World → Prop) (K':Act → World → Prop),(∀ σ' a' w',Gam C σ' a' w' → SOps C is K σ' → K' a' w') → ∀ a w,Gam C σ a w →
  (if Region.wanted o (yielded ops a.tmps) = true then o.wpIn C.F 0 C.P a w K' Q' else (∀ f,o.about C.P w a.eval = some f → C.F.fn f) ∧ K' (a.put o.dst undef) w)):SOps C (i :: is) K σ:=by
 intro ops k Q' hQ hi a w hg
 obtain ⟨o,ho,hins⟩:=hi 0 i rfl
 simp only [Nat.add_zero] at ho
 have:=h ops o hins Q' (wpOpsIn C.F 0 C.P ops Q' (List.range' (k + 1) is.length)) (fun σ' a' w' hg' hs => hs ops (k + 1) Q' hQ (fun j ins hj => by
  have:=hi (j + 1) ins (by simpa using hj)
  rwa [show k + (j + 1) = k + 1 + j from by omega] at this) a' w' hg') a w hg
 simp only [List.length_cons,List.range'_succ,wpOpsIn,ho]
 exact this
theorem SOps_step (h:AStep C.P i (SOps C is K) σ):SOps C (i :: is) K σ:=SOps_sem fun ops o hins Q' K' hK' a w hg => astep_sound hg hins h (fun σ' a' w' hg' hs => hK' σ' a' w' hg' hs)
theorem SOps_part:∀ {is:List Ins} {σ:St},AOps C.P is (SOps C js K) σ → SOps C (is ++ js) K σ
 | [],σ,h => h
 | i :: is,σ,h => SOps_step (AStep_mono (fun σ1 h1 => SOps_part h1) h)
theorem WV_sops (h:SOps C is (Q .normal) σ):WV C (.ops is) Q σ:=by
 intro c hc
 obtain ⟨id,ops,rfl,hi⟩:=WV_region hc
 intro a w hg
 refine wpIn_region ?_
 have hlen:=WV_region_len hc
 have:=h ops 0 (fun e a' w' => ∃ σ',Gam C σ' a' w' ∧ Q e σ') (fun σ a w hg hk => ⟨σ,hg,hk⟩) (fun j ins hj => by simpa using hi j ins hj) a w hg
 rw [List.range_eq_range']
 rwa [hlen] at this
theorem WV_split (n:Nat) (h:AOps C.P (is.take n) (SOps C (is.drop n) (Q .normal)) σ):WV C (.ops is) Q σ:=by
 have:=SOps_part h
 rw [List.take_append_drop] at this
 exact WV_sops this
def ptrV (b o:Nat):Value:=.pointer (some ⟨b,o,none⟩)
end
end Go.V

/-
 A slice of slices that is lent with its rows: object 1000,and the rows from 1001 on.
-/
namespace Go.V
section
variable {α:Type} {cds:α → List CD} {R R':List (Row α)} {j m:Nat} {o:Nat → Ob}
end
end Go.V

/-
 A range over a function that has captured objects of its own; objects that stand for those to come.
-/
namespace Go.V
end Go.V

/-
 Rows that a loop's rounds make,held together: as one object,whose rows and array are known by their addresses; and taken apart again.
-/
namespace Go.V
structure RB where
 b:Nat
 o:Nat
 l:List UInt8
 cap:Nat
def RB.val (r:RB):Value:=.slice (some ⟨r.b,r.o,none⟩) r.l.length r.cap
def holdJ (rows:List RB) (arr:Option Value) (rem:List Ent) (L:List Nat) (w:World):Prop :=
 rem = [] ∧ L.Nodup ∧ (∃ La,L = rows.map RB.b ++ La ∧ (match arr with | none => La = [] | some v => ∃ g cap rest ty,v = .slice (some ⟨g,0,none⟩) rows.length cap ∧ La = [g] ∧ AtC w g (rows.map RB.val ++ rest) ty ∧ rows.length ≤ cap ∧ cap ≤ maxLen ∧ cap ≤ rows.length + rest.length)) ∧
  ∀ r ∈ rows,∃ rest ty,AtC w r.b (r.l.map bval ++ rest) ty ∧ r.cap ≤ r.l.length + rest.length ∧ r.l.length ≤ r.cap ∧ r.cap ≤ maxLen ∧ (0 < r.cap → r.o = 0)
def gF (rows:List RB) (arr:Option Value):Gst:=⟨.bool false,fun rem L _ w => holdJ rows arr rem L w⟩
def hold (rows:List RB) (arr:Option Value):Ob:=.guest (gF rows arr) []
theorem encV_one (L:List Nat):(encV L).oneCell' = false:=rfl
section
variable {C:Ctx} {σ:St}
theorem G.reown {loc loc':Nat → Value} {a:Act} {w:World} {env':Nat → AV} {own':Nat → Ob} (hg:G C σ loc a w) (hp:∀ n,C.pin n → loc' n = loc n)
  (hs:∀ t,RepA w (MM C σ.own loc) loc' (env' t) (a.tmps.getD t undef)) (hm:∀ b o,Mut own' loc' b o → Mut σ.own loc b o) (hf:∀ b,Foot own' loc' b → Foot σ.own loc b)
  (ho:∀ n,ObOk C.P C.A w (MM C σ.own loc) loc' (loc' n) (own' n)) (hd:∀ n m b,n ≠ m → (own' n).has (loc' n) b → (own' m).has (loc' m) b → False):G C ⟨env',own'⟩ loc' a w:=by
 have hsub:∀ b o,MM C own' loc' b o → MM C σ.own loc b o:=fun b o h => h.elim .inl fun h => .inr (hm b o h)
 have hk:Keeps w w (MM C σ.own loc) (MM C own' loc'):=Keeps.less hsub
 refine ⟨hg.fr,hg.m0,hg.kp.trans hk,fun x hx => ?_,hg.mnd,fun n hn => ?_,hg.size,fun t => RepA.keep hk _ _ (hs t),fun n => ?_,hd⟩
 ·obtain ⟨D,e1,e2,e3,e4⟩:=hg.marks x hx
  exact ⟨D,e1,e2,e3,fun h => e4 (hf D h)⟩
 ·obtain ⟨p1,p2,p3⟩:=hg.pin n hn
  exact ⟨p1,(hp n hn).trans p2,p3⟩
 ·exact (ho n).keep' hk (Nat.le_refl _) (fun _ _ => rfl)
theorem encV_inj {L L':List Nat} (h:encV L = encV L'):∀ b,b ∈ L ↔ b ∈ L':=fun b => by rw [← footV_encV,← footV_encV,h]
theorem hold_nopin {loc:Nat → Value} {a:Act} {w:World} {f:Nat} {L:List Nat} (hg:G C σ loc a w) (h:loc f = encV L):¬ C.pin f:=fun hp => by
 obtain ⟨_,h2,h3⟩:=hg.pin f hp
 rw [← h2,h] at h3
 cases h3
end
end Go.V

/-
 The same of an array that a variable's cell refers to; rows that are held,taken apart.
-/
namespace Go.V
section
variable {C:Ctx} {σ:St}
end
end Go.V

/-
 Rows that are held,taken apart: a slice of slices of rows,each an object of its own.
-/
namespace Go.V
section
variable {C:Ctx} {σ:St}
end
section
variable {C:Ctx} {σ:St} {K:St → Prop} {is:List Ins} {Q:Exit → St → Prop}
theorem WV_ex {τ:Type} {v:VC} {S:τ → St} {p:τ → Prop} (h:∀ a w,Gam C σ a w → ∃ x,p x ∧ Gam C (S x) a w) (h2:∀ x,p x → WV C v Q (S x)):WV C v Q σ:=fun c hc a w hg => by
 obtain ⟨x,hp,hx⟩:=h a w hg
 exact h2 x hp c hc a w hx
end
end Go.V

/-
 Calls of functions that have no text: what the model does at them.
-/
namespace Go.V
end Go.V

/-
 A grid that the call owns: lent to others,held on to,and turned into data.
-/
namespace Go.V
section
variable {α:Type} {cds:α → List CD} {R R':List (Row α)} {j m:Nat} {o:Nat → Ob}
end
end Go.V

/-
 Drawn regions with calls at known places.
-/
namespace Go.V
section
variable {C:Ctx}
variable {ops:Array Oper} {is:List Ins} {K:St → Prop} {σ:St} {Q:Exit → St → Prop}
section
variable {α:Type} {cds:α → List CD} {R R':List (Row α)} {j m:Nat} {o:Nat → Ob}
end
end
end Go.V

/-
 More operations without an instruction of their own: new bytes of whatever value,a slice that is cut in three,copies into an own object.
-/
namespace Go.V
section
variable {C:Ctx} {σ:St} {K:St → Prop} {is:List Ins} {Q:Exit → St → Prop}
end
end Go.V

/-
 A grid that grows row by row: its rows are objects of a family.
-/
namespace Go.V
section
variable {α:Type} {cds:α → List CD} {C:Ctx} {K:St → Prop} {is:List Ins}
end
end Go.V

/-
 A grid that has grown is lent.
-/
namespace Go.V
section
variable {α:Type} {cds:α → List CD} {C:Ctx} {K:St → Prop} {is:List Ins} {Q:Exit → St → Prop} {v:VC}
end
end Go.V

/-
 A grid of any kind of cells: handed out by a call,and turned into data.
-/
namespace Go.V
section
variable {α:Type} {cds:α → List CD} {C:Ctx} {Q:Exit → St → Prop} {K:St → Prop} {is:List Ins}
end
end Go.V

/-
 Arrays by value: built,and an element taken.
-/
namespace Go.V
theorem raw_bldA {P:Program} {σ:St} {d:Option Nat} {t e:TypeId} {n sz:Nat} {parts:Array (Nat × Operand)} {z:List AV} {ps:List (Nat × Nat × X)} {p:Prop} {r:List AV} {K:St → Prop} (hu:P.underlying t = some (.array n e)) (hs:sizeB P e = some sz) (hz:zeroB P t = some z)
  (h1:(parts.toList.map fun (x:Nat × Operand) => x.2).mapM cX = some (ps.map fun x => x.2.2)) (h2:∀ (i:Nat) (q:Nat × Operand),parts.toList[i]? = some q → ∃ r:Nat × Nat × X,ps[i]? = some r ∧ some (q.1 * sz,sz) = some (r.1,r.2.1))
  (hb:bldGo σ ps z = some (p,r)) (hp:p) (hK:K (σ.put d (.agg r))):RawI P d (.raw (.build t parts)) K σ:=by
 refine RawI_snd (fun C loc a w o hP ho hg => ?_) hK
 subst hP
 obtain ⟨it,zv,hit,hzv,hone,rfl⟩:=zeroB_spec hz
 obtain ⟨arr',hf,hr⟩:=bld_sound hg (fun i => some (i * sz,sz)) parts.toList ps _ zv.cells h1 h2 hb hp (cdOfValue_reps w _ loc _ hone)
 have hie:∃ ie,C.P.info? e = some ie ∧ ie.size = sz:=by
  unfold sizeB at hs
  simpa using hs
 obtain ⟨ie,hie,rfl⟩:=hie
 have hbuilt:C.P.built t (parts.map fun (i,x) => (i,a.eval x)).toList = some arr':=by
  unfold Program.built
  simp only [hit,hu,hzv,hie]
  simpa using hf
 exact ⟨.agg arr',by simp [execOp,ho,run_build w t _ arr' hbuilt],by simp only [RepA]; exact ⟨arr'.toList,by simp,hr⟩⟩
end Go.V

/-
 An object takes another's place,also the place of one that is lent.
-/
namespace Go.V
theorem WV_moveP {C:Ctx} {Q:Exit → St → Prop} {x:VC} {env:Nat → AV} {own:Nat → Ob} (d n:Nat) (hdn:d ≠ n) (hp:¬ C.pin n) (hn:own n = .none) (h:WV C x Q ⟨rnE d n env,rnO d n own⟩):WV C x Q ⟨env,own⟩ :=
 WV_weak (fun _ _ hg => Gam_move hdn hp hn hg) h
end Go.V

/-
 An array of data that a loop's rounds make,held as one object and known by its address; taken and given again.
-/
namespace Go.V
section
variable {τ:Type}
def noLoc:Nat → Value:=fun _ => undef
def arrJ (F:τ → List CD) (sz:Nat) (l:List τ) (arr:Option Value) (rem:List Ent) (L:List Nat) (M:Nat → Nat → Prop) (w:World):Prop :=
 rem = [] ∧ match arr with
  | none => L = []
  | some v => ∃ g cap j lv ty,v = .slice (some ⟨g,0,none⟩) l.length cap ∧ L = [g] ∧ AtC w g lv ty ∧ RepAs w M noLoc (cellsG F l j) lv ∧ l.length ≤ cap ∧ cap ≤ maxLen ∧ cap * sz ≤ l.length * sz + j
def gA (F:τ → List CD) (sz:Nat) (l:List τ) (arr:Option Value):Gst:=⟨.bool false,arrJ F sz l arr⟩
def harr (F:τ → List CD) (sz:Nat) (l:List τ) (arr:Option Value):Ob:=.guest (gA F sz l arr) []
end
section
variable {C:Ctx} {σ:St} {τ:Type} {F:τ → List CD} {sz:Nat}
end
section
variable {C:Ctx} {σ:St} {K:St → Prop} {is:List Ins} {Q:Exit → St → Prop} {τ:Type} {F:τ → List CD} {sz:Nat}
end
end Go.V

/-
 Maps whose keys and values are numbers,or structs of numbers: each one object,known by its address.
-/
namespace Go.V
def kval (ag:Bool) (l:List Int):Value:=if ag then .agg (l.map (Value.int .i64)).toArray else .int .i64 (l.headD 0)
structure KLaw (P:Program) (k:TypeId) (K:Value → Prop):Prop where
 check:∀ (w:World) (em:Bool) {v:Value},K v → (Instr.checkKey em 10000 k v).run P w = .ok () w
 find:∀ (w:World) {x:Value},K x → ∀ es:List MapEntry,(∀ e ∈ es,K e.key) →
  ((Instr.findKey k x es).run P w = .ok none w ∧ ∀ e ∈ es,e.key ≠ x) ∨ ∃ j e,(Instr.findKey k x es).run P w = .ok (some (j,e.val)) w ∧ es[j]? = some e ∧ e.key = x
 stays:∀ (w:World) {v:Value},K v → (Instr.keyThatStays v v).run P w = .ok v w
theorem KLaw.wide {P:Program} {k:TypeId} (h:WideMaps.KeyLaw P k):KLaw P k (fun v => ∃ l,keyOf P k v = some l) :=
 ⟨fun w em _ ⟨_,hv⟩ => h.check w em hv,fun w _ ⟨_,hx⟩ es hes => h.find w hx es hes,fun w _ ⟨_,hv⟩ => h.stays w hv⟩
abbrev GL:=List (List Int × List Int)
def gvals (ka va:Bool) (l:GL):List (Value × Value):=l.map fun p => (kval ka p.1,kval va p.2)
def gmJ (ka va:Bool) (l:GL) (b:Nat) (rem:List Ent) (L:List Nat) (_:Nat → Nat → Prop) (w:World):Prop :=
 rem = [] ∧ L = [b] ∧ ∃ es clock,w.heap[b]? = some (.map es clock) ∧ MapKept.Stamped es clock ∧ es.toList.map (fun e => (e.key,e.val)) = gvals ka va l
def gmG (ka va:Bool) (l:GL) (b:Nat):Gst:=⟨.bool false,gmJ ka va l b⟩
def gmap (ka va:Bool) (l:GL) (b:Nat):Ob:=.guest (gmG ka va l b) []
section
variable {C:Ctx} {σ:St} {loc:Nat → Value} {a:Act} {w:World}
theorem G.setGuest (hg:G C σ loc a w) {n b:Nat} {L:List Nat} {g g':Gst} {rem rem':List Ent} {o o':Obj} (hown:σ.own n = .guest g rem) (hloc:loc n = encV L) (hbL:b ∈ L) (hh:w.heap[b]? = some o) (hnd:∀ x,o ≠ .deferred x)
  (hok:g'.Ok C.P) (hJ:∀ M,g'.J rem' L M { w with heap:=w.heap.setIfInBounds b o' }):G C ⟨σ.env,upd σ.own n (.guest g' rem')⟩ loc a { w with heap:=w.heap.setIfInBounds b o' }:=by
 have hob:=hg.objs n
 rw [hown] at hob
 obtain ⟨_,L2,hl2,_,hA⟩:=hob
 have hLL:∀ x,x ∈ L ↔ x ∈ L2:=encV_inj (hloc.symm.trans hl2)
 have hB:=(hA b ((hLL b).1 hbL)).2
 have hnb:(σ.own n).has (loc n) b:=by rw [hown,hloc]; simp only [Ob.has,footV_encV]; exact hbL
 have hset:=MapKept.heap_set (o':=o') hh
 have hhas:∀ (k b2:Nat),(upd σ.own n (.guest g' rem') k).has (loc k) b2 ↔ (σ.own k).has (loc k) b2:=by
  intro k b2
  by_cases hkn:k = n
  ·subst hkn; simp only [upd,if_true]; rw [hown]; exact Iff.rfl
  ·simp only [upd,hkn,if_false]
 have hmut:∀ (k b2 o2:Nat),(upd σ.own n (.guest g' rem') k).mut (loc k) b2 o2 ↔ (σ.own k).mut (loc k) b2 o2:=by
  intro k b2 o2
  by_cases hkn:k = n
  ·subst hkn; simp only [upd,if_true]; rw [hown]; exact Iff.rfl
  ·simp only [upd,hkn,if_false]
 have hk:Keeps w { w with heap:=w.heap.setIfInBounds b o' } (MM C σ.own loc) (MM C (upd σ.own n (.guest g' rem')) loc):=by
  refine ⟨fun p hp hm => cell_setBlock_other w b _ p (fun hpb => hm (.inr ⟨n,?_⟩)),fun p hp hm hm' => ?_⟩
  ·rw [hown,hloc]
   simp only [Ob.mut,footV_encV]
   rw [hpb]; exact hbL
  ·rcases hm' with h0 | ⟨m,h0⟩
   ·exact hm (.inl h0)
   ·exact hm (.inr ⟨m,(hmut m _ _).1 h0⟩)
 have hsz:w.heap.size ≤ ({ w with heap:=w.heap.setIfInBounds b o' }:World).heap.size:=by simp
 have hfr:Fr C { w with heap:=w.heap.setIfInBounds b o' }:=⟨hg.fr.os,hg.fr.tape,hg.fr.output,by have:=hg.fr.size; simpa using this,fun k hk hx => by
  rw [hset.2 k (by rintro rfl; rcases hB with h' | h'; omega; exact hx h')]
  exact hg.fr.block k hk hx⟩
 refine ⟨hfr,hg.m0,hg.kp.trans hk,fun x hx => ?_,hg.mnd,hg.pin,hg.size,fun t => RepA.keep hk _ _ (hg.slots t),fun m => ?_,fun m k b2 hmk hm hk2 => ?_⟩
 ·obtain ⟨D,e1,e2,e3,e4⟩:=hg.marks x hx
  refine ⟨D,e1,e2,?_,fun ⟨k,hk⟩ => e4 ⟨k,(hhas k D).1 hk⟩⟩
  rw [hset.2 D (by rintro rfl; rw [hh] at e3; exact hnd _ (Option.some.inj e3))]
  exact e3
 ·by_cases hmn:m = n
  ·subst hmn
   simp only [upd,if_true]
   exact ⟨hok,L,hloc,hJ _,fun b2 hb2 => ⟨by simpa using (hA b2 ((hLL b2).1 hb2)).1,(hA b2 ((hLL b2).1 hb2)).2⟩⟩
  ·simp only [upd,hmn,if_false]
   exact ObOk.keep' hk hsz (fun b2 hb2 => hset.2 b2 (fun hbb => hg.disj m n b hmn (hbb ▸ hb2) hnb)) (hg.objs m)
 ·exact hg.disj m k b2 hmk ((hhas m b2).1 hm) ((hhas k b2).1 hk2)
end
end Go.V

/-
 Such maps: made,looked into,written.
-/
namespace Go.V
theorem run_zero {P:Program} {w:World} {e:TypeId} {z:Value} (hz:(P.info? e).bind (·.zero) = some z):(zeroValue e).run P w = .ok z w:=by
 cases hinf:P.info? e with
 | none => simp [hinf] at hz
 | some inf =>
  simp only [hinf,Option.bind_some] at hz
  simp [zeroValue,typeInfo,hinf,hz]
section
variable {P:Program} {σ:St} {K:St → Prop}
end
end Go.V

/-
 Ranges over such maps: in whatever order.
-/
namespace Go.V
def gmE (es:Array MapEntry) (clock b:Nat):Gst:=⟨.bool false,fun rem L _ w => rem = [] ∧ L = [b] ∧ w.heap[b]? = some (.map es clock)⟩
def mapE (es:Array MapEntry) (clock b:Nat):Ob:=.guest (gmE es clock b) []
def gIt (r b since:Nat) (seen:Array Nat) (last:Nat):Gst:=⟨.bool false,fun rem L _ w => rem = [] ∧ L = [r] ∧ w.heap[r]? = some (.mapIter (some b) since seen last)⟩
def iterE (r b since:Nat) (seen:Array Nat) (last:Nat):Ob:=.guest (gIt r b since seen last) []
section
variable {C:Ctx} {σ:St} {loc:Nat → Value} {a:Act} {w:World}
end
section
variable {C:Ctx} {σ:St} {K:St → Prop} {is:List Ins} {Q:Exit → St → Prop}
end
section
variable {P:Program} {σ:St} {K:St → Prop}
end
end Go.V

/-
 Slices of numbers,each one object and known by its address: made,read,cut,grown.
-/
namespace Go.V
section
variable {C:Ctx} {σ:St} {loc:Nat → Value} {a:Act} {w:World}
end
def qvals (xs:List (List Int)):List Value:=xs.flatten.map (Value.int .i64)
def queJ (e:TypeId) (sz:Nat) (xs:List (List Int)) (b off cap:Nat) (rem:List Ent) (L:List Nat) (_:Nat → Nat → Prop) (w:World):Prop :=
 rem = [] ∧ L = [b] ∧ ∃ cur:Array Value,w.heap[b]? = some (.cells cur e (0,0)) ∧ off + cap * sz ≤ cur.size ∧ (∀ x ∈ xs,x.length = sz) ∧ xs.length ≤ cap ∧ cap ≤ maxLen ∧ (cur.toList.drop off).take (xs.length * sz) = qvals xs
def qG (e:TypeId) (sz:Nat) (xs:List (List Int)) (b off cap:Nat):Gst:=⟨.bool false,queJ e sz xs b off cap⟩
def qO (e:TypeId) (sz:Nat) (xs:List (List Int)) (b off cap:Nat):Ob:=.guest (qG e sz xs b off cap) []
def qv (b off n cap:Nat):AV:=.c (.raw (.slice (some ⟨b,off,none⟩) n cap))
def qp (b off:Nat):AV:=.c (.raw (.pointer (some ⟨b,off,none⟩)))
theorem add_at (b off j:Nat):(⟨b,off,none⟩ : Addr).add j = ⟨b,off + j,none⟩:=by unfold Addr.add; split <;> simp_all
section
variable {P:Program} {σ:St} {K:St → Prop}
theorem RawI_sndI {d:Option Nat} {i:I} {v:AV} (h:∀ (C:Ctx) (loc:Nat → Value) (a:Act) (w:World) (o:Oper),C.P = P → CI P o.op i → G C σ loc a w → Snd C σ loc a w o v) (hK:K (σ.put d v)):RawI P d i K σ:=by
 intro C loc a w o hP hc hd hdl hg
 obtain ⟨u,hrun,hr⟩:=h C loc a w o hP (by rw [← hP]; exact cI_inv hc) hg
 exact ⟨_,⟨w,loc,.inl ⟨u,hrun,by rw [hd] at hdl ⊢; exact hg.put hdl hr⟩⟩,hK⟩
end
section
variable {P:Program} {σ:St} {K:St → Prop}
end
section
variable {C:Ctx} {σ:St} {K:St → Prop} {is:List Ins} {Q:Exit → St → Prop}
end
section
variable {P:Program} {σ:St} {K:St → Prop}
end
end Go.V

/-
 Arrays of four numbers compared; a look into a map that does not tell whether there is something.
-/
namespace Go.V
section
variable {P:Program} {σ:St} {K:St → Prop}
def bndJ (P:Program) (f:FuncId) (av:AV) (fv:Value) (rem:List Ent) (L:List Nat) (M:Nat → Nat → Prop) (w:World):Prop :=
 L = [] ∧ fv.oneCell' = true ∧ (∃ wv,fv = .func (.func f) #[wv] #[] ∧ RepA w M noLoc av wv) ∧ ∀ e ∈ rem,AV.pureL e.args = true ∧ e.res.scal = true ∧ FSpec P f (av :: e.args) e.res
def gB (P:Program) (f:FuncId) (av:AV) (fv:Value):Gst:=⟨fv,bndJ P f av fv⟩
theorem gB_ok (f:FuncId) (av:AV) (fv:Value) (h1:fv.oneCell' = true):(gB P f av fv).Ok P:=by
 refine ⟨h1,?_,?_⟩
 ·rintro rem L M w M' w' ⟨k1,k2,⟨wv,k3,k4⟩,k5⟩ hk hb hs
  exact ⟨k1,k2,⟨wv,k3,RepA.keep hk _ _ k4⟩,k5⟩
 ·rintro args wins r rem L M w loc vs ⟨k1,k2,⟨wv,k3,k4⟩,k5⟩ hM hL hr hl hw hd
  obtain ⟨j1,j2,j3,j4⟩:=k5 ⟨args,wins,r⟩ (by simp)
  simp only at j1 j2 j4
  subst k1
  refine ⟨j2,.inl ⟨f,#[wv],#[],k3,j3,?_⟩⟩
  have h5:=j4 w M (wv :: vs) hM (by simp only [RepAs]; exact ⟨wv,vs,rfl,k4,pures_loc j1 hr⟩)
  have e1:#[wv] ++ vs.toArray ++ #[] = (wv :: vs).toArray:=by apply Array.ext'; simp
  show Calls P f (#[wv] ++ vs.toArray ++ #[]) w _
  rw [e1]
  refine h5.mono fun e w' ⟨v,e2,e3,e4⟩ => ⟨v,[],e2,scal_rep j2 e3,⟨e4.os,e4.tape,e4.output,e4.size,fun k hk _ => e4.block k hk⟩,(fun b hb => by cases hb),⟨rfl,k2,⟨wv,k3,?_⟩,fun e he => k5 e (List.mem_cons_of_mem _ he)⟩⟩
  have hsub:∀ b o,(M b o ∧ b ∉ ([]:List Nat)) ∨ b ∈ ([]:List Nat) → M b o:=fun b o h => by
   rcases h with h | h
   ·exact h.1
   ·cases h
  exact RepA.keep (⟨fun p hp _ => World.cell?_of_block (e4.block _ (cell_lt hp)),fun p hp hm hm' => hm (hsub _ _ hm')⟩ : Keeps w w' M _) _ _ k4
theorem raw_bound {d:Nat} {f:FuncId} {x:Operand} {x':X} {av:AV} (rem:List Ent) (hx:cX x = some x') (h1:(σ.val x').dg = true) (hv:(σ.val x').dv = av) (hp:av.pureB = true) (hn:(σ.own d).isNone = true)
  (hrem:∀ e ∈ rem,AV.pureL e.args = true ∧ e.res.scal = true ∧ FSpec P f (av :: e.args) e.res)
  (hK:∀ g:Gst,K ⟨upd (prgE d σ.env) d (.c (.raw g.fv)),upd (prgO d σ.own) d (.guest g rem)⟩):RawI P (some d) (.raw (.makeFunc (.func f) #[x] #[])) K σ:=by
 refine RawI_raw fun C loc a w o hP ho hod hdl hg => ?_
 subst hP
 have hd:d < C.N:=by simpa using hdl
 have rx:=vald hg hx h1
 rw [hv] at rx
 have hnone:σ.own d = .none:=by cases h:σ.own d <;> simp_all [Ob.isNone]
 have hpd:¬ C.pin d:=fun h => by have:=(hg.pin d h).1.1; omega
 have h2:=hg.forget hnone hpd
 have hk0:=Keeps.less (w:=w) (M:=MM C σ.own loc) (M':=MM C (prgO d σ.own) (upd loc d undef)) (fun b o h => by
  rcases h with h | ⟨m,h⟩
  ·exact .inl h
  ·simp only [prgO,Ob.mut_prg] at h
   by_cases hm:m = d
   ·subst hm; rw [hnone] at h; exact (Ob.has_none _ _ (Ob.has_of_mut h)).elim
   ·exact .inr ⟨m,by simpa [upd,hm] using h⟩)
 have rx2:=RepA.keep hk0 _ _ rx
 obtain ⟨fv,hfv⟩ : ∃ fv,fv = Value.func (.func f) #[a.eval x] #[]:=⟨_,rfl⟩
 have hone:fv.oneCell' = true:=by rw [hfv]; rfl
 have hl:∀ m,(upd loc d undef m).oneCell' = true → upd loc d (encV []) m = upd loc d undef m:=by
  intro m hm
  by_cases e:m = d
  ·subst e; simp [upd] at hm; cases hm
  ·simp [upd,e]
 have hfo:∀ m b,(upd (prgO d σ.own) d (.guest (gB C.P f av fv) rem) m).has (upd loc d (encV []) m) b → (prgO d σ.own m).has (upd loc d undef m) b:=by
  intro m b h
  by_cases e':m = d
  ·subst e'
   simp only [upd,if_true,Ob.has,footV_encV] at h
   cases h
  ·simp only [upd,e',if_false] at h ⊢
   exact h
 have h3:G C ⟨prgE d σ.env,upd (prgO d σ.own) d (.guest (gB C.P f av fv) rem)⟩ (upd loc d (encV [])) a w:=by
  refine h2.reown (fun n hn' => ?_) (fun t => RepA.reloc hl (h2.slots t)) (fun b o hm => ?_) (fun b ⟨n,h⟩ => ⟨n,hfo n b h⟩) (fun n => ?_) (fun n m b hnm k1 k2 => h2.disj n m b hnm (hfo n b k1) (hfo m b k2))
  ·have:n ≠ d:=fun e => hpd (e ▸ hn')
   simp [upd,this]
  ·obtain ⟨n,h⟩:=hm
   by_cases e':n = d
   ·subst e'
    simp only [upd,if_true,Ob.mut,footV_encV] at h
    cases h
   ·exact ⟨n,by simp only [upd,e',if_false] at h ⊢; exact h⟩
  ·by_cases e':n = d
   ·subst e'
    simp only [upd,if_true]
    exact ⟨gB_ok _ _ _ hone,[],rfl,⟨rfl,hone,⟨_,hfv,pure_loc hp rx2⟩,hrem⟩,fun b hb => by cases hb⟩
   ·have:=h2.objs n
    simp only [upd,e',if_false] at this ⊢
    exact ObOk.reloc (loc:=upd loc d undef) hl this
 refine ⟨_,⟨w,upd loc d (encV []),.inl ⟨fv,?_,?_⟩⟩,hK (gB C.P f av fv)⟩
 ·simp [execOp,ho,Instr.makeFunc,hfv]
 ·rw [hod]
  exact h3.put (d:=some d) hdl (by simp only [gB,RepA,RepC]; first | exact ⟨trivial,hone⟩ | exact ⟨hone,trivial⟩)
theorem raw_idx1 {d:Option Nat} {t e:TypeId} {n:Nat} {x i:Operand} {x' i':X} {k:IntKind} {j:Int} {cs:List AV} {v:AV} (hu:P.underlying t = some (.array n e)) (ha:isAggB P e = some false) (hs:sizeB P e = some 1)
  (hx:cX x = some x') (hi:cX i = some i') (h1:(σ.val x').dg = true) (h2:(σ.val i').dg = true) (hv:(σ.val x').dv = .agg cs) (hj:(σ.val i').dv = .c (.int k j)) (hr:0 ≤ j ∧ j < n) (hc:cs[j.toNat]? = some v)
  (hK:K (σ.put d v)):RawI P d (.raw (.index t x i)) K σ:=by
 refine RawI_snd (fun C loc a w o hP ho hg => ?_) hK
 subst hP
 have rx:=vald hg hx h1
 have ri:=vald hg hi h2
 rw [hv] at rx
 rw [hj] at ri
 simp only [RepA,RepC] at rx ri
 obtain ⟨l,ex,hrs⟩:=rx
 have hie:∃ ie,C.P.info? e = some ie ∧ ie.size = 1:=by
  unfold sizeB at hs
  simpa using hs
 obtain ⟨ie,hie,hsz⟩:=hie
 have hsr:(sizeOf e).run C.P w = .ok 1 w:=by simp [sizeOf,typeInfo,hie,hsz]
 obtain ⟨u,hu2,hru⟩:=hrs.get _ hc
 refine ⟨u,?_,hru⟩
 simp [execOp,ho,ex,ri,Instr.index,run_underlying hu,asIntOf,hr.1,hr.2,hsr,run_part_one (w:=w) ha (cs:=l.toArray) (off:=j.toNat) (by simpa using hu2)]
end
attribute [go_sem] gmap qO qv qp
end Go.V

/-
 Ranges over maps,with the entries that are left; an empty guest,which something can come back as.
-/
namespace Go.V
section
variable {P:Program} {σ:St} {K:St → Prop}
end
def gE:Gst:=⟨.bool false,fun rem L _ _ => rem = [] ∧ L = []⟩
def empO:Ob:=.guest gE []
theorem gE_ok (P:Program):gE.Ok P:=by
 refine ⟨rfl,?_,?_⟩
 ·rintro rem L M w M' w' h hk hb hs; exact h
 ·rintro args wins r rem L M w loc vs ⟨h1,_⟩; cases h1
section
variable {C:Ctx} {σ:St}
theorem Gam_holdE {f:Nat} (hn:σ.own f = .none) (hp:¬ C.pin f):∀ a w,Gam C σ a w → Gam C ⟨prgE f σ.env,upd (prgO f σ.own) f empO⟩ a w:=by
 rintro a w ⟨loc,hg⟩
 have h1:=hg.forget hn hp
 have hl:∀ m,(upd loc f undef m).oneCell' = true → upd loc f (encV []) m = upd loc f undef m:=by
  intro m hm
  by_cases e:m = f
  ·subst e; simp [upd] at hm; cases hm
  ·simp [upd,e]
 have hfo:∀ m b,(upd (prgO f σ.own) f empO m).has (upd loc f (encV []) m) b → (prgO f σ.own m).has (upd loc f undef m) b:=by
  intro m b h
  by_cases e':m = f
  ·subst e'
   simp only [upd,if_true,empO,Ob.has,footV_encV] at h
   cases h
  ·simp only [upd,e',if_false] at h ⊢
   exact h
 refine ⟨upd loc f (encV []),h1.reown (fun n hn' => ?_) (fun t => RepA.reloc hl (h1.slots t)) (fun b o hm => ?_) (fun b ⟨n,h⟩ => ⟨n,hfo n b h⟩) (fun n => ?_) (fun n m b hnm k1 k2 => h1.disj n m b hnm (hfo n b k1) (hfo m b k2))⟩
 ·have:n ≠ f:=fun e => hp (e ▸ hn')
  simp [upd,this]
 ·obtain ⟨n,h⟩:=hm
  by_cases e':n = f
  ·subst e'
   simp only [upd,if_true,empO,Ob.mut,footV_encV] at h
   cases h
  ·exact ⟨n,by simp only [upd,e',if_false] at h ⊢; exact h⟩
 ·by_cases e':n = f
  ·subst e'
   simp only [upd,if_true]
   exact ⟨gE_ok _,[],rfl,⟨rfl,rfl⟩,fun b hb => by cases hb⟩
  ·have:=h1.objs n
   simp only [upd,e',if_false] at this ⊢
   exact ObOk.reloc (loc:=upd loc f undef) hl this
theorem WV_holdE {v:VC} {Q:Exit → St → Prop} (f:Nat) (hf:f < 1000) (hn:σ.own f = .none) (h:WV C v Q ⟨prgE f σ.env,upd (prgO f σ.own) f empO⟩):WV C v Q σ :=
 WV_weak (fun a w hg => Gam_holdE hn (fun hp => by obtain ⟨_,hg'⟩:=hg; have:=(hg'.pin f hp).1; omega) a w hg) h
end
attribute [go_sem] empO mapE iterE
end Go.V

/-
 A contract out of a call that leaves all that lay there as it was.
-/
namespace Go.V
open Go.RowKit
theorem FSpecL_keep {P:Program} {f:FuncId} {args:List AV} {l:List Ob} {Post:AV → Prop} (hf:callable P f) (hl:l.length ≤ 1000)
  (h:∀ (w:World) (M:Cells) (loc:Nat → Value) (vs:List Value),LentOk P w M loc (ownW l []) → RepAs w (AddM M (ownW l []) loc) loc args vs →
   Calls P f vs.toArray w fun e w' => ∃ v r,e = .returned v ∧ Post r ∧ Below w.heap.size w w' ∧ ∀ M':Cells,(∀ b o,M' b o → b < w.heap.size) → RepA w' M' loc r v) :
  FSpecL P f args l [] (fun r l' => Post r ∧ l' = l):=by
 refine ⟨hf,hl,fun w M loc vs hM hLO hrep => (h w M loc vs hLO hrep).mono ?_⟩
 rintro e w' ⟨v,r,rfl,hp,hb,hr⟩
 have hlt:∀ b o,AddM M (ownW l []) loc b o → b < w.heap.size:=by
  rintro b o (h | ⟨n,h⟩)
  ·exact (hM b o h).1
  ·exact (hLO.objs n).lt (Ob.has_of_mut h)
 have hk:Keeps w w' (AddM M (ownW l []) loc) (AddM M (ownW l []) loc):=⟨fun p hp _ => World.cell?_of_block (hb.block _ (cell_lt hp)),fun p hp h => h⟩
 exact ⟨v,r,l,loc,rfl,⟨hp,rfl⟩,rfl,⟨hb.os,hb.tape,hb.output,hb.size,fun k hk _ => hb.block k hk⟩,hk,⟨fun n => ObOk.keep' hk hb.size (fun b hb' => hb.block b ((hLO.objs n).lt hb')) (hLO.objs n),hLO.disj⟩,fun n b h => .inl ⟨n,h⟩,fun n h => ⟨h,rfl⟩,hr _ hlt⟩
end Go.V

/-
 Slices of slices of numbers that grow: one object; its array and its rows are known by their addresses.
-/
namespace Go.V
section
variable {C:Ctx} {σ:St}
variable {K:St → Prop} {is:List Ins} {Q:Exit → St → Prop}
end
section
variable {P:Program} {σ:St} {K:St → Prop}
end
section
variable {P:Program} {σ:St} {K:St → Prop}
end
end Go.V

/-
 An entry of a map that is written behind its reading (m[k]++): the place first,the value later.
-/
namespace Go.V
section
variable {P:Program} {σ:St} {K:St → Prop}
end
end Go.V

/-
 Maps whose keys are strings,boxes that are known by their place,values behind interfaces.
-/
namespace Go.V
open Go.WideMaps
abbrev SL:=List (List UInt8 × Value)
def sv (s:List UInt8):Value:=.string ⟨s.toArray⟩
theorem sv_inj {a b:List UInt8} (h:sv a = sv b):a = b:=by
 simp only [sv,Value.string.injEq,ByteArray.mk.injEq] at h
 exact congrArg Array.toList h
def svals (l:SL):List (Value × Value):=l.map fun p => (sv p.1,p.2)
def slook (l:SL) (k:List UInt8):Option Value:=(l.find? fun p => p.1 == k).map (·.2)
theorem find_nodup:∀ (l:SL) (j:Nat) (p:List UInt8 × Value),(l.map (·.1)).Nodup → l[j]? = some p → l.find? (fun q => q.1 == p.1) = some p
 | [],j,p,_,h => by simp at h
 | q :: l,0,p,_,h => by
  simp only [List.getElem?_cons_zero,Option.some.injEq] at h
  subst h
  simp
 | q :: l,j + 1,p,hn,h => by
  simp only [List.getElem?_cons_succ] at h
  simp only [List.map_cons,List.nodup_cons] at hn
  have hp:p ∈ l:=List.mem_of_getElem? h
  have hne:(q.1 == p.1) = false:=by
   simp only [beq_eq_false_iff_ne,ne_eq]
   intro he
   exact hn.1 (he ▸ List.mem_map_of_mem hp)
  rw [List.find?_cons,hne]
  exact find_nodup l j p hn.2 h
theorem slook_some {l:SL} {es:Array MapEntry} {k:List UInt8} (h:es.toList.map (fun e => (e.key,e.val)) = svals l) (hn:(es.toList.map (·.key)).Nodup) {j:Nat} {e:MapEntry} (he:es.toList[j]? = some e) (hk:e.key = sv k):slook l k = some e.val:=by
 have hj:(es.toList.map (fun e => (e.key,e.val)))[j]? = some (e.key,e.val):=by rw [List.getElem?_map,he]; rfl
 rw [h] at hj
 unfold svals at hj
 rw [List.getElem?_map] at hj
 cases hl:l[j]? with
 | none => rw [hl] at hj; cases hj
 | some p =>
  rw [hl] at hj
  simp only [Option.map_some,Option.some.injEq,Prod.mk.injEq] at hj
  have hpk:p.1 = k:=sv_inj (hj.1.trans hk)
  have hnd:(l.map (·.1)).Nodup:=by
   have h2:es.toList.map (·.key) = (l.map (·.1)).map sv:=by
    have:=congrArg (List.map Prod.fst) h
    simpa [svals,Function.comp_def] using this
   rw [h2] at hn
   exact List.Pairwise.of_map sv (fun a b hab he => hab (by rw [he])) hn
  have:=find_nodup l j p hnd hl
  unfold slook
  rw [← hpk,this]
  simp [hj.2]
theorem slook_none {l:SL} {es:Array MapEntry} {k:List UInt8} (h:es.toList.map (fun e => (e.key,e.val)) = svals l) (hk:∀ e ∈ es.toList,e.key ≠ sv k):slook l k = none:=by
 unfold slook
 rw [Option.map_eq_none_iff,List.find?_eq_none]
 intro p hp hpk
 simp only [beq_iff_eq] at hpk
 have hm:(sv p.1,p.2) ∈ svals l:=List.mem_map.2 ⟨p,hp,rfl⟩
 rw [← h] at hm
 obtain ⟨e,he,h3⟩:=List.mem_map.1 hm
 simp only [Prod.mk.injEq] at h3
 exact hk e he (by rw [h3.1,hpk])
def smJ (l:SL) (b:Nat) (rem:List Ent) (L:List Nat) (_:Nat → Nat → Prop) (w:World):Prop :=
 rem = [] ∧ L = [b] ∧ ∃ es clock,w.heap[b]? = some (.map es clock) ∧ MapKept.Stamped es clock ∧ es.toList.map (fun e => (e.key,e.val)) = svals l
def smG (l:SL) (b:Nat):Gst:=⟨.bool false,smJ l b⟩
def smap (l:SL) (b:Nat):Ob:=.guest (smG l b) []
theorem smG_ok (P:Program) (l:SL) (b:Nat):(smG l b).Ok P:=by
 refine ⟨rfl,?_,?_⟩
 ·rintro rem L M w M' w' ⟨h1,h2,es,clock,h3,h4⟩ hk hb hs
  exact ⟨h1,h2,es,clock,by rw [hb b (by rw [h2]; simp)]; exact h3,h4⟩
 ·rintro args wins r rem L M w loc vs ⟨h1,_⟩
  cases h1
def vbJ (v:Value) (b:Nat) (rem:List Ent) (L:List Nat) (_:Nat → Nat → Prop) (w:World):Prop :=
 rem = [] ∧ L = [b] ∧ w.cell? ⟨b,0,none⟩ = some v
def vbG (v:Value) (b:Nat):Gst:=⟨.bool false,vbJ v b⟩
def vbox (v:Value) (b:Nat):Ob:=.guest (vbG v b) []
theorem vbG_ok (P:Program) (v:Value) (b:Nat):(vbG v b).Ok P:=by
 refine ⟨rfl,?_,?_⟩
 ·rintro rem L M w M' w' ⟨h1,h2,h3⟩ hk hb hs
  exact ⟨h1,h2,(World.cell?_of_block (hb b (by rw [h2]; simp))).trans h3⟩
 ·rintro args wins r rem L M w loc vs ⟨h1,_⟩
  cases h1
def notI:TypeDesc → Bool
 | .interface _ => false
 | _ => true
section
variable {P:Program} {σ:St} {K:St → Prop}
theorem raw_mkS {d:Nat} {t:TypeId} (hn:(σ.own d).isNone = true) (hK:∀ b,K (St.new σ d (.c (.raw (.map (some b)))) (smap [] b))):RawI P (some d) (.raw (.makeMap t none)) K σ:=by
 refine RawI_raw fun C loc a w o hP ho hod hdl hg => ?_
 have hd:d < C.N:=by simpa using hdl
 refine ⟨_,⟨w.alloc (.map #[] 0),upd loc d (encV [w.heap.size]),.inl ⟨.map (some w.heap.size),?_,?_⟩⟩,hK w.heap.size⟩
 ·have h1:(Instr.makeMap t none).run C.P w = .ok (.map (some w.heap.size)) (w.alloc (.map #[] 0)):=rfl
  simp [execOp,ho,h1]
 ·rw [hod]
  refine hg.newblock hd hn (fun b hb => ?_) (fun M loc' hk hl hv => ?_) (fun M loc' hv => ?_)
  ·simp only [smap,Ob.has,footV_encV,List.mem_singleton] at hb
   exact hb
  ·refine ⟨smG_ok _ _ _,[w.heap.size],rfl,⟨rfl,rfl,#[],0,by rw [alloc_new],MapKept.stamped_empty 0,rfl⟩,fun b hb => ?_⟩
   simp only [List.mem_singleton] at hb
   subst hb
   exact ⟨by simp,.inl hg.fr.size⟩
  ·simp only [RepA,RepC]; exact ⟨trivial,rfl⟩
theorem sv_key {k:TypeId} (hk:P.underlying k = some .string) {s:List UInt8} (hs:s.length ≤ maxLen):∃ l,keyOf P k (sv s) = some l :=
 ⟨_,keyOf_string_mk hk (s:=⟨s.toArray⟩) (by simpa [ByteArray.size] using hs)⟩
theorem raw_putS {op:Op} {t k e:TypeId} {x i v:Operand} {x' i' v':X} {n b:Nat} {l:SL} {key:List UInt8} {val:Value} (hop:op = .mapUpdate t x i v ∨ op = .insert t x i v) (ht:P.underlying t = some (.map k e)) (hk:P.underlying k = some .string)
  (hx:cX x = some x') (hi:cX i = some i') (hvx:cX v = some v') (h1:(σ.val x').dg = true) (h2:(σ.val i').dg = true) (h3:(σ.val v').dg = true) (hv:(σ.val x').dv = .c (.raw (.map (some b)))) (hj:(σ.val i').dv = .c (.str key)) (hw:∀ w M loc u,RepA w M loc (σ.val v').dv u → u = val) (hown:σ.own n = smap l b)
  (hlen:key.length ≤ maxLen) (hls:∀ p ∈ l,p.1.length ≤ maxLen) (hnew:slook l key = none)
  (hK:K ⟨σ.env,upd σ.own n (smap (l ++ [(key,val)]) b)⟩):RawI P none (.raw op) K σ:=by
 refine RawI_raw fun C loc a w o hP ho hod hdl hg => ?_
 subst hP
 have hkl:=KLaw.wide (string_law hk)
 have rx:=vald hg hx h1
 have ri:=vald hg hi h2
 have rv:=hw _ _ _ _ (vald hg hvx h3)
 rw [hv] at rx
 rw [hj] at ri
 simp only [RepA,RepC] at rx ri
 change _ = sv key at ri
 have hkey:=sv_key hk hlen
 have hob:=hg.objs n
 rw [hown] at hob
 obtain ⟨_,L,hl,⟨_,rfl,es,clock,hb,hst,hes⟩,hA⟩:=hob
 have hks:∀ e ∈ es.toList,∃ l,keyOf C.P k e.key = some l:=fun e he => by
  have hm:(e.key,e.val) ∈ es.toList.map (fun e => (e.key,e.val)):=List.mem_map.2 ⟨e,he,rfl⟩
  rw [hes] at hm
  obtain ⟨p,hp,h3⟩:=List.mem_map.1 hm
  simp only [Prod.mk.injEq] at h3
  rw [← h3.1]; exact sv_key hk (hls p hp)
 have hrun:∃ es' clock',(Instr.mapUpdate t (.map (some b)) (sv key) val).run C.P w = .ok () { w with heap:=w.heap.setIfInBounds b (.map es' clock') } ∧ MapKept.Stamped es' clock' ∧ es'.toList.map (fun e => (e.key,e.val)) = svals (l ++ [(key,val)]):=by
  rcases hkl.find w hkey es.toList hks with ⟨f1,f2⟩ | ⟨j,e0,f1,f2,f3⟩
  ·refine ⟨es.push { key:=sv key,val:=val,born:=clock },clock + 1,?_,MapKept.stamped_push hst f2,?_⟩
   ·simp [Instr.mapUpdate,run_underlying ht,MapKept.run_getObj_map hb,hkl.check w _ hkey,f1,MapKept.run_setObj_map _ hb]
   ·rw [Array.toList_push,List.map_append,hes]
    unfold svals
    rw [List.map_append]; rfl
  ·rw [slook_some hes hst.2.2 f2 f3] at hnew
   cases hnew
 obtain ⟨es',clock',hr1,hr2,hr3⟩:=hrun
 refine ⟨_,⟨{ w with heap:=w.heap.setIfInBounds b (.map es' clock') },loc,.inr ⟨?_,?_⟩⟩,hK⟩
 ·rcases hop with rfl | rfl <;> simp [execOp,ho,rx.1,ri,rv,hr1]
 ·rw [hod]
  refine hg.setGuest (g:=smG l b) hown hl (by simp) hb (fun x h => by cases h) (smG_ok _ _ _) fun M => ⟨rfl,rfl,es',clock',(MapKept.heap_set hb).1,hr2,hr3⟩
theorem raw_getS {d:Option Nat} {t k e:TypeId} {x i:Operand} {x' i':X} {n b:Nat} {l:SL} {key:List UInt8} {z:Value} {vr:AV} (ht:P.underlying t = some (.map k e)) (hk:P.underlying k = some .string) (hz:(P.info? e).bind (·.zero) = some z)
  (hx:cX x = some x') (hi:cX i = some i') (h1:(σ.val x').dg = true) (h2:(σ.val i').dg = true) (hv:(σ.val x').dv = .c (.raw (.map (some b)))) (hj:(σ.val i').dv = .c (.str key)) (hown:σ.own n = smap l b)
  (hlen:key.length ≤ maxLen) (hls:∀ p ∈ l,p.1.length ≤ maxLen) (hr:∀ w M loc,RepA w M loc vr ((slook l key).getD z))
  (hK:K (σ.put d (.tup [vr,.c (.bool (slook l key).isSome)]))):RawI P d (.raw (.lookup t x i true)) K σ:=by
 refine RawI_snd (fun C loc a w o hP ho hg => ?_) hK
 subst hP
 have hkl:=KLaw.wide (string_law hk)
 have rx:=vald hg hx h1
 have ri:=vald hg hi h2
 rw [hv] at rx
 rw [hj] at ri
 simp only [RepA,RepC] at rx ri
 change _ = sv key at ri
 have hkey:=sv_key hk hlen
 have hob:=hg.objs n
 rw [hown] at hob
 obtain ⟨_,L,hl,⟨_,rfl,es,clock,hb,hst,hes⟩,hA⟩:=hob
 have hks:∀ e ∈ es.toList,∃ l,keyOf C.P k e.key = some l:=fun e he => by
  have hm:(e.key,e.val) ∈ es.toList.map (fun e => (e.key,e.val)):=List.mem_map.2 ⟨e,he,rfl⟩
  rw [hes] at hm
  obtain ⟨p,hp,h3⟩:=List.mem_map.1 hm
  simp only [Prod.mk.injEq] at h3
  rw [← h3.1]; exact sv_key hk (hls p hp)
 refine ⟨.tuple #[(slook l key).getD z,.bool (slook l key).isSome],?_,?_⟩
 ·rcases hkl.find w hkey es.toList hks with ⟨f1,f2⟩ | ⟨j,e0,f1,f2,f3⟩
  ·rw [slook_none hes f2]
   simp [execOp,ho,rx.1,ri,Instr.lookup,run_underlying ht,MapKept.run_getObj_map hb,hkl.check w _ hkey,f1,run_zero hz]
  ·rw [slook_some hes hst.2.2 f2 f3]
   simp [execOp,ho,rx.1,ri,Instr.lookup,run_underlying ht,MapKept.run_getObj_map hb,hkl.check w _ hkey,f1]
 ·simp only [RepA]
  refine ⟨[_,_],rfl,?_⟩
  simp only [RepAs]
  exact ⟨_,_,rfl,hr _ _ _,_,_,rfl,by simp only [RepA,RepC],rfl⟩
theorem raw_mkI {d:Option Nat} {t:TypeId} {x:Operand} {x':X} {v:Value} (ht:(P.underlying t).map notI = some true) (hx:cX x = some x') (h1:(σ.val x').dg = true) (hv:∀ w M loc u,RepA w M loc (σ.val x').dv u → u = v)
  (hK:K (σ.put d (.c (.raw (.iface t v))))):RawI P d (.raw (.makeInterface t x)) K σ:=by
 refine RawI_snd (fun C loc a w o hP ho hg => ?_) hK
 subst hP
 have rx:=hv _ _ _ _ (vald hg hx h1)
 refine ⟨.iface t v,?_,by simp only [RepA,RepC]; exact ⟨trivial,rfl⟩⟩
 cases hu:C.P.underlying t with
 | none => rw [hu] at ht; cases ht
 | some D =>
  rw [hu] at ht
  simp only [Option.map_some,Option.some.injEq] at ht
  cases D <;> simp [notI] at ht <;> simp [execOp,ho,rx,Instr.makeInterface,run_underlying hu]
theorem raw_taY {d:Option Nat} {xt t:TypeId} {x:Operand} {x':X} {u:Value} {vr:AV} (ht:(P.underlying t).map notI = some true) (hx:cX x = some x') (h1:(σ.val x').dg = true) (hv:(σ.val x').dv = .c (.raw (.iface t u)))
  (hr:∀ w M loc,RepA w M loc vr u) (hK:K (σ.put d (.tup [vr,.c (.bool true)]))):RawI P d (.raw (.typeAssert x xt t true)) K σ:=by
 refine RawI_snd (fun C loc a w o hP ho hg => ?_) hK
 subst hP
 have rx:=vald hg hx h1
 rw [hv] at rx
 simp only [RepA,RepC] at rx
 refine ⟨.tuple #[u,.bool true],?_,?_⟩
 ·cases hu:C.P.underlying t with
  | none => rw [hu] at ht; cases ht
  | some D =>
   rw [hu] at ht
   simp only [Option.map_some,Option.some.injEq] at ht
   cases D <;> simp [notI] at ht <;> simp [execOp,ho,rx.1,Instr.typeAssert,run_underlying hu]
 ·simp only [RepA]
  refine ⟨[_,_],rfl,?_⟩
  simp only [RepAs]
  exact ⟨_,_,rfl,hr _ _ _,_,_,rfl,by simp only [RepA,RepC],rfl⟩
theorem raw_taN {d:Option Nat} {xt t t':TypeId} {x:Operand} {x':X} {u z:Value} {vr:AV} (hne:t' ≠ t) (ht:(P.underlying t).map notI = some true) (hz:(P.info? t).bind (·.zero) = some z) (hx:cX x = some x') (h1:(σ.val x').dg = true) (hv:(σ.val x').dv = .c (.raw (.iface t' u)))
  (hr:∀ w M loc,RepA w M loc vr z) (hK:K (σ.put d (.tup [vr,.c (.bool false)]))):RawI P d (.raw (.typeAssert x xt t true)) K σ:=by
 refine RawI_snd (fun C loc a w o hP ho hg => ?_) hK
 subst hP
 have rx:=vald hg hx h1
 rw [hv] at rx
 simp only [RepA,RepC] at rx
 refine ⟨.tuple #[z,.bool false],?_,?_⟩
 ·cases hu:C.P.underlying t with
  | none => rw [hu] at ht; cases ht
  | some D =>
   rw [hu] at ht
   simp only [Option.map_some,Option.some.injEq] at ht
   cases D <;> simp [notI] at ht <;> simp [execOp,ho,rx.1,Instr.typeAssert,run_underlying hu,hne,run_zero hz]
 ·simp only [RepA]
  refine ⟨[_,_],rfl,?_⟩
  simp only [RepAs]
  exact ⟨_,_,rfl,hr _ _ _,_,_,rfl,by simp only [RepA,RepC],rfl⟩
theorem raw_vld {d:Option Nat} {x:X} {n b:Nat} {v:Value} {vr:AV} (h1:(σ.val x).dg = true) (hv:(σ.val x).dv = .c (.raw (ptrV b 0))) (hown:σ.own n = vbox v b) (hr:∀ w M loc,RepA w M loc vr v)
  (hK:K (σ.put d vr)):RawI P d (.ld true 1 x) K σ:=by
 refine RawI_sndI (fun C loc a w o hP hci hg => ?_) hK
 subst hP
 generalize ho:o.op = op at hci
 generalize hone:true = one at hci
 cases hci with
 | load ha hs hx =>
  rename_i t ag
  cases ag with
  | true => cases hone
  | false =>
  have rx:=vald hg hx h1
  rw [hv] at rx
  simp only [RepA,RepC,ptrV] at rx
  have hob:=hg.objs n
  rw [hown] at hob
  obtain ⟨_,L,_,⟨_,_,hcell⟩,_⟩:=hob
  exact ⟨v,by simp [execOp,ho,rx.1,Instr.loadAt,Instr.sureAddr,run_loadVar_one ha hcell],hr _ _ _⟩
end
end Go.V
