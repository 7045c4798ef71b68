/-
  An abstract machine over small instructions, sound over the model; no condition.
-/
import Derived.Test.YtbejgfpaokcnpaaV1
import Derived.RangeFuncNested
set_option linter.unusedVariables false
set_option linter.unusedSimpArgs false
/-
  A range over a function: a guest out of its rounds.
-/
namespace Go.V
section
variable {C : Ctx} {σ : St} {loc : Nat → Value} {a : Act} {w : World}

theorem foot_A (hg : G C σ loc a w) {b : Nat} (h : Foot σ.own loc b) : C.A b ∨ ∃ cs e, w.heap[b]? = some (.cells cs e (0, 0)) := by
  obtain ⟨n, h⟩ := h
  have hob := hg.objs n
  cases hx : σ.own n <;> rw [hx] at hob h
  case none => exact (Ob.has_none _ _ h).elim
  case box cs => obtain ⟨b1, l1, e1, k1, k2, _⟩ := hob; rw [k1] at h; cases h; exact .inl k2
  case win cs => obtain ⟨b1, l1, r1, e1, k1, k2, _⟩ := hob; rw [k1] at h; cases h; exact .inr ⟨_, _, k2⟩
  case grow e sz es => obtain ⟨xs, k1, k2, _⟩ := hob; exact .inl (k2 b (Ob.has_own.1 h))
  case guest g rem => obtain ⟨k0, Lg, k1, k2, k3⟩ := hob; rw [k1] at h; exact .inl (k3 b ((footV_encV Lg b).1 h)).2
  case mp kk ek l => obtain ⟨b1, es, clock, k1, k2, _⟩ := hob; rw [k1] at h; cases h; exact .inl k2

theorem cell_loop {lp : Nat} {r : Loop} (h : w.heap[lp]? = some (.loop r)) {p : Addr} (hp : (w.cell? p).isSome = true) : p.block ≠ lp := by
  rintro rfl
  unfold World.cell? at hp
  rw [h] at hp
  cases hp

/-- The record of a loop turns: of one that came in, and so in the world that the call began in. -/
theorem G.tick (hg : G C σ loc a w) {lp : Nat} {r r0 : Loop} (h : w.heap[lp]? = some (.loop r)) (h0 : C.w0.heap[lp]? = some (.loop r0)) (hX : ¬ C.X lp) (r' : Loop) : G { C with w0 := C.w0.putObj lp (.loop r') } σ loc a (w.putObj lp (.loop r')) := by
  have hlt0 : lp < C.w0.heap.size := (Array.getElem?_eq_some_iff.1 h0).1
  have hlt : lp < w.heap.size := (Array.getElem?_eq_some_iff.1 h).1
  have hnf : ¬ Foot σ.own loc lp := fun hf => by
    rcases foot_A hg hf with hA | ⟨cs, e, hc⟩
    · rcases hA with hA | hA
      · exact absurd hlt0 (by unfold Ctx.B at hA; omega)
      · exact hX hA
    · rw [h] at hc; cases hc
  have hB : ({ C with w0 := C.w0.putObj lp (.loop r') } : Ctx).B = C.B := by simp [Ctx.B]
  have hoth : ∀ k, k ≠ lp → (w.putObj lp (.loop r')).heap[k]? = w.heap[k]? := fun k hk => World.putObj_heap_other hk
  have hk : Keeps w (w.putObj lp (.loop r')) (MM C σ.own loc) (MM C σ.own loc) := ⟨fun p hp _ => World.cell?_of_block (hoth _ (cell_loop h hp)), fun p _ h => h⟩
  have hk0 : Keeps (C.w0.putObj lp (.loop r')) C.w0 C.Mi C.Mi := ⟨fun p hp _ => by
    by_cases hpl : p.block = lp
    · exfalso
      unfold World.cell? at hp
      rw [hpl, World.putObj_heap_same hlt0] at hp
      cases hp
    · exact (World.cell?_of_block (World.putObj_heap_other hpl)).symm, fun p _ h => h⟩
  refine ⟨⟨hg.fr.os, hg.fr.tape, hg.fr.output, ?_, fun k hk1 hk2 => ?_⟩, fun b o hm => ?_, (hk0.trans hg.kp).trans hk, fun d hd => ?_, hg.mnd, hg.pin, hg.size, fun t => RepA.keep hk _ _ (hg.slots t), fun n => ?_, hg.disj⟩
  · rw [hB]; simpa using hg.fr.size
  · rw [hB] at hk1
    by_cases hkl : k = lp
    · subst hkl
      rw [World.putObj_heap_same hlt]
      exact (World.putObj_heap_same hlt0).symm
    · rw [hoth k hkl, hg.fr.block k hk1 hk2]
      exact (World.putObj_heap_other hkl).symm
  · rw [hB]; exact hg.m0 b o hm
  · obtain ⟨D, e1, e2, e3, e4⟩ := hg.marks d hd
    refine ⟨D, e1, by rw [hB]; exact e2, (hoth D ?_).trans e3, e4⟩
    rintro rfl
    rw [h] at e3; cases e3
  · have hA : ∀ b, C.A b → ({ C with w0 := C.w0.putObj lp (.loop r') } : Ctx).A b := fun b hb => by unfold Ctx.A at hb ⊢; rw [hB]; exact hb
    have hob := ObOk.keep' hk (by simp) (fun b hb => hoth b (by rintro rfl; exact hnf ⟨n, hb⟩)) (hg.objs n)
    cases hx : σ.own n <;> rw [hx] at hob
    case none => trivial
    case box cs => obtain ⟨b1, l1, e1, k1, k2, k3⟩ := hob; exact ⟨b1, l1, e1, k1, hA _ k2, k3⟩
    case win cs => exact hob
    case grow e sz es => obtain ⟨xs, k1, k2, k3⟩ := hob; exact ⟨xs, k1, fun b hb => hA b (k2 b hb), k3⟩
    case guest g rem => obtain ⟨k0, Lg, k1, k2, k3⟩ := hob; exact ⟨k0, Lg, k1, k2, fun b hb => ⟨(k3 b hb).1, hA b (k3 b hb).2⟩⟩
    case mp kk ek l => obtain ⟨b1, es, clock, k1, k2, k3⟩ := hob; exact ⟨b1, es, clock, k1, hA _ k2, k3⟩

/-- The record of a loop of the call's own turns. -/
theorem G.tickOwn (hg : G C σ loc a w) {lp : Nat} {r : Loop} (h : w.heap[lp]? = some (.loop r)) (hB : C.B ≤ lp) (hnf : ¬ Foot σ.own loc lp) (r' : Loop) : G C σ loc a (w.putObj lp (.loop r')) := by
  have hoth : ∀ k, k ≠ lp → (w.putObj lp (.loop r')).heap[k]? = w.heap[k]? := fun k hk => World.putObj_heap_other hk
  have hk : Keeps w (w.putObj lp (.loop r')) (MM C σ.own loc) (MM C σ.own loc) := ⟨fun p hp _ => World.cell?_of_block (hoth _ (cell_loop h hp)), fun p _ h => h⟩
  refine ⟨⟨hg.fr.os, hg.fr.tape, hg.fr.output, by simpa using hg.fr.size, fun k hk1 hk2 => ?_⟩, hg.m0, hg.kp.trans hk, fun d hd => ?_, hg.mnd, hg.pin, hg.size, fun t => RepA.keep hk _ _ (hg.slots t),
    fun n => ObOk.keep' hk (by simp) (fun b hb => hoth b (by rintro rfl; exact hnf ⟨n, hb⟩)) (hg.objs n), hg.disj⟩
  · rw [hoth k (by omega), hg.fr.block k hk1 hk2]
  · obtain ⟨D, e1, e2, e3, e4⟩ := hg.marks d hd
    refine ⟨D, e1, e2, (hoth D ?_).trans e3, e4⟩
    rintro rfl
    rw [h] at e3; cases e3
end

/-! ### The rounds -/
def updPs : (Nat → AV) → List (Nat × AV) → Nat → AV
  | env, [] => env
  | env, (p, v) :: r => updPs (upd env p v) r

def jumpOf : Exit → Option (Option Exit)
  | .normal => some none
  | .ret => some (some .ret)
  | .exit id => some (some (.exit id))
  | _ => none

def jumpC : Exit → Code
  | .exit id => .exit id
  | _ => .ret

/-- One round, from the objects l on. -/
def Rnd (P : Program) (N : Nat) (ps : List Nat) (assign body : VC) (env : Nat → AV) (e : Ent) (l : List Ob) (Post : Option Exit → List Ob → Prop) : Prop :=
  ∀ C : Ctx, C.P = P → C.N = N → C.Ok → WV C assign (fun ex σ1 => ex = .normal ∧ ∀ C' : Ctx, C'.P = P → C'.N = N → C'.Ok → WV C' body (fun ex σ2 => ∃ j l', jumpOf ex = some j ∧ KeepL l e.wins σ2 l' ∧ Post j l') σ1) ⟨updPs env (ps.zip e.args), ownW l e.wins⟩

/-- All rounds, from the objects l on; Fin says what is left of these, and how the last round was left. -/
def RunR (P : Program) (N : Nat) (ps : List Nat) (assign body : VC) (env : Nat → AV) (Fin : Option Exit → List Ob → Prop) : List Ent → List Ob → Prop
  | [], l => l.all (Ob.solid l.length) = true ∧ Fin none l
  | e :: rem, l => l.all (Ob.solid l.length) = true ∧ e.args.length = ps.length ∧ ∃ b, e.res = .c (.bool b) ∧ Rnd P N ps assign body env e l fun j l' =>
      (j = none ∧ b = true ∧ RunR P N ps assign body env Fin rem l') ∨ (∃ x, j = some x ∧ b = false ∧ rem = [] ∧ l'.all (Ob.solid l'.length) = true ∧ Fin (some x) l')

structure RC where
  P : Program
  N : Nat
  m : List Nat
  ps : List Nat
  av : VC
  bv : VC
  env : Nat → AV
  Fin : Option Exit → List Ob → Prop
  lp : Nat
  rc : Loop
  loc0 : Nat → Value

structure RC.Ok (R : RC) : Prop where
  ca : comp R.P R.N R.m R.rc.assign = some R.av
  cb : comp R.P R.N R.m R.rc.body = some R.bv
  pars : R.rc.params.toList = R.ps
  size : R.rc.tmps.size = R.N
  lt : ∀ p ∈ R.ps, p < R.N
  n1000 : R.N ≤ 1000

def RC.recO (R : RC) (st : LoopState) (pe : Option Code) : Obj := .loop { R.rc with state := st, pending := pe }

/-- How it stands with the loop. -/
def RC.Sit (R : RC) (rem : List Ent) (l : List Ob) (w : World) : Prop :=
  (RunR R.P R.N R.ps R.av R.bv R.env R.Fin rem l ∧ w.heap[R.lp]? = some (R.recO .ready none)) ∨
  (rem = [] ∧ l.all (Ob.solid l.length) = true ∧ ∃ x, (x = .ret ∨ ∃ id, x = .exit id) ∧ R.Fin (some x) l ∧ w.heap[R.lp]? = some (R.recO .done (some (jumpC x))))

def RoundJ (R : RC) (rem : List Ent) (Lg : List Nat) (M : Nat → Nat → Prop) (w : World) : Prop :=
  ∃ (l : List Ob) (loc : Nat → Value), R.Sit rem l w ∧ l.length ≤ 1000 ∧ (∀ n, n < 1000 ∨ 1000 + l.length ≤ n → loc n = undef) ∧ (∀ n, ObOk R.P (fun _ => True) w M loc (loc n) (ownL 1000 l n)) ∧
    (∀ n m b, n ≠ m → (ownL 1000 l n).has (loc n) b → (ownL 1000 l m).has (loc m) b → False) ∧ (∀ t, RepA w M loc (R.env t) (R.rc.tmps.getD t undef)) ∧ (∀ b, Foot (ownL 1000 l) loc b → b ∈ Lg) ∧ (∀ n, (R.loc0 n).oneCell' = true → (ownL 1000 l n).isPlace = true ∧ loc n = R.loc0 n) ∧
    R.lp ∈ Lg ∧ ¬ Foot (ownL 1000 l) loc R.lp

def roundG (R : RC) : Gst := ⟨.func (.yield R.lp) #[] #[], RoundJ R⟩

theorem RC.Sit.solid {R : RC} {rem : List Ent} {l : List Ob} {w : World} (h : R.Sit rem l w) : l.all (Ob.solid l.length) = true := by
  rcases h with ⟨h, _⟩ | ⟨_, h, _⟩
  · cases rem <;> exact h.1
  · exact h

theorem params_rep {w : World} {M : Cells} {loc : Nat → Value} : ∀ {ps : List Nat} {args : List AV} {vs : List Value} {env : Nat → AV} {tm : Array Value}, RepAs w M loc args vs → ps.length = args.length → (∀ p ∈ ps, p < tm.size) → (∀ t, RepA w M loc (env t) (tm.getD t undef)) →
    ((ps.zip vs).foldl (fun (t : Array Value) (p : Nat × Value) => t.setIfInBounds p.1 p.2) tm).size = tm.size ∧ ∀ t, RepA w M loc (updPs env (ps.zip args) t) (((ps.zip vs).foldl (fun (t : Array Value) (p : Nat × Value) => t.setIfInBounds p.1 p.2) tm).getD t undef)
  | [], args, vs, env, tm, _, _, _, h => by simpa [updPs] using h
  | p :: ps, [], vs, env, tm, _, hl, _, _ => by simp at hl
  | p :: ps, x :: args, vs, env, tm, hr, hl, hp, h => by
    simp only [RepAs] at hr
    obtain ⟨v, vs', rfl, h1, h2⟩ := hr
    simp only [List.zip_cons_cons, List.foldl_cons, updPs]
    have ih := params_rep (ps := ps) (env := upd env p x) (tm := tm.setIfInBounds p v) h2 (by simpa using hl) (fun q hq => by simpa using hp q (by simp [hq])) (fun t => by
      have hpt := hp p (by simp)
      simp only [upd, Array.getD_eq_getD_getElem?, Array.getElem?_setIfInBounds]
      by_cases htp : t = p
      · subst htp; simp [hpt]; exact h1
      · rw [if_neg htp, if_neg (fun e => htp e.symm)]
        have := h t
        rwa [Array.getD_eq_getD_getElem?] at this)
    exact ⟨by rw [ih.1]; simp, ih.2⟩

theorem roundG_ok {R : RC} (hR : R.Ok) : (roundG R).Ok R.P := by
  refine ⟨rfl, ?_, ?_⟩
  · rintro rem L M w M' w' ⟨l, loc, h1, h2, h3, h4, h5, h6, h7, h8, h9, h10⟩ hk hb hs
    refine ⟨l, loc, ?_, h2, h3, fun n => (h4 n).keep' hk hs fun b hbn => hb b (h7 b ⟨n, hbn⟩), h5, fun t => RepA.keep hk _ _ (h6 t), h7, h8, h9, h10⟩
    rcases h1 with ⟨h1, h1'⟩ | ⟨h1, h1', x, hx, hf, h1''⟩
    · exact .inl ⟨h1, (hb _ h9).trans h1'⟩
    · exact .inr ⟨h1, h1', x, hx, hf, (hb _ h9).trans h1''⟩
  · rintro args wins r rem L M w loc2 vs ⟨l, loc, h1, h2, h3, h4, h5, h6, h7, h8, h9, h10⟩ hMlt hbar hargs hl2 hwin hdis
    have hsol := h1.solid
    rcases h1 with ⟨h1, hrec⟩ | ⟨h1, _⟩
    case inr => cases h1
    obtain ⟨_, hlen, bres, hres, hrnd⟩ := h1
    simp only at hlen hres hrnd
    subst hres
    refine ⟨rfl, .inr ⟨R.lp, rfl, ?_⟩⟩
    obtain ⟨locx, hlocx⟩ : ∃ locx : Nat → Value, locx = fun n => if 2000 ≤ n then loc2 n else loc n := ⟨_, rfl⟩
    have hx1 : ∀ n, n < 2000 → locx n = loc n := fun n h => by rw [hlocx]; simp only; rw [if_neg (by omega)]
    have hx2 : ∀ n, 2000 ≤ n → locx n = loc2 n := fun n h => by rw [hlocx]; simp only; rw [if_pos h]
    have hundef : Value.oneCell' undef = false := rfl
    have hre1 : ∀ n, (loc n).oneCell' = true → locx n = loc n := by
      intro n h
      by_cases hn : n < 2000
      · exact hx1 n hn
      · rw [h3 n (.inr (by omega)), hundef] at h; cases h
    have hre2 : ∀ n, (loc2 n).oneCell' = true → locx n = loc2 n := by
      intro n h
      by_cases hn : n < 2000
      · rw [hl2 n hn, hundef] at h; cases h
      · exact hx2 n (by omega)
    have hfoot : ∀ n b, (ownW l wins n).has (locx n) b → (n < 2000 ∧ (ownL 1000 l n).has (loc n) b) ∨ (∃ j cs, n = 2000 + j ∧ wins[j]? = some cs ∧ loc2 (2000 + j) = .pointer (some ⟨b, 0, none⟩)) := by
      intro n b h
      by_cases hn : n < 2000
      · rw [ownW_small hn, hx1 n hn] at h
        exact .inl ⟨hn, h⟩
      · rcases ownW_cases l wins n with ⟨i, o, _, hlt, _⟩ | ⟨j, cs, rfl, hj, hw⟩ | hw
        · omega
        · rw [hw, hx2 _ (by omega)] at h
          obtain ⟨b', _, _, _, e1, _⟩ := hwin j cs hj
          rw [e1] at h
          simp only [Ob.has] at h
          subst h
          exact .inr ⟨j, cs, rfl, hj, e1⟩
        · rw [hw] at h; exact (Ob.has_none _ _ h).elim
    have hall : ∀ b, Foot (ownW l wins) locx b → ∀ o, M b o := by
      rintro b ⟨n, h⟩ o
      rcases hfoot n b h with ⟨_, h'⟩ | ⟨j, cs, _, hj, e1⟩
      · exact (hbar b (h7 b ⟨n, h'⟩)).2 o
      · obtain ⟨b', _, _, _, e2, _, _, _, _, hM⟩ := hwin j cs hj
        rw [e1] at e2
        simp only [Value.pointer.injEq, Option.some.injEq, Addr.mk.injEq, and_true] at e2
        subst e2
        exact hM o
    have hsub : ∀ b o, AddM (fun b o => M b o ∧ ¬ Foot (ownW l wins) locx b) (ownW l wins) locx b o → M b o := by
      rintro b o (⟨h, _⟩ | ⟨n, h⟩)
      · exact h
      · exact hall b ⟨n, Ob.has_of_mut h⟩ o
    have hless := Keeps.less (w := w) hsub
    obtain ⟨Mx, hMx⟩ : ∃ Mx : Cells, Mx = fun b o => M b o ∧ ¬ Foot (ownW l wins) locx b := ⟨_, rfl⟩
    rw [← hMx] at hless hsub
    have hM1 : ∀ b o, Mx b o → b < w.heap.size ∧ ¬ Foot (ownW l wins) locx b := fun b o h => by rw [hMx] at h; exact ⟨hMlt b o h.1, h.2⟩
    have hok : LentOk R.P w Mx locx (ownW l wins) :=
      ⟨fun n => by
        rcases ownW_cases l wins n with ⟨i, o, rfl, hlt, ho, hw⟩ | ⟨j, cs, rfl, hj, hw⟩ | hw
        · have h := h4 (1000 + i)
          rw [ownL_at ho] at h
          rw [hw, hx1 _ hlt]
          exact (h.keep' hless (Nat.le_refl _) fun _ _ => rfl).reloc hre1
        · rw [hw, hx2 _ (by omega)]
          obtain ⟨b, u, rest, e, e1, e2, e3, e4, _⟩ := hwin j cs hj
          exact ⟨b, u, rest, e, e1, e2, RepAs.keep hless _ _ (pures_loc e4 e3)⟩
        · rw [hw]; trivial,
       fun n m b hnm hn hm => by
        rcases hfoot n b hn with ⟨_, k1⟩ | ⟨j, cs, rfl, hj, e1⟩ <;> rcases hfoot m b hm with ⟨_, k2⟩ | ⟨j', cs', rfl, hj', e2⟩
        · exact h5 n m b hnm k1 k2
        · obtain ⟨b', _, _, _, e3, _, _, _, hnb, _⟩ := hwin j' cs' hj'
          rw [e2] at e3
          simp only [Value.pointer.injEq, Option.some.injEq, Addr.mk.injEq, and_true] at e3
          subst e3
          exact hnb (h7 b ⟨n, k1⟩)
        · obtain ⟨b', _, _, _, e3, _, _, _, hnb, _⟩ := hwin j cs hj
          rw [e1] at e3
          simp only [Value.pointer.injEq, Option.some.injEq, Addr.mk.injEq, and_true] at e3
          subst e3
          exact hnb (h7 b ⟨m, k2⟩)
        · refine hnm ?_
          rw [hdis j j' (List.getElem?_eq_some_iff.1 hj).1 (List.getElem?_eq_some_iff.1 hj').1 (e1.trans e2.symm)]⟩
    have hargs' := RepAs.keep hless _ _ (hargs.reloc hre2)
    have h6' : ∀ t, RepA w (AddM Mx (ownW l wins) locx) locx (R.env t) (R.rc.tmps.getD t undef) := fun t => RepA.keep hless _ _ ((h6 t).reloc hre1)
    obtain ⟨hts, htr⟩ := params_rep (ps := R.ps) hargs' hlen.symm (fun p hp => by rw [hR.size]; exact hR.lt p hp) h6'
    obtain ⟨tm, htm⟩ : ∃ tm, (R.ps.zip vs).foldl (fun (t : Array Value) (p : Nat × Value) => t.setIfInBounds p.1 p.2) R.rc.tmps = tm := ⟨_, rfl⟩
    rw [htm] at hts htr
    have hvl : vs.length = R.ps.length := by rw [hargs.length]; exact hlen
    have hyield := run_yield (P := R.P) (args := vs.toArray) hrec (by
      simp only
      rw [show R.rc.params.size = R.rc.params.toList.length from by simp, hR.pars]; simpa using hvl)
    have hfold : (R.rc.params.zip vs.toArray).foldl (fun (t : Array Value) (p : Nat × Value) => t.setIfInBounds p.1 p.2) R.rc.tmps = tm := by
      rw [← htm, ← hR.pars, ← Array.foldl_toList]
      simp
    simp only at hyield
    refine ⟨R.rc.fn, tm, R.rc.assign, R.rc.body, ?_, ?_⟩
    · rw [hyield, ← hfold]
    clear hyield
    have hlpw : R.lp < w.heap.size := (Array.getElem?_eq_some_iff.1 hrec).1
    obtain ⟨C, hC⟩ : ∃ C, C = Ctx.lentC R.P R.N R.m w Mx l wins locx (some R.lp) := ⟨_, rfl⟩
    have hXlp : ¬ Foot (ownL 1000 l) locx R.lp := by
      rintro ⟨n, hn⟩
      refine h10 ⟨n, ?_⟩
      by_cases hn2 : n < 2000
      · rwa [hx1 n hn2] at hn
      · rw [ownL_out (by omega)] at hn; exact (Ob.has_none _ _ hn).elim
    have hCok : C.Ok := by
      intro lq hq
      rw [hC] at hq ⊢
      simp only [Ctx.lentC, Option.some.injEq] at hq
      subst hq
      exact ⟨⟨_, hrec⟩, hlpw, hXlp⟩
    have hG0 : G C ⟨updPs R.env (R.ps.zip args), ownW l wins⟩ locx { tmps := tm, defers := [] } w := by
      rw [hC]
      exact G_initL h2 hR.n1000 hM1 hok (by rw [hts, hR.size]) htr
    have hwA := hrnd C (by rw [hC]; rfl) (by rw [hC]; rfl) hCok R.rc.assign (by rw [hC]; exact hR.ca) _ w ⟨locx, hG0⟩
    have hCF : C.F = Fence.wide.inRound R.lp := by rw [hC]; rfl
    have hCP : C.P = R.P := by rw [hC]; rfl
    rw [hCF, hCP] at hwA
    refine roundIn_of_wpIn trivial (wpIn_mono hwA ?_)
    rintro ex a1 w1 ⟨σ1, ⟨loc1, hG1⟩, rfl, hbody⟩
    have hrec1 : w1.heap[R.lp]? = some (R.recO .ready none) := by
      rw [hG1.fr.block R.lp (by rw [hC]; exact hlpw) (by rw [hC]; exact hXlp), hC]
      exact hrec
    simp only [Exit.then]
    refine ⟨_, run_beginRound hrec1 rfl, ?_⟩
    have hG2 := hG1.tick hrec1 (r0 := { R.rc with state := .ready, pending := none }) (by rw [hC]; exact hrec) (by rw [hC]; exact hXlp) { R.rc with state := .busy, pending := none }
    obtain ⟨C', hC'⟩ : ∃ C' : Ctx, C' = { C with w0 := C.w0.putObj R.lp (.loop { R.rc with state := .busy, pending := none }) } := ⟨_, rfl⟩
    rw [← hC'] at hG2
    have hC'w : C'.w0 = w.putObj R.lp (.loop { R.rc with state := .busy, pending := none }) := by rw [hC', hC]; rfl
    have hC'ok : C'.Ok := by
      intro lq hq
      rw [hC', hC] at hq ⊢
      simp only [Ctx.lentC, Option.some.injEq] at hq
      subst hq
      exact ⟨⟨_, World.putObj_heap_same hlpw⟩, by simpa [Ctx.lentC] using hlpw, hXlp⟩
    have hwB := hbody C' (by rw [hC', hC]; rfl) (by rw [hC', hC]; rfl) hC'ok R.rc.body (by rw [hC', hC]; exact hR.cb) a1 _ ⟨loc1, hG2⟩
    have hCF' : C'.F = Fence.wide.inRound R.lp := by rw [hC', hC]; rfl
    have hCP' : C'.P = R.P := by rw [hC', hC]; rfl
    rw [hCF', hCP'] at hwB
    refine wpIn_mono hwB ?_
    rintro ex a3 w3 ⟨σ2, ⟨loc', hG3⟩, j, l', hj, hkeep, hpost⟩
    obtain ⟨fx, kp, ok, has, plc, _⟩ := lentC_end (M := Mx) (loc := locx) h2 (by rw [hC', hC]; rfl) (by rw [hC', hC]; rfl) (by rw [hC', hC]; rfl) (by rw [hC', hC]; rfl) (by rw [hC', hC]; rfl) hG3 hkeep
    rw [hC'w] at fx kp has
    rw [hCP'] at ok
    have hll := hkeep.len
    have hrec3 : w3.heap[R.lp]? = some (.loop { R.rc with state := .busy, pending := none }) := by
      rw [hG3.fr.block R.lp (by unfold Ctx.B; rw [hC'w]; simpa using hlpw) (by rw [hC', hC]; exact hXlp), hC'w]
      exact World.putObj_heap_same hlpw
    have hlp3 := (Array.getElem?_eq_some_iff.1 hrec3).1
    have hsol' : l'.all (Ob.solid l'.length) = true := by
      rcases hpost with ⟨_, _, h⟩ | ⟨x, _, _, _, h, _⟩
      · cases rem <;> exact h.1
      · exact h
    have hlen' : l'.length ≤ 1000 := by omega
    have hlpF : ¬ Foot (ownW l wins) locx R.lp := by
      rintro ⟨n, hn⟩
      rcases hfoot n _ hn with ⟨_, k⟩ | ⟨j', cs, _, hj', e1⟩
      · exact h10 ⟨n, k⟩
      · obtain ⟨b', _, _, _, e2, e3, _⟩ := hwin j' cs hj'
        rw [e1] at e2
        simp only [Value.pointer.injEq, Option.some.injEq, Addr.mk.injEq, and_true] at e2
        subst e2
        rw [hrec] at e3; cases e3
    have hlpF' : ∀ n, ¬ (ownL 1000 l' n).has (loc' n) R.lp := fun n hn => by
      rcases has n _ hn with h | h
      · exact hXlp h
      · simp at h; omega
    have fin : ∀ (jc : Option Code), R.Sit rem l' (w3.putObj R.lp (.loop { R.rc with state := if jc.isNone then .ready else .done, pending := jc })) → bres = jc.isNone →
        ∃ v L', (Ending.returned (.bool jc.isNone)) = .returned v ∧ RepA (w3.putObj R.lp (.loop { R.rc with state := if jc.isNone then .ready else .done, pending := jc })) (fun _ _ => False) (fun _ => undef) (.c (.bool bres)) v ∧
          Fx w (w3.putObj R.lp (.loop { R.rc with state := if jc.isNone then .ready else .done, pending := jc })) (· ∈ L) ∧ (∀ b ∈ L', (b ∈ L ∨ w.heap.size ≤ b) ∧ b < (w3.putObj R.lp (.loop { R.rc with state := if jc.isNone then .ready else .done, pending := jc })).heap.size) ∧
          (roundG R).J rem L' (fun b o => (M b o ∧ b ∉ L) ∨ b ∈ L') (w3.putObj R.lp (.loop { R.rc with state := if jc.isNone then .ready else .done, pending := jc })) := by
      intro jc hsit hb
      obtain ⟨w4, hw4⟩ : ∃ w4, w4 = w3.putObj R.lp (.loop { R.rc with state := if jc.isNone then .ready else .done, pending := jc }) := ⟨_, rfl⟩
      rw [← hw4] at hsit ⊢
      have hoth : ∀ k, k ≠ R.lp → w4.heap[k]? = w3.heap[k]? := fun k hk => by rw [hw4]; exact World.putObj_heap_other hk
      have hoth0 : ∀ k, k ≠ R.lp → (w.putObj R.lp (.loop { R.rc with state := .busy, pending := none })).heap[k]? = w.heap[k]? := fun k hk => World.putObj_heap_other hk
      have hsz4 : w4.heap.size = w3.heap.size := by rw [hw4]; simp
      have hk34 : ∀ M', Keeps w3 w4 M' M' := fun M' => ⟨fun p hp _ => World.cell?_of_block (hoth _ (cell_loop hrec3 hp)), fun p _ h => h⟩
      have kp4 : Keeps w w4 (AddM Mx (ownW l wins) locx) (AddM Mx (ownW l' wins) loc') :=
        (Keeps.trans ⟨fun p hp _ => World.cell?_of_block (hoth0 _ (cell_loop hrec hp)), fun p _ h => h⟩ kp).trans (hk34 _)
      have fxs : w.heap.size ≤ w3.heap.size := by have := fx.size; simpa using this
      have fx4 : Fx w w4 (· ∈ L) := by
        refine ⟨by rw [hw4]; exact fx.os, by rw [hw4]; exact fx.tape, by rw [hw4]; exact fx.output, by rw [hsz4]; exact fxs, fun k hk hn => ?_⟩
        have hkl : k ≠ R.lp := by rintro rfl; exact hn h9
        rw [hoth k hkl, fx.block k (by simpa using hk) ?_, hoth0 k hkl]
        rintro ⟨m, hm⟩
        by_cases hm2 : m < 2000
        · rw [hx1 m hm2] at hm
          exact hn (h7 k ⟨m, hm⟩)
        · rw [ownL_out (by omega)] at hm; exact (Ob.has_none _ _ hm).elim
      obtain ⟨locn, hlocn⟩ : ∃ locn : Nat → Value, locn = fun n => if 1000 ≤ n ∧ n < 1000 + l'.length then loc' n else undef := ⟨_, rfl⟩
      have hn1 : ∀ n, 1000 ≤ n → n < 1000 + l'.length → locn n = loc' n := fun n a b => by rw [hlocn]; simp only; rw [if_pos ⟨a, b⟩]
      have hn2 : ∀ n, n < 1000 ∨ 1000 + l'.length ≤ n → locn n = undef := fun n a => by rw [hlocn]; simp only; rw [if_neg (by omega)]
      have hrange : ∀ n b, (ownL 1000 l' n).has (locn n) b → 1000 ≤ n ∧ n < 1000 + l'.length ∧ (ownL 1000 l' n).has (loc' n) b := by
        intro n b h
        by_cases hr : n < 1000 ∨ 1000 + l'.length ≤ n
        · rw [ownL_out hr] at h; exact (Ob.has_none _ _ h).elim
        · refine ⟨by omega, by omega, ?_⟩
          rwa [hn1 n (by omega) (by omega)] at h
      have hfb : ∀ b, Foot (ownL 1000 l') locn b ↔ b ∈ obsBlocks l' loc' := by
        intro b
        rw [obsBlocks_iff]
        constructor
        · rintro ⟨n, h⟩; exact ⟨n, (hrange n b h).2.2⟩
        · rintro ⟨n, h⟩
          refine ⟨n, ?_⟩
          by_cases hr : n < 1000 ∨ 1000 + l'.length ≤ n
          · rw [ownL_out hr] at h; exact (Ob.has_none _ _ h).elim
          · rwa [hn1 n (by omega) (by omega)]
      have hblk : ∀ b ∈ R.lp :: obsBlocks l' loc', (b ∈ L ∨ w.heap.size ≤ b) ∧ b < w4.heap.size := by
        intro b hb
        rcases List.mem_cons.1 hb with rfl | hb
        · exact ⟨.inl h9, by omega⟩
        obtain ⟨n, hn⟩ := obsBlocks_iff.1 hb
        refine ⟨?_, ?_⟩
        · rcases has n b hn with ⟨m, hm⟩ | h
          · by_cases hm2 : m < 2000
            · rw [hx1 m hm2] at hm
              exact .inl (h7 b ⟨m, hm⟩)
            · rw [ownL_out (by omega)] at hm; exact (Ob.has_none _ _ hm).elim
          · exact .inr (by simpa using h)
        · by_cases hr : n < 1000 ∨ 1000 + l'.length ≤ n
          · rw [ownL_out hr] at hn; exact (Ob.has_none _ _ hn).elim
          · have := ok.objs n
            rw [ownW_small (by omega)] at this
            rw [hsz4]
            exact this.lt hn
      have hM2 : ∀ b o, ((M b o ∧ b ∉ L) ∨ b ∈ R.lp :: obsBlocks l' loc') → AddM Mx (ownW l' wins) loc' b o := by
        rintro b o (⟨h, hb⟩ | hb)
        · by_cases hf : Foot (ownW l wins) locx b
          · obtain ⟨n, hn⟩ := hf
            rcases hfoot n b hn with ⟨_, h'⟩ | ⟨j, cs, rfl, hj, e1⟩
            · exact (hb (h7 b ⟨n, h'⟩)).elim
            · refine .inr ⟨2000 + j, ?_⟩
              have hp := (plc (2000 + j) (by rw [ownW_big hj]; rfl)).2
              rw [ownW_big hj, hp, hx2 _ (by omega), e1]
              rfl
          · exact .inl (by rw [hMx]; exact ⟨h, hf⟩)
        · rcases List.mem_cons.1 hb with rfl | hb
          · exact .inl (by rw [hMx]; exact ⟨(hbar _ h9).2 o, hlpF⟩)
          obtain ⟨n, hn⟩ := obsBlocks_iff.1 hb
          refine .inr ⟨n, ?_⟩
          rcases ownL_cases l' n with ⟨i, ob, rfl, ho, hw⟩ | hw
          · rw [hw] at hn
            rw [ownW_at hlen' ho]
            exact solid_mut (List.all_eq_true.1 hsol' ob (List.mem_of_getElem? ho)) hn o
          · rw [hw] at hn; exact (Ob.has_none _ _ hn).elim
      have hless' := Keeps.less (w := w4) hM2
      have hplace : ∀ n, (ownL 1000 l n).isPlace = true → 1000 ≤ n ∧ n < 1000 + l'.length ∧ (ownL 1000 l' n).isPlace = true ∧ loc' n = loc n := by
        intro n h
        by_cases hr : n < 1000 ∨ 1000 + l.length ≤ n
        · rw [ownL_out hr] at h; cases h
        · have hn : n < 2000 := by omega
          have := plc n (by rw [ownW_small hn]; exact h)
          rw [ownW_small hn, hx1 n hn] at this
          exact ⟨by omega, by omega, this.1, this.2⟩
      refine ⟨.bool jc.isNone, R.lp :: obsBlocks l' loc', rfl, by simp only [RepA, RepC]; rw [hb], fx4, hblk, l', locn, hsit, hlen', hn2, fun n => ?_, fun n m b hnm hn hm => ?_, fun t => ?_, fun b hb => List.mem_cons_of_mem _ ((hfb b).1 hb), fun n hn => ?_, List.mem_cons_self, ?_⟩
      · rcases ownL_cases l' n with ⟨i, ob, rfl, ho, hw⟩ | hw
        · have hlt := (List.getElem?_eq_some_iff.1 ho).1
          rw [hw, hn1 _ (by omega) (by omega)]
          have h := ok.objs (1000 + i)
          rw [ownW_at hlen' ho] at h
          have h' := h.keep' (hk34 _) (by omega) (fun b hb => hoth b (by rintro rfl; exact hlpF' (1000 + i) (by rw [hw]; exact hb)))
          exact (h'.keep' hless' (Nat.le_refl _) fun _ _ => rfl).refs hn1 (List.all_eq_true.1 hsol' ob (List.mem_of_getElem? ho))
        · rw [hw]; trivial
      · obtain ⟨a1, a2, a3⟩ := hrange n b hn
        obtain ⟨b1, b2, b3⟩ := hrange m b hm
        exact ok.disj n m b hnm (by rw [ownW_small (by omega)]; exact a3) (by rw [ownW_small (by omega)]; exact b3)
      · have hk : Keeps w w4 M (fun b o => (M b o ∧ b ∉ L) ∨ b ∈ R.lp :: obsBlocks l' loc') :=
          ⟨fun p hp hm => kp4.cell p hp fun h => hm (hsub _ _ h), fun p hp hm h => kp4.free p hp (fun h => hm (hsub _ _ h)) (hM2 _ _ h)⟩
        refine RepA.keep hk _ _ ((h6 t).reloc fun n hn => ?_)
        have hr : ¬ (n < 1000 ∨ 1000 + l.length ≤ n) := fun hr => by rw [h3 n hr, hundef] at hn; cases hn
        have hpl : (ownL 1000 l n).isPlace = true := by
          have hob := h4 n
          rcases ownL_cases l n with ⟨i, ob, rfl, ho, hw⟩ | hw
          · have hso := List.all_eq_true.1 hsol ob (List.mem_of_getElem? ho)
            rw [hw] at hob ⊢
            cases ob <;> first | rfl | cases hso | skip
            obtain ⟨_, Lq, e1, _⟩ := hob
            rw [e1] at hn
            cases hn
          · exfalso
            have : l[n - 1000]? = none := by
              cases hq : l[n - 1000]? with
              | none => rfl
              | some ob =>
                exfalso
                have hq' := ownL_at hq
                rw [show 1000 + (n - 1000) = n from by omega, hw] at hq'
                have hso := List.all_eq_true.1 hsol ob (List.mem_of_getElem? hq)
                rw [← hq'] at hso
                cases hso
            rw [List.getElem?_eq_none_iff] at this
            omega
        obtain ⟨a1, a2, a3, a4⟩ := hplace n hpl
        rw [hn1 n a1 a2]; exact a4
      · obtain ⟨a1, a2⟩ := h8 n hn
        obtain ⟨b1, b2, b3, b4⟩ := hplace n a1
        exact ⟨b3, by rw [hn1 n b1 b2, b4]; exact a2⟩
      · rintro ⟨n, hn⟩
        exact hlpF' n (hrange n _ hn).2.2
    have hend := fun jc => run_endRound (P := R.P) jc hrec3
    simp only at hend
    cases ex <;> simp only [jumpOf, Option.some.injEq, reduceCtorEq] at hj
    case normal =>
      subst hj
      rcases hpost with ⟨_, hb, hrun⟩ | ⟨x, hx, _⟩
      case inr => cases hx
      exact ⟨_, _, hend none, fin none (.inl ⟨hrun, World.putObj_heap_same hlp3⟩) hb⟩
    case ret =>
      subst hj
      rcases hpost with ⟨hx, _⟩ | ⟨x, hx, hb, hrem, hs, hf⟩
      · cases hx
      simp only [Option.some.injEq] at hx; subst hx
      exact ⟨_, _, hend (some .ret), fin (some .ret) (.inr ⟨hrem, hs, .ret, .inl rfl, hf, World.putObj_heap_same hlp3⟩) hb⟩
    case exit id =>
      subst hj
      rcases hpost with ⟨hx, _⟩ | ⟨x, hx, hb, hrem, hs, hf⟩
      · cases hx
      simp only [Option.some.injEq] at hx; subst hx
      exact ⟨_, _, hend (some (.exit id)), fin (some (.exit id)) (.inr ⟨hrem, hs, .exit id, .inr ⟨id, rfl⟩, hf, World.putObj_heap_same hlp3⟩) hb⟩
end Go.V

/-
  A range over a function.
-/
namespace Go.V
section
variable {C : Ctx} {σ : St} {loc : Nat → Value} {a : Act} {w : World}

theorem G.mark (hg : G C σ loc a w) {D : Nat} (hD : w.heap[D]? = some markO) (hB : C.B ≤ D) (hF : ¬ Foot σ.own loc D) (hn : ∀ d ∈ a.defers, d.target ≠ .collected D) : G C σ loc { a with defers := { target := .collected D, args := #[] } :: a.defers } w := by
  refine ⟨hg.fr, hg.m0, hg.kp, fun d hd => ?_, ?_, hg.pin, hg.size, hg.slots, hg.objs, hg.disj⟩
  · rcases List.mem_cons.1 hd with rfl | hd
    · exact ⟨D, rfl, hB, hD, hF⟩
    · exact hg.marks d hd
  · simp only [List.pairwise_cons]
    exact ⟨fun d hd e => hn d hd e.symm, hg.mnd⟩

theorem foot_lt (hg : G C σ loc a w) {b : Nat} (h : Foot σ.own loc b) : b < w.heap.size := by
  obtain ⟨n, h⟩ := h
  exact (hg.objs n).lt h

/-- The loop's record is laid. -/
theorem enter_G (hg : G C σ loc a w) (hC : C.Ok) (fn : FuncId) (pars : Array Tmp) (ca cb : Code) :
    ∃ (lp : Nat) (mark : List Deferred) (w1 : World) (D : Nat), (Instr.enterLoop fn a.tmps pars ca cb C.F.round).run C.P w = .ok (lp, mark) w1 ∧
      w1.heap[lp]? = some (.loop { state := .ready, pending := none, fn, tmps := a.tmps, params := pars, assign := ca, body := cb, defers := D }) ∧ w.heap.size ≤ lp ∧ ¬ Foot σ.own loc lp ∧ G C σ loc { a with defers := mark ++ a.defers } w1 := by
  cases hrd : C.rd with
  | none =>
    have hF : C.F.round = none := by unfold Ctx.F; rw [hrd]; rfl
    rw [hF]
    have hb1 : RowKit.Below w.heap.size w (w.alloc markO) := (RowKit.Below.refl _ _).alloc (Nat.le_refl _) _
    have g1 := (hg.below hb1).2
    have hD1 : (w.alloc markO).heap[w.heap.size]? = some markO := alloc_new w markO
    have hfD : ¬ Foot σ.own loc w.heap.size := fun h => by have := foot_lt hg h; omega
    have g2 := g1.mark hD1 hg.fr.size hfD (fun d hd e => by
      obtain ⟨D, e1, e2, e3, e4⟩ := hg.marks d hd
      rw [e1] at e
      simp only [Target.collected.injEq] at e
      subst e
      have := (Array.getElem?_eq_some_iff.1 e3).1
      omega)
    have hsz : (w.alloc markO).heap.size = w.heap.size + 1 := by simp
    have hb2 : RowKit.Below (w.alloc markO).heap.size (w.alloc markO) ((w.alloc markO).alloc (.loop { state := .ready, pending := none, fn, tmps := a.tmps, params := pars, assign := ca, body := cb, defers := w.heap.size })) := (RowKit.Below.refl _ _).alloc (Nat.le_refl _) _
    refine ⟨w.heap.size + 1, _, _, w.heap.size, run_enterLoop_outer fn a.tmps pars ca cb, ?_, by omega, fun h => by have := foot_lt hg h; omega, (g2.below hb2).2⟩
    have := alloc_new (w.alloc markO) (.loop { state := .ready, pending := none, fn, tmps := a.tmps, params := pars, assign := ca, body := cb, defers := w.heap.size })
    rwa [hsz] at this
  | some l0 =>
    have hF : C.F.round = some l0 := by unfold Ctx.F; rw [hrd]; rfl
    rw [hF]
    obtain ⟨⟨r0, hr0⟩, hlt, hX⟩ := hC l0 hrd
    have hr : w.heap[l0]? = some (.loop r0) := by rw [hg.fr.block l0 hlt hX]; exact hr0
    have hb2 : RowKit.Below w.heap.size w (w.alloc (.loop { state := .ready, pending := none, fn, tmps := a.tmps, params := pars, assign := ca, body := cb, defers := r0.defers })) := (RowKit.Below.refl _ _).alloc (Nat.le_refl _) _
    refine ⟨w.heap.size, _, _, r0.defers, run_enterLoop_inner hr fn a.tmps pars ca cb, alloc_new _ _, Nat.le_refl _, fun h => by have := foot_lt hg h; omega, ?_⟩
    exact (hg.below hb2).2

/-- What the slots of a round read as. -/
def LendE (L : List Nat) (own : Nat → Ob) (f g : Nat → AV) : Prop := ∀ t, g t = .non ∨ (f t).lend 1000 L own = some (g t)
end

/-- How the loop is left. -/
def exitOf : Option Exit → Exit
  | none => .normal
  | some x => x

/-- **A RANGE OVER A FUNCTION.** -/
theorem WV_rng {C : Ctx} {σ : St} {Q : Exit → St → Prop} (hC : C.Ok) {g : X} {ps : List Nat} {assign body : VC} {fid : FuncId} {caps caps' : List AV} {L : List Nat} {l : List Ob} {env' : Nat → AV} {rem : List Ent} {Fin : Option Exit → List Ob → Prop}
    (hgd : (σ.val g).dg = true) (hgf : (σ.val g).dv = .fn fid caps) (hcp : AV.portL σ.own caps = some caps') (hL : L.Nodup) (hLl : L.length ≤ 1000) (hl : obsLend L σ.own L = some l) (hN : C.N ≤ 1000) (henv : LendE L σ.own σ.env env')
    (hspec : ∀ g : Gst, ∃ Post, FSpecL C.P fid (.c (.raw g.fv) :: caps') [.guest g rem] [] Post ∧ ∀ r l', Post r l' → l' = [.guest g []])
    (hrun : RunR C.P C.N ps assign body env' Fin rem l)
    (hK : ∀ pend lf, Fin pend lf → ∃ os, obsBack L lf = some os ∧ lf.length = L.length ∧ Q (exitOf pend) ⟨σ.env, ownBack σ.own L os⟩) : WV C (.rng g ps assign body) Q σ := by
  intro c hc
  cases c
  case rangeFunc g' pars ca cb =>
    simp only [comp] at hc
    split at hc
    case isFalse => cases hc
    rename_i hall
    simp only [Option.bind_eq_bind, Option.bind_eq_some_iff, Option.some.injEq, VC.rng.injEq] at hc
    obtain ⟨g'', hcg, assign', hca, body', hcb, rfl, rfl, rfl, rfl⟩ := hc
    rintro a w ⟨loc, hg⟩
    refine wpIn_rangeFunc fun fn _ => ?_
    obtain ⟨lp, mark, w1, D, hent, hrec, hlp, hlpF, hg1⟩ := enter_G hg hC fn pars ca cb
    obtain ⟨a', ha'⟩ : ∃ a' : Act, a' = { a with defers := mark ++ a.defers } := ⟨_, rfl⟩
    have hat : a'.tmps = a.tmps := by rw [ha']
    rw [← ha'] at hg1
    have hev : ∀ o, a'.eval o = a.eval o := fun o => by rw [ha']; cases o <;> rfl
    have hlp1 : lp < w1.heap.size := (Array.getElem?_eq_some_iff.1 hrec).1
    have hrg := vald hg1 hcg hgd
    rw [hgf, hev] at hrg
    simp only [RepA] at hrg
    obtain ⟨lb, hgv, hrb⟩ := hrg
    have hcl : callable C.P fid := by
      obtain ⟨Post, h, _⟩ := hspec ⟨undef, fun _ _ _ _ => False⟩
      exact h.1
    refine ⟨lp, mark, w1, { target := .fn (.func fid) lb.toArray, args := #[.func (.yield lp) #[] #[]] }, w1, fid, #[.func (.yield lp) #[] #[]] ++ lb.toArray, w1, hent, ?_, fun f' hf' => ?_, ?_, fun h => (by rw [C.F_depth] at h; cases h), ?_⟩
    · simp only [resolve, hgv]
      simp [go_sem]
    · exact C.F_fn f'
    · obtain ⟨fn', hfn', hbody', hname'⟩ := hcl
      obtain ⟨bd, hbn⟩ := Option.isSome_iff_exists.1 hbody'
      simp [invoke, callFunc, hfn', hname', hbn]
    · rw [← ha']
      refine callsIn_C C ?_
      obtain ⟨e1, e2, e3⟩ := obsLend_get hl
      have hlen : l.length ≤ 1000 := by omega
      obtain ⟨s1, s2, s3, s4, s5, s6⟩ := lent_start hg1 hL hlen hl
      obtain ⟨rc, hrc⟩ : ∃ rc : Loop, rc = { state := .ready, pending := none, fn, tmps := a.tmps, params := pars, assign := ca, body := cb, defers := D } := ⟨_, rfl⟩
      obtain ⟨R, hR⟩ : ∃ R : RC, R = ⟨C.P, C.N, C.m, pars.toList, assign', body', env', Fin, lp, rc, locL 1000 loc L⟩ := ⟨_, rfl⟩
      have hRok : R.Ok := by
        rw [hR, hrc]
        exact ⟨hca, hcb, rfl, by have := hg1.size; rw [hat] at this; exact this, fun p hp => by have := List.all_eq_true.1 hall p hp; simpa using this, hN⟩
      have hundef : Value.oneCell' undef = false := rfl
      have hloc1 : ∀ n, (locL 1000 loc L n).oneCell' = true → (ownL 1000 l n).isPlace = true ∧ n < 2000 := by
        intro n hn
        unfold locL at hn
        split at hn
        · rename_i hge
          cases hm : L[n - 1000]? with
          | none => rw [hm, hundef] at hn; cases hn
          | some m =>
            rw [hm] at hn
            simp only at hn
            obtain ⟨ob, ho, hlo⟩ := e2 _ _ hm
            have hlt := (List.getElem?_eq_some_iff.1 hm).1
            have := ownL_at ho
            rw [show 1000 + (n - 1000) = n from by omega] at this
            rw [this]
            refine ⟨?_, by omega⟩
            have hob := hg1.objs m
            cases hx : σ.own m <;> rw [hx] at hlo hob <;> simp only [Ob.lend, Option.map_eq_some_iff, Option.some.injEq, reduceCtorEq] at hlo
            · obtain ⟨cs, _, rfl⟩ := hlo; rfl
            · obtain ⟨_, Lg, h0, _⟩ := hob
              rw [h0] at hn
              cases hn
            · subst hlo; rfl
        · rw [hundef] at hn; cases hn
      have hout : ∀ n, n < 1000 ∨ 1000 + l.length ≤ n → locL 1000 loc L n = undef := by
        intro n hn
        unfold locL
        split
        · rw [List.getElem?_eq_none (by omega)]
        · rfl
      have hfl : ∀ b, Foot (ownL 1000 l) (locL 1000 loc L) b ↔ FootL σ.own loc L b := by
        intro b
        refine ⟨s5 b, ?_⟩
        rintro ⟨m, hm, hb⟩
        obtain ⟨i, hi⟩ := List.mem_iff_getElem?.1 hm
        obtain ⟨ob, ho, hlo⟩ := e2 i m hi
        exact ⟨1000 + i, by rw [ownL_at ho, locL_at hi, Ob.lend_has hlo]; exact hb⟩
      have hobj : ∀ n, ObOk C.P (fun _ => True) w1 (MM C σ.own loc) (locL 1000 loc L) (locL 1000 loc L n) (ownL 1000 l n) := by
        intro n
        rcases ownL_cases l n with ⟨i, ob, rfl, ho, hw⟩ | hw
        · obtain ⟨m, hm, hlo⟩ := e3 i ob ho
          rw [hw, locL_at hm]
          exact (ObOk.lend hg1 hlo).1
        · rw [hw]; trivial
      have hsol0 : l.all (Ob.solid l.length) = true := by cases rem <;> exact hrun.1
      have hJ : RoundJ R rem (lp :: obsBlocks l (locL 1000 loc L)) (MM C σ.own loc) w1 := by
        rw [hR]
        refine ⟨l, locL 1000 loc L, .inl ⟨hrun, ?_⟩, hlen, hout, hobj, fun n m b hnm hn hm => ?_, fun t => ?_, fun b hb => List.mem_cons_of_mem _ (obsBlocks_iff.2 hb), fun n hn => ⟨(hloc1 n hn).1, rfl⟩, List.mem_cons_self, fun h => hlpF ?_⟩
        · rw [hrec]; simp [RC.recO, hrc]
        · have hs : ∀ n, (ownL 1000 l n).has (locL 1000 loc L n) b → n < 2000 := by
            intro n h
            rcases Nat.lt_or_ge n 2000 with h' | h'
            · exact h'
            · rw [ownL_out (by omega)] at h; exact (Ob.has_none _ _ h).elim
          exact s3.disj n m b hnm (by rw [ownW_small (hs n hn)]; exact hn) (by rw [ownW_small (hs m hm)]; exact hm)
        · simp only [hrc]
          have hs := hg1.slots t
          rw [hat] at hs
          rcases henv t with h | h
          · rw [h]; simp only [RepA]
          · exact lend_rep hg1 hs h
        · obtain ⟨m, _, hb⟩ := (hfl _).1 h
          exact ⟨m, hb⟩
      obtain ⟨gs, hgd⟩ : ∃ gs, gs = roundG R := ⟨_, rfl⟩
      have hgok : gs.Ok C.P := by have := roundG_ok hRok; rw [hgd]; rw [hR] at this ⊢; exact this
      have hgfv : gs.fv = .func (.yield lp) #[] #[] := by rw [hgd, hR]; rfl
      have hgJ : gs.J = RoundJ R := by rw [hgd]; rfl
      obtain ⟨Lg, hLg⟩ : ∃ Lg, Lg = lp :: obsBlocks l (locL 1000 loc L) := ⟨_, rfl⟩
      have hLgf : ∀ b, b ∈ Lg ↔ b = lp ∨ FootL σ.own loc L b := fun b => by rw [hLg, List.mem_cons, obsBlocks_iff, hfl b]
      obtain ⟨lh, hlh⟩ : ∃ lh : Nat → Value, lh = fun n => if n = 1000 then encV Lg else undef := ⟨_, rfl⟩
      have hlh1 : lh 1000 = encV Lg := by rw [hlh]; rfl
      have how : ∀ (rm : List Ent) (n : Nat), ownW [.guest gs rm] [] n = if n = 1000 then .guest gs rm else .none := by
        intro rm n
        rcases ownW_cases [.guest gs rm] [] n with ⟨i, ob, rfl, _, ho, hw⟩ | ⟨j, cs, _, hj, _⟩ | hw
        · have : i = 0 := by have := (List.getElem?_eq_some_iff.1 ho).1; simp at this; exact this
          subst this
          simp at ho
          rw [hw, ← ho]; simp
        · simp at hj
        · by_cases hn : n = 1000
          · subst hn; simp [ownW, ownL] at hw
          · rw [hw, if_neg hn]
      have hol : ∀ (rm : List Ent) (n : Nat), ownL 1000 [.guest gs rm] n = if n = 1000 then .guest gs rm else .none := by
        intro rm n
        rcases ownL_cases [.guest gs rm] n with ⟨i, ob, rfl, ho, hw⟩ | hw
        · have : i = 0 := by have := (List.getElem?_eq_some_iff.1 ho).1; simp at this; exact this
          subst this
          simp at ho
          rw [hw, ← ho]; simp
        · by_cases hn : n = 1000
          · subst hn; simp [ownL] at hw
          · rw [hw, if_neg hn]
      have hfootg : ∀ (rm : List Ent) (lx : Nat → Value) (b : Nat), Foot (ownW [.guest gs rm] []) lx b ↔ footV (lx 1000) b := by
        intro rm lx b
        constructor
        · rintro ⟨n, h⟩
          rw [how] at h
          by_cases hn : n = 1000
          · subst hn; rw [if_pos rfl] at h; exact h
          · rw [if_neg hn] at h; exact (Ob.has_none _ _ h).elim
        · intro h; exact ⟨1000, by rw [how, if_pos rfl]; exact h⟩
      have hfootl : ∀ (rm : List Ent) (lx : Nat → Value) (b : Nat), Foot (ownL 1000 [.guest gs rm]) lx b ↔ footV (lx 1000) b := by
        intro rm lx b
        constructor
        · rintro ⟨n, h⟩
          rw [hol] at h
          by_cases hn : n = 1000
          · subst hn; rw [if_pos rfl] at h; exact h
          · rw [if_neg hn] at h; exact (Ob.has_none _ _ h).elim
        · intro h; exact ⟨1000, by rw [hol, if_pos rfl]; exact h⟩
      have hbar : ∀ b, FootL σ.own loc L b → ∀ k, MM C σ.own loc b k := by
        intro b hb k
        obtain ⟨n, hn⟩ := (hfl b).2 hb
        rcases ownL_cases l n with ⟨i, ob, rfl, ho, hw⟩ | hw
        · obtain ⟨m, hm, hlo⟩ := e3 i ob ho
          rw [hw] at hn
          have := solid_mut (List.all_eq_true.1 hsol0 ob (List.mem_of_getElem? ho)) hn k
          rw [locL_at hm, Ob.lend_mut hlo] at this
          exact .inr ⟨m, this⟩
        · rw [hw] at hn; exact (Ob.has_none _ _ hn).elim
      have hMMlp : ∀ k, ¬ MM C σ.own loc lp k := by
        rintro k (h | ⟨m, h⟩)
        · have h1 := (hg.m0 _ _ h).1
          have h2 := hg.fr.size
          omega
        · exact hlpF ⟨m, Ob.has_of_mut h⟩
      have hsubg : ∀ b k, b ≠ lp → AddM (McL C σ loc L) (ownW [.guest gs rem] []) lh b k → MM C σ.own loc b k := by
        rintro b k hbl (h | h)
        · exact h.1
        · obtain ⟨n, h⟩ := h
          have : Foot (ownW [.guest gs rem] []) lh b := ⟨n, Ob.has_of_mut h⟩
          rw [hfootg, hlh1, footV_encV, hLgf] at this
          exact hbar b (this.resolve_left hbl) k
      have hless : Keeps w1 w1 (MM C σ.own loc) (AddM (McL C σ loc L) (ownW [.guest gs rem] []) lh) := ⟨fun _ _ _ => rfl, fun p hp hm h => hm (hsubg _ _ (cell_loop hrec hp) h)⟩
      obtain ⟨Post, hsp, hPost⟩ := hspec gs
      have hspec1 := hsp.2.2 w1 (McL C σ loc L) lh (.func (.yield lp) #[] #[] :: lb)
        (fun b k hm => ⟨MM_lt hg1 b k hm.1, fun h => by
          rw [hfootg, hlh1, footV_encV, hLgf] at h
          rcases h with rfl | h
          · exact hMMlp k hm.1
          · exact hm.2 h⟩)
        ⟨fun n => by
          rw [how]
          by_cases hn : n = 1000
          · subst hn
            rw [if_pos rfl, hlh1]
            refine ⟨hgok, Lg, rfl, hgok.keep (by rw [hgJ, hLg]; exact hJ) hless (fun _ _ => rfl) (Nat.le_refl _), fun b hb => ⟨?_, trivial⟩⟩
            rcases (hLgf b).1 hb with rfl | ⟨m, hm, hb'⟩
            · exact hlp1
            · exact (hg1.objs m).lt hb'
          · rw [if_neg hn]; trivial,
         fun n m b hnm hn hm => by
          rw [how] at hn hm
          by_cases h1 : n = 1000
          · by_cases h2 : m = 1000
            · exact hnm (h1.trans h2.symm)
            · rw [if_neg h2] at hm; exact Ob.has_none _ _ hm
          · rw [if_neg h1] at hn; exact Ob.has_none _ _ hn⟩
        (by
          refine RepAs.keep hless _ _ ?_
          simp only [RepAs]
          exact ⟨_, lb, rfl, by simp only [RepA, RepC]; exact ⟨hgfv.symm, by rw [hgfv]; rfl⟩, ports_rep hg1 hrb hcp⟩)
      have e0 : #[Value.func (.yield lp) #[] #[]] ++ lb.toArray = (Value.func (.yield lp) #[] #[] :: lb).toArray := by apply Array.ext'; simp
      rw [e0]
      refine hspec1.mono fun e w2 h => ?_
      obtain ⟨v, r', l', loc', rfl, hpo, hll, fx, kp, ok, has, plc, hr⟩ := h
      have hl'e := hPost r' l' hpo
      subst hl'e
      have hob := ok.objs 1000
      rw [how, if_pos rfl] at hob
      obtain ⟨_, Lq, hq, hJ', hLq⟩ := hob
      rw [hgJ, hR] at hJ'
      obtain ⟨lf, lx, k1, k2, k3, k4, k5, k6, k7, k8, k9, k10⟩ := hJ'
      obtain ⟨pend, r2, hfin, hr2, hst, hpend⟩ : ∃ (pend : Option Exit) (r2 : Loop), Fin pend lf ∧ w2.heap[lp]? = some (.loop r2) ∧ r2.state ≠ .busy ∧ ((pend = none ∧ r2.pending = none) ∨ ∃ x, pend = some x ∧ r2.pending = some (jumpC x) ∧ (x = .ret ∨ ∃ id, x = .exit id)) := by
        rcases k1 with ⟨⟨_, h1⟩, h2⟩ | ⟨_, _, x, hx, h1, h2⟩
        · exact ⟨none, _, h1, h2, by simp, .inl ⟨rfl, rfl⟩⟩
        · exact ⟨some x, _, h1, h2, by simp, .inr ⟨x, rfl, rfl, hx⟩⟩
      have hlp2 : lp < w2.heap.size := (Array.getElem?_eq_some_iff.1 hr2).1
      obtain ⟨os, hbk, hlfl, hk'⟩ := hK pend lf hfin
      refine ⟨_, _, run_endLoop hr2 hst, ?_⟩
      obtain ⟨rX, hrX⟩ : ∃ rX : Loop, rX = { r2 with state := .exhausted } := ⟨_, rfl⟩
      rw [← hrX]
      obtain ⟨w3, hw3⟩ : ∃ w3, w3 = w2.putObj lp (.loop rX) := ⟨_, rfl⟩
      rw [← hw3]
      have hg1' := hg1.tickOwn hrec (Nat.le_trans hg.fr.size hlp) hlpF rX
      obtain ⟨w1', hw1'⟩ : ∃ w1', w1' = w1.putObj lp (.loop rX) := ⟨_, rfl⟩
      rw [← hw1'] at hg1'
      have ho1 : ∀ k, k ≠ lp → w1'.heap[k]? = w1.heap[k]? := fun k hk => by rw [hw1']; exact World.putObj_heap_other hk
      have ho3 : ∀ k, k ≠ lp → w3.heap[k]? = w2.heap[k]? := fun k hk => by rw [hw3]; exact World.putObj_heap_other hk
      have hl1 : w1'.heap[lp]? = some (.loop rX) := by rw [hw1']; exact World.putObj_heap_same hlp1
      have hl3 : w3.heap[lp]? = some (.loop rX) := by rw [hw3]; exact World.putObj_heap_same hlp2
      have hsz1 : w1'.heap.size = w1.heap.size := by rw [hw1']; simp
      have hsz3 : w3.heap.size = w2.heap.size := by rw [hw3]; simp
      have hk23 : ∀ M', Keeps w2 w3 M' M' := fun M' => ⟨fun p hp _ => World.cell?_of_block (ho3 _ (cell_loop hr2 hp)), fun p _ h => h⟩
      have hfx : Fx w1' w3 (FootL σ.own loc L) := ⟨by rw [hw3, hw1']; exact fx.os, by rw [hw3, hw1']; exact fx.tape, by rw [hw3, hw1']; exact fx.output, by rw [hsz1, hsz3]; exact fx.size, fun k hk hn => by
        by_cases hkl : k = lp
        · subst hkl; rw [hl1, hl3]
        · rw [ho3 k hkl, ho1 k hkl]
          refine fx.block k (by omega) fun h => ?_
          rw [hfootl, hlh1, footV_encV, hLgf] at h
          exact hn (h.resolve_left hkl)⟩
      have hqin : ∀ b, b ∈ Lq → b = lp ∨ FootL σ.own loc L b ∨ w1.heap.size ≤ b := by
        intro b hb
        rcases has 1000 b (by rw [hol, if_pos rfl, hq]; simp only [Ob.has, footV_encV]; exact hb) with h | h
        · rw [hfootl, hlh1, footV_encV, hLgf] at h
          exact h.imp id .inl
        · exact .inr (.inr h)
      have hcell : ∀ p : Addr, (w1'.cell? p).isSome = true → p.block ≠ lp ∧ w1'.cell? p = w1.cell? p := fun p hp => ⟨cell_loop hl1 hp, World.cell?_of_block (ho1 _ (cell_loop hl1 hp))⟩
      obtain ⟨loc'', hg', _⟩ := hg1'.lent (w' := w3) (M' := AddM (McL C σ loc L) (ownW [.guest gs []] []) loc') (l' := lf) (loc' := lx) hL hlfl s4 hfx
        (fun p hp hm => by
          obtain ⟨hpl, hce⟩ := hcell p hp
          rw [hce] at hp
          have h1 := kp.cell p hp fun h => hm (hsubg _ _ hpl h)
          refine ⟨?_, kp.free p hp fun h => hm (hsubg _ _ hpl h)⟩
          rw [World.cell?_of_block (ho3 _ hpl), h1, hce])
        (by
          rintro b k (h | ⟨i, ob, hi, hb⟩)
          · exact .inl h
          · refine .inr ⟨1000, ?_⟩
            rw [how, if_pos rfl, hq]
            simp only [Ob.mut, footV_encV]
            exact k7 b ⟨1000 + i, by rw [ownL_at hi]; exact Ob.has_of_mut hb⟩)
        (fun i ob hi => by
          have := k4 (1000 + i)
          rw [ownL_at hi] at this
          exact this.keep' (hk23 _) (by omega) (fun b hb => ho3 b (by rintro rfl; exact k10 ⟨1000 + i, by rw [ownL_at hi]; exact hb⟩)))
        (fun i j o o' b hij hi hj hb hb' => k5 (1000 + i) (1000 + j) b (by omega) (by rw [ownL_at hi]; exact hb) (by rw [ownL_at hj]; exact hb'))
        (fun i ob b hi hb => by
          have hf : Foot (ownL 1000 lf) lx b := ⟨1000 + i, by rw [ownL_at hi]; exact hb⟩
          rcases hqin b (k7 b hf) with rfl | h | h
          · exact (k10 hf).elim
          · exact .inl h
          · exact .inr (by omega))
        (fun i n hi hone => by
          have := (k8 (1000 + i) (by show (locL 1000 loc L (1000 + i)).oneCell' = true; rw [locL_at hi]; exact hone)).2
          rw [this]; show locL 1000 loc L (1000 + i) = loc n; rw [locL_at hi]) hbk
      rcases hpend with ⟨rfl, hp⟩ | ⟨x, rfl, hp, hx⟩
      · rw [hp]
        exact ⟨_, ⟨loc'', hg'⟩, hk'⟩
      · rw [hp]
        rcases hx with rfl | ⟨id, rfl⟩
        · exact wpIn_ret ⟨_, ⟨loc'', hg'⟩, hk'⟩
        · exact wpIn_exit ⟨_, ⟨loc'', hg'⟩, hk'⟩
  case region => rcases comp_region hc with ⟨_, h⟩ | ⟨_, h⟩ <;> cases h
  all_goals (simp [comp, Option.bind_eq_some_iff, Option.map_eq_some_iff] at hc)
end Go.V

/-
  A box that is not written any more turns into data.
-/
namespace Go.V

mutual
def AV.frz (n : Nat) (ds : List CD) : AV → AV
  | .bp m o => if m = n then .c (.pt (ds.drop o)) else .bp m o
  | .vw sz m off len cap => if m = n then (if off + len * sz ≤ ds.length then .c (.sl sz (grp sz len ((ds.drop off).take (len * sz)))) else .non) else .vw sz m off len cap
  | .agg cs => .agg (AV.frzL n ds cs)
  | .tup cs => .tup (AV.frzL n ds cs)
  | .fn f cs => .fn f (AV.frzL n ds cs)
  | .opt g x => .opt g (AV.frz n ds x)
  | .gr m => .gr m
  | .non => .non
  | .c x => .c x
def AV.frzL (n : Nat) (ds : List CD) : List AV → List AV
  | [] => []
  | a :: as => AV.frz n ds a :: AV.frzL n ds as
end
def Ob.frz (n : Nat) (ds : List CD) : Ob → Ob
  | .box cs => .box (AV.frzL n ds cs)
  | .win cs => .win (AV.frzL n ds cs)
  | o => o
def frzE (n : Nat) (ds : List CD) (f : Nat → AV) : Nat → AV := fun t => (f t).frz n ds
def frzO (n : Nat) (ds : List CD) (f : Nat → Ob) : Nat → Ob := fun m => if m = n then .none else (f m).frz n ds
theorem frzE_app (n : Nat) (ds : List CD) (f : Nat → AV) (t : Nat) : frzE n ds f t = (f t).frz n ds := rfl
theorem frzO_app (n : Nat) (ds : List CD) (f : Nat → Ob) (m : Nat) : frzO n ds f m = if m = n then .none else (f m).frz n ds := rfl

section
variable {w : World} {M : Cells} {loc : Nat → Value} {n b : Nat} {ds : List CD}

theorem RepL.take' : ∀ (k : Nat) (cs : List CD) (ad : Addr), RepL w M cs ad → RepL w M (cs.take k) ad
  | 0, cs, ad, _ => by simp [RepL]
  | k + 1, [], ad, _ => by simp [RepL]
  | k + 1, c :: cs, ad, h => by
    simp only [RepL] at h
    simp only [List.take_succ_cons, RepL]
    exact ⟨h.1, RepL.take' k cs _ h.2⟩

theorem repE_grp (sz : Nat) : ∀ (len : Nat) (cs : List CD) (ad : Addr), len * sz ≤ cs.length → RepL w M cs ad → RepE w M sz (grp sz len cs) ad
  | 0, cs, ad, _, _ => by simp [grp, RepE]
  | len + 1, cs, ad, hl, h => by
    have hm : (len + 1) * sz = len * sz + sz := by rw [Nat.add_mul]; omega
    simp only [grp, RepE]
    exact ⟨⟨by rw [List.length_take]; omega, RepL.take' sz cs ad h⟩, repE_grp sz len _ _ (by rw [List.length_drop]; omega) (RepL.drop sz cs ad h)⟩

mutual
theorem frz_rep (hl : loc n = .pointer (some ⟨b, 0, none⟩)) (hd : RepL w M ds ⟨b, 0, none⟩) : ∀ {x : AV} {v : Value}, RepA w M loc x v → RepA w M loc (x.frz n ds) v
  | .non, v, h => h
  | .c d, v, h => h
  | .gr m, v, h => h
  | .bp m o, v, h => by
    simp only [AV.frz]
    split
    · rename_i hm; subst hm
      simp only [RepA, RepC] at h ⊢
      obtain ⟨b', e1, e2⟩ := h
      rw [hl] at e1
      simp only [Value.pointer.injEq, Option.some.injEq, Addr.mk.injEq, and_true] at e1
      subst e1
      refine ⟨_, e2, ?_⟩
      have := RepL.drop o ds _ hd
      have e : (⟨b, 0, none⟩ : Addr).add o = ⟨b, o, none⟩ := by unfold Addr.add; split <;> simp_all
      rwa [e] at this
    · exact h
  | .vw sz m off len cap, v, h => by
    simp only [AV.frz]
    split
    · rename_i hm; subst hm
      split
      · rename_i hfit
        simp only [RepA, RepC] at h ⊢
        obtain ⟨b', o', e1, rfl, ho, hlc, hcm⟩ := h
        rw [hl] at e1
        simp only [Value.pointer.injEq, Option.some.injEq, Addr.mk.injEq, and_true] at e1
        subst e1
        refine ⟨_, cap, by rw [grp_len], by rw [grp_len]; exact hlc, hcm, ?_⟩
        by_cases h0 : len = 0
        · subst h0; exact .inl rfl
        · have := ho (by omega)
          subst this
          refine .inr ⟨_, rfl, repE_grp sz len _ _ (by rw [List.length_take, List.length_drop]; omega) (RepL.take' _ _ _ ?_)⟩
          have := RepL.drop o' ds _ hd
          have e : (⟨b, 0, none⟩ : Addr).add o' = ⟨b, o', none⟩ := by unfold Addr.add; split <;> simp_all
          rwa [e] at this
      · simp only [RepA]
    · exact h
  | .agg cs, v, h => by
    simp only [AV.frz, RepA] at h ⊢
    obtain ⟨l, hv, hr⟩ := h
    exact ⟨l, hv, frzs_rep hl hd hr⟩
  | .tup cs, v, h => by
    simp only [AV.frz, RepA] at h ⊢
    obtain ⟨l, hv, hr⟩ := h
    exact ⟨l, hv, frzs_rep hl hd hr⟩
  | .fn f cs, v, h => by
    simp only [AV.frz, RepA] at h ⊢
    obtain ⟨l, hv, hr⟩ := h
    exact ⟨l, hv, frzs_rep hl hd hr⟩
  | .opt g x, v, h => by
    simp only [AV.frz, RepA] at h ⊢
    exact ⟨fun hg => frz_rep hl hd (h.1 hg), h.2⟩
theorem frzs_rep (hl : loc n = .pointer (some ⟨b, 0, none⟩)) (hd : RepL w M ds ⟨b, 0, none⟩) : ∀ {xs : List AV} {l : List Value}, RepAs w M loc xs l → RepAs w M loc (AV.frzL n ds xs) l
  | [], l, h => h
  | x :: xs, l, h => by
    simp only [AV.frzL, RepAs] at h ⊢
    obtain ⟨v, vs, e, h1, h2⟩ := h
    exact ⟨v, vs, e, frz_rep hl hd h1, frzs_rep hl hd h2⟩
end

theorem Ob.frz_has (o : Ob) (v : Value) (b : Nat) : (o.frz n ds).has v b ↔ o.has v b := by
  cases o <;> first | exact Iff.rfl | (cases v <;> first | exact Iff.rfl | (rename_i p; cases p <;> exact Iff.rfl))
theorem Ob.frz_mut (o : Ob) (v : Value) : (o.frz n ds).mut v = o.mut v := by
  cases o <;> first | rfl | (cases v <;> first | rfl | (rename_i p; cases p <;> rfl))
theorem ObOk.frz {P : Program} {A : Nat → Prop} {v : Value} {o : Ob} (hl : loc n = .pointer (some ⟨b, 0, none⟩)) (hd : RepL w M ds ⟨b, 0, none⟩) (h : ObOk P A w M loc v o) : ObOk P A w M loc v (o.frz n ds) := by
  cases o with
  | none => trivial
  | box cs => obtain ⟨b1, l, e, h1, h2, h3, h4⟩ := h; exact ⟨b1, l, e, h1, h2, h3, frzs_rep hl hd h4⟩
  | win cs => obtain ⟨b1, l, r, e, h1, h3, h4⟩ := h; exact ⟨b1, l, r, e, h1, h3, frzs_rep hl hd h4⟩
  | grow e sz es => exact h
  | guest g rem => exact h
  | mp kk ek l => exact h
end

theorem repL_of {w : World} {M : Cells} {loc : Nat → Value} {b : Nat} : ∀ (ds : List CD) (l : List Value) (o : Nat), RepAs w M loc (ds.map .c) l → (∀ j u, l[j]? = some u → w.cell? ⟨b, o + j, none⟩ = some u) → (∀ j, j < l.length → ¬ M b (o + j)) → RepL w M ds ⟨b, o, none⟩
  | [], l, o, _, _, _ => by simp [RepL]
  | c :: cs, l, o, h, hc, hm => by
    simp only [List.map_cons, RepAs] at h
    obtain ⟨v, vs, rfl, h1, h2⟩ := h
    simp only [RepL]
    refine ⟨⟨v, by simpa using hc 0 v rfl, by simpa using hm 0 (by simp), by simpa only [RepA] using h1⟩, ?_⟩
    have : (⟨b, o, none⟩ : Addr).add 1 = ⟨b, o + 1, none⟩ := by simp [Addr.add]
    rw [this]
    refine repL_of cs vs (o + 1) h2 (fun j u hj => ?_) (fun j hj => ?_)
    · have := hc (j + 1) u (by simpa using hj)
      rwa [show o + (j + 1) = o + 1 + j from by omega] at this
    · have := hm (j + 1) (by simpa using hj)
      rwa [show o + (j + 1) = o + 1 + j from by omega] at this

theorem Sub_freeze {σ : St} (n : Nat) (cs : List AV) (ds : List CD) (hb : σ.own n = .box cs) (hd : cs.mapM (AV.toCD σ.own) = some ds) : Sub σ ⟨frzE n ds σ.env, frzO n ds σ.own⟩ := by
  rintro C a w ⟨loc, hg⟩
  have hob := hg.objs n
  rw [hb] at hob
  obtain ⟨b, l, e, hl, hA, hh, hrs⟩ := hob
  have hrd := toCDs_rep hg hrs hd
  have hhas : ∀ m c, (frzO n ds σ.own m).has (loc m) c → m ≠ n ∧ (σ.own m).has (loc m) c := by
    intro m c h
    unfold frzO at h
    split at h
    · exact (Ob.has_none _ _ h).elim
    · rename_i hm; exact ⟨hm, (Ob.frz_has _ _ _).1 h⟩
  have hMb : ∀ o, ¬ MM C (frzO n ds σ.own) loc b o := by
    rintro o (h | ⟨m, h⟩)
    · have h1 := hg.m0 _ _ h
      rcases hA with h2 | h2
      · omega
      · exact h1.2 h2
    · obtain ⟨hm, h'⟩ := hhas m b (Ob.has_of_mut h)
      exact hg.disj m n b hm h' (by rw [hb, hl]; rfl)
  have hk : Keeps w w (MM C σ.own loc) (MM C (frzO n ds σ.own) loc) := Keeps.less fun c o h => by
    rcases h with h | ⟨m, h⟩
    · exact .inl h
    · unfold frzO at h
      split at h
      · exact (Ob.has_none _ _ (Ob.has_of_mut h)).elim
      · rw [Ob.frz_mut] at h; exact .inr ⟨m, h⟩
  have hrd' : RepL w (MM C (frzO n ds σ.own) loc) ds ⟨b, 0, none⟩ := by
    refine repL_of ds l 0 (RepAs.keep hk _ _ hrd) (fun j u hj => ?_) (fun j _ => by simpa using hMb _)
    rw [cell_bp hh, Nat.zero_add, hj]
  refine ⟨loc, hg.fr, hg.m0, hg.kp.trans hk, fun x hx => ?_, hg.mnd, hg.pin, hg.size, fun t => ?_, fun m => ?_, fun m k c hmk hm hk' => hg.disj m k c hmk (hhas m c hm).2 (hhas k c hk').2⟩
  · obtain ⟨D, e1, e2, e3, e4⟩ := hg.marks x hx
    exact ⟨D, e1, e2, e3, fun ⟨m, h⟩ => e4 ⟨m, (hhas m D h).2⟩⟩
  · exact frz_rep hl hrd' (RepA.keep hk _ _ (hg.slots t))
  · show ObOk C.P C.A w _ loc (loc m) (frzO n ds σ.own m)
    unfold frzO
    split
    · trivial
    · exact ObOk.frz hl hrd' (ObOk.keep' hk (Nat.le_refl _) (fun _ _ => rfl) (hg.objs m))

theorem WV_freeze {C : Ctx} {Q : Exit → St → Prop} {v : VC} {env : Nat → AV} {own : Nat → Ob} (n : Nat) {cs : List AV} {ds : List CD} (hb : own n = .box cs) (hd : cs.mapM (AV.toCD own) = some ds) (h : WV C v Q ⟨frzE n ds env, frzO n ds own⟩) : WV C v Q ⟨env, own⟩ :=
  WV_sub (Sub_freeze n cs ds hb hd) h
end Go.V

/-
  Rules over states that are written out: loops that name what they change alone; calls; rounds.
-/
namespace Go.V

theorem AOps_cons {P : Program} {i : Ins} {is : List Ins} {K : St → Prop} {σ : St} : AOps P (i :: is) K σ = AStep P i (AOps P is K) σ := rfl
theorem AOps_nil {P : Program} {K : St → Prop} {σ : St} : AOps P [] K σ = K σ := rfl
theorem ATree_cons {P : Program} {i : Ins} {t : OT} {K : St → Prop} {σ : St} : ATree P (.cons i t) K σ = AStep P i (ATree P t K) σ := by simp only [ATree]
theorem ATree_nil {P : Program} {K : St → Prop} {σ : St} : ATree P .nil K σ = K σ := by simp only [ATree]
theorem ATree_br {P : Program} {ts : List OT} {K : St → Prop} {σ : St} : ATree P (.br ts) K σ = ATrees P ts K σ := by simp only [ATree]
theorem ATrees_cons {P : Program} {t : OT} {ts : List OT} {K : St → Prop} {σ : St} : ATrees P (t :: ts) K σ = (ATree P t K σ ∧ ATrees P ts K σ) := by simp only [ATrees]
theorem ATrees_nil {P : Program} {K : St → Prop} {σ : St} : ATrees P [] K σ = True := by simp only [ATrees]
theorem ATrees_one {P : Program} {t : OT} {K : St → Prop} {σ : St} : ATrees P [t] K σ = ATree P t K σ := by simp only [ATrees, and_true]
theorem AStep_S {P : Program} {d : Option Nat} {i : I} {g : Option (Nat × Bool)} {K : St → Prop} {σ : St} : AStep P ⟨d, i, g, true⟩ K σ = AStepS P ⟨d, i, g, true⟩ K σ := rfl
theorem AStep_P {P : Program} {d : Option Nat} {i : I} {g : Option (Nat × Bool)} {K : St → Prop} {σ : St} : AStep P ⟨d, i, g, false⟩ K σ = AStepP P ⟨d, i, g, false⟩ K σ := by simp [AStep]
theorem thenQ_normal {K : St → Prop} {Q : Exit → St → Prop} {σ : St} : thenQ K Q .normal σ = K σ := rfl
theorem bif_and (q x : Bool) : (bif q then x else false) = (q && x) := by cases q <;> rfl
theorem bif_or (q x : Bool) : (bif q then true else x) = (q || x) := by cases q <;> rfl

/-! ### What code writes -/
def Ins.wr (i : Ins) : List Nat := match i.d with | some d => [d] | none => []
mutual
def OT.wr : OT → List Nat
  | .nil => []
  | .cons i t => i.wr ++ t.wr
  | .br ts => OT.wrL ts
def OT.wrL : List OT → List Nat
  | [] => []
  | t :: ts => t.wr ++ OT.wrL ts
end
def VC.wr : VC → List Nat
  | .ops is => is.flatMap Ins.wr
  | .drw t => t.wr
  | .seq a b => a.wr ++ b.wr
  | .cond _ a b => a.wr ++ b.wr
  | .block _ a => a.wr
  | .loop a => a.wr
  | .rng _ ps _ _ => ps
  | _ => []

def hav (ws : List Nat) (f : Nat → AV) : Nat → AV := fun t => if t ∈ ws then .non else f t
def havO (ws : List Nat) (f : Nat → Ob) : Nat → Ob := fun t => if t ∈ ws then .none else f t
def updOs : (Nat → Ob) → List (Nat × Ob) → Nat → Ob
  | own, [] => own
  | own, (p, v) :: r => updOs (upd own p v) r
theorem hav_app (ws : List Nat) (f : Nat → AV) (t : Nat) : hav ws f t = if t ∈ ws then .non else f t := rfl
theorem havO_app (ws : List Nat) (f : Nat → Ob) (t : Nat) : havO ws f t = if t ∈ ws then .none else f t := rfl

/-! ### What is forgotten -/
theorem prgE_upd' (d : Nat) (f : Nat → AV) (t : Nat) (v : AV) : prgE d (upd f t v) = upd (prgE d f) t (v.prg d) := prgE_upd d f t v
theorem prgE_e0 (d : Nat) : prgE d e0 = e0 := rfl
theorem prgE_hav (d : Nat) (ws : List Nat) (f : Nat → AV) : prgE d (hav ws f) = hav ws (prgE d f) := by
  funext t; simp only [prgE, hav]; split <;> rfl
theorem prgO_upd (d : Nat) (f : Nat → Ob) (n : Nat) (o : Ob) : prgO d (upd f n o) = upd (prgO d f) n (o.prg d) := by
  funext t; simp only [prgO, upd]; split <;> rfl
theorem prgO_o0 (d : Nat) : prgO d o0 = o0 := rfl
theorem prgO_havO (d : Nat) (ws : List Nat) (f : Nat → Ob) : prgO d (havO ws f) = havO ws (prgO d f) := by
  funext t; simp only [prgO, havO]; split <;> rfl
theorem frzE_upd (n : Nat) (ds : List CD) (f : Nat → AV) (t : Nat) (v : AV) : frzE n ds (upd f t v) = upd (frzE n ds f) t (v.frz n ds) := by
  funext s; simp only [frzE, upd]; split <;> rfl
theorem frzE_e0 (n : Nat) (ds : List CD) : frzE n ds e0 = e0 := rfl
theorem frzE_hav (n : Nat) (ds : List CD) (ws : List Nat) (f : Nat → AV) : frzE n ds (hav ws f) = hav ws (frzE n ds f) := by
  funext t; simp only [frzE, hav]; split <;> rfl
theorem frzO_upd (n : Nat) (ds : List CD) (f : Nat → Ob) (m : Nat) (o : Ob) : frzO n ds (upd f m o) = if m = n then frzO n ds f else upd (frzO n ds f) m (o.frz n ds) := by
  funext t
  by_cases hm : m = n
  · subst hm; simp only [frzO, upd, if_true]; split <;> rfl
  · rw [if_neg hm]; simp only [frzO, upd]; split <;> split <;> simp_all
theorem frzO_o0 (n : Nat) (ds : List CD) : frzO n ds o0 = o0 := by funext m; simp only [frzO, o0]; split <;> rfl

theorem hav_upd (ws : List Nat) (f : Nat → AV) (t : Nat) (v : AV) : hav ws (upd f t v) = if t ∈ ws then hav ws f else upd (hav ws f) t v := by
  funext s
  by_cases ht : t ∈ ws
  · rw [if_pos ht]
    simp only [hav, upd]
    split
    · rfl
    · rename_i hs
      have : s ≠ t := by rintro rfl; exact hs ht
      rw [if_neg this]
  · rw [if_neg ht]
    simp only [hav, upd]
    split <;> split <;> simp_all
theorem hav_e0 (ws : List Nat) : hav ws e0 = e0 := by funext t; simp only [hav, e0]; split <;> rfl
theorem havO_upd (ws : List Nat) (f : Nat → Ob) (t : Nat) (v : Ob) : havO ws (upd f t v) = if t ∈ ws then havO ws f else upd (havO ws f) t v := by
  funext s
  by_cases ht : t ∈ ws
  · rw [if_pos ht]
    simp only [havO, upd]
    split
    · rfl
    · rename_i hs
      have : s ≠ t := by rintro rfl; exact hs ht
      rw [if_neg this]
  · rw [if_neg ht]
    simp only [havO, upd]
    split <;> split <;> simp_all
theorem havO_o0 (ws : List Nat) : havO ws o0 = o0 := by funext t; simp only [havO, o0]; split <;> rfl
theorem havO_nil (f : Nat → Ob) : havO [] f = f := by funext t; simp [havO]

/-! ### EnvLe, over what is written out -/
theorem EnvLe.rfl' {own : Nat → Ob} (f : Nat → AV) : EnvLe own f f := fun t => AWk.refl own _
theorem EnvLe_hav {own : Nat → Ob} {f g : Nat → AV} {ws : List Nat} {t : Nat} {v : AV} (ht : t ∈ ws) (h : EnvLe own f (hav ws g)) : EnvLe own (upd f t v) (hav ws g) := by
  intro s
  by_cases hs : s = t
  · subst hs; left; simp [hav, ht]
  · have := h s; simpa [upd, hs] using this
theorem ObjLe.rfl' (f : Nat → Ob) : ObjLe f f := fun _ => .inl rfl
theorem ObjLe_new {f g : Nat → Ob} {d : Nat} {o : Ob} (hd : g d = .none) (h : ObjLe f g) : ObjLe (upd f d o) g := by
  intro s
  by_cases hs : s = d
  · subst hs; exact .inr hd
  · have := h s; simpa [upd, hs] using this
theorem ObjLe_same {f g : Nat → Ob} {d : Nat} {o : Ob} (h : ObjLe f g) : ObjLe (upd f d o) (upd g d o) := by
  intro s
  by_cases hs : s = d
  · subst hs; left; simp [upd]
  · have := h s; simpa [upd, hs] using this
theorem ObjLe_havO {f g : Nat → Ob} {ws : List Nat} (h : ObjLe f g) : ObjLe f (havO ws g) := by
  intro s
  simp only [havO]
  split
  · exact .inr rfl
  · exact h s
theorem EnvLe_hav' {own : Nat → Ob} {f g : Nat → AV} {ws : List Nat} (h : EnvLe own f g) : EnvLe own f (hav ws g) := by
  intro s
  simp only [hav]
  split
  · exact .inl rfl
  · exact h s

section
variable {C : Ctx} {Q : Exit → St → Prop}

/-- A LOOP that names what it changes. -/
theorem WV_loopH {ι : Type} {x : VC} {env : Nat → AV} {own : Nat → Ob} (os : List Nat) (Inv : ι → Prop) (μ : ι → Nat) (E : ι → List (Nat × AV)) (O : ι → List (Nat × Ob)) (i₀ : ι) (h₀ : Inv i₀)
    (hs : Sub ⟨env, own⟩ ⟨updPs (hav x.wr env) (E i₀), updOs (havO os own) (O i₀)⟩)
    (hr : ∀ i, Inv i → WV C x (thenQ (fun σ' => ∃ i', Inv i' ∧ μ i' < μ i ∧ Sub σ' ⟨updPs (hav x.wr env) (E i'), updOs (havO os own) (O i')⟩) Q) ⟨updPs (hav x.wr env) (E i), updOs (havO os own) (O i)⟩) :
    WV C (.loop x) Q ⟨env, own⟩ :=
  WV_loopS (fun i => ⟨updPs (hav x.wr env) (E i), updOs (havO os own) (O i)⟩) Inv μ i₀ h₀ hs hr


theorem nilTos_set (d : Nat) : ∀ (cs : List AV) (i : Nat), cs[i]? = some (.c (.raw (.slice none 0 0))) → NilTos d cs ((AV.prgL d cs).set i (.gr d))
  | [], i, h => by simp at h
  | a :: cs, 0, h => by
    simp only [List.getElem?_cons_zero, Option.some.injEq] at h
    subst h
    refine ⟨.gr d, _, rfl, .inr ⟨rfl, rfl⟩, ?_⟩
    have : ∀ l : List AV, NilTos d l (AV.prgL d l) := by
      intro l
      induction l with
      | nil => rfl
      | cons a l ih => exact ⟨_, _, rfl, .inl rfl, ih⟩
    exact this cs
  | a :: cs, i + 1, h => ⟨_, _, rfl, .inl rfl, nilTos_set d cs i (by simpa using h)⟩
theorem nilTos_prg (d : Nat) : ∀ l : List AV, NilTos d l (AV.prgL d l)
  | [] => rfl
  | a :: l => ⟨_, _, rfl, .inl rfl, nilTos_prg d l⟩
theorem nilOb_prg (d : Nat) (o : Ob) : NilOb d o (o.prg d) := by
  cases o with
  | box cs => exact ⟨_, rfl, nilTos_prg d cs⟩
  | win cs => exact ⟨_, rfl, nilTos_prg d cs⟩
  | _ => rfl
/-- nil, in a box, as a slice that the call grows. -/
theorem WV_nilbox {v : VC} {env : Nat → AV} {own : Nat → Ob} (n i d e sz : Nat) {cs : List AV} (hd1 : d < 1000) (hsz : 0 < sz) (hnd : n ≠ d) (hd : own d = .none) (hn : own n = .box cs) (hi : cs[i]? = some (.c (.raw (.slice none 0 0))))
    (h : WV C v Q ⟨prgE d env, upd (upd (prgO d own) d (.grow e sz [])) n (.box ((AV.prgL d cs).set i (.gr d)))⟩) : WV C v Q ⟨env, own⟩ := by
  refine WV_sub (Sub_nil d e sz hd1 hsz hd (fun t => .inl rfl) ?_ fun m hm => ?_) h
  · show upd (upd (prgO d own) d (.grow e sz [])) n _ d = _
    simp [upd, Ne.symm hnd]
  · show NilOb d (own m) (upd (upd (prgO d own) d (.grow e sz [])) n _ m)
    by_cases hmn : m = n
    · subst hmn
      simp only [upd, if_true]
      rw [hn]
      exact ⟨_, rfl, nilTos_set d cs i hi⟩
    · simp only [upd, hmn, hm, if_false, prgO]
      exact nilOb_prg d _
/-- nil, in a slot. -/
theorem WV_nilslot {v : VC} {env : Nat → AV} {own : Nat → Ob} (t d e sz : Nat) (hd1 : d < 1000) (hsz : 0 < sz) (hd : own d = .none) (ht : env t = .c (.raw (.slice none 0 0)))
    (h : WV C v Q ⟨upd (prgE d env) t (.gr d), upd (prgO d own) d (.grow e sz [])⟩) : WV C v Q ⟨env, own⟩ := by
  refine WV_sub (Sub_nil d e sz hd1 hsz hd (fun s => ?_) ?_ fun m hm => ?_) h
  · show NilTo d (env s) (upd (prgE d env) t (.gr d) s)
    by_cases hst : s = t
    · subst hst; right; exact ⟨ht, by simp [upd]⟩
    · left; simp [upd, hst, prgE]
  · simp [upd]
  · show NilOb d (own m) (upd (prgO d own) d (.grow e sz []) m)
    simp only [upd, hm, if_false, prgO]
    exact nilOb_prg d _

def keepE : List Nat → (Nat → AV) → Nat → AV
  | [], _ => e0
  | t :: ts, f => upd (keepE ts f) t (f t)
theorem EnvLe_keep {own : Nat → Ob} (f : Nat → AV) : ∀ ks : List Nat, EnvLe own f (keepE ks f)
  | [] => EnvLe_e0 own f
  | t :: ts => EnvLe_upd (AWk.refl own _) (EnvLe_keep f ts)
theorem WV_keep (ks : List Nat) {v : VC} {env : Nat → AV} {own : Nat → Ob} (h : WV C v Q ⟨keepE ks env, own⟩) : WV C v Q ⟨env, own⟩ :=
  WV_sub (Sub_of (EnvLe_keep env ks) (ObjLe.rfl' own)) h

/-- A LOOP that names what it changes, and what it keeps. -/
theorem WV_loopK {ι : Type} {x : VC} {env : Nat → AV} {own : Nat → Ob} (ks os : List Nat) (Inv : ι → Prop) (μ : ι → Nat) (E : ι → List (Nat × AV)) (O : ι → List (Nat × Ob)) (i₀ : ι) (h₀ : Inv i₀)
    (hs : Sub ⟨env, own⟩ ⟨updPs (keepE ks env) (E i₀), updOs (havO os own) (O i₀)⟩)
    (hr : ∀ i, Inv i → WV C x (thenQ (fun σ' => ∃ i', Inv i' ∧ μ i' < μ i ∧ Sub σ' ⟨updPs (keepE ks env) (E i'), updOs (havO os own) (O i')⟩) Q) ⟨updPs (keepE ks env) (E i), updOs (havO os own) (O i)⟩) :
    WV C (.loop x) Q ⟨env, own⟩ :=
  WV_loopS (fun i => ⟨updPs (keepE ks env) (E i), updOs (havO os own) (O i)⟩) Inv μ i₀ h₀ hs hr

end
/-! ### Calls -/
section
variable {P : Program} {σ : St} {d : Option Nat} {f : X} {xs : List X} {K : St → Prop}

theorem AS_pure {fid : FuncId} {caps args : List AV} {r : AV} (hs : FSpec P fid args r) (h1 : (σ.val f).dg = true) (h2 : (xs.all fun x => (σ.val x).dg) = true) (h3 : (σ.val f).dv = .fn fid caps)
    (h4 : AV.portL σ.own (xs.map (fun x => (σ.val x).dv) ++ caps) = some args) (h5 : r.pureB = true) (hK : K (σ.put d r)) : ACallS P d f xs K σ := .inl ⟨fid, caps, args, r, h1, h2, h3, h4, h5, hs, hK⟩

theorem AS_vol {fid : FuncId} {caps args : List AV} {r : AV} (hs : FSpec P fid args r) (h6 : r.scal = true) (h1 : (σ.val f).dg = true) (h2 : (xs.all fun x => (σ.val x).dg) = true) (h3 : (σ.val f).dv = .fn fid caps)
    (h4 : AV.vportL σ.own (xs.map (fun x => (σ.val x).dv) ++ caps) = some args) (h5 : r.pureB = true) (hK : K (σ.put d r)) : ACallS P d f xs K σ := .inr (.inl ⟨fid, caps, args, r, h1, h2, h3, h4, h5, .inr ⟨hs, h6⟩, hK⟩)

theorem AS_fresh {fid : FuncId} {caps args : List AV} {r : AV} (hs : FSpecF P fid args r) (h1 : (σ.val f).dg = true) (h2 : (xs.all fun x => (σ.val x).dg) = true) (h3 : (σ.val f).dv = .fn fid caps)
    (h4 : AV.vportL σ.own (xs.map (fun x => (σ.val x).dv) ++ caps) = some args) (h5 : r.pureB = true) (hK : K (σ.put d r)) : ACallS P d f xs K σ := .inr (.inl ⟨fid, caps, args, r, h1, h2, h3, h4, h5, .inl hs, hK⟩)

theorem AG_pure {G : Bool} {A B : Prop} {fid : FuncId} {caps args : List AV} {r : AV} (hs : G = true → FSpec P fid args r) (h1 : (σ.val f).dg = true) (h2 : G = true → (xs.all fun x => (σ.val x).dg) = true) (h3 : (σ.val f).dv = .fn fid caps)
    (h4 : AV.portL σ.own (xs.map (fun x => (σ.val x).dv) ++ caps) = some args) (h5 : r.pureB = true) (hK : K (σ.put d (.opt G r))) : ACallG P G d f xs K σ ∨ A ∨ B := .inl ⟨r, h5, fun h => ⟨fid, caps, args, h1, h2 h, h3, h4, hs h⟩, hK⟩

theorem AG_vol {G : Bool} {A B : Prop} {fid : FuncId} {caps args : List AV} {r : AV} (hs : G = true → FSpec P fid args r) (h6 : r.scal = true) (h1 : (σ.val f).dg = true) (h2 : G = true → (xs.all fun x => (σ.val x).dg) = true) (h3 : (σ.val f).dv = .fn fid caps)
    (h4 : AV.vportL σ.own (xs.map (fun x => (σ.val x).dv) ++ caps) = some args) (h5 : r.pureB = true) (hK : K (σ.put d (.opt G r))) : A ∨ ACallGV P G d f xs K σ ∨ B := .inr (.inl ⟨r, h5, fun h => ⟨fid, caps, args, h1, h2 h, h3, h4, .inr ⟨hs h, h6⟩⟩, hK⟩)

/-- The objects L are lent. -/
theorem AS_lend (L : List Nat) {fid : FuncId} {caps args : List AV} {l : List Ob} {Post : AV → List Ob → Prop} (hs : FSpecL P fid args l [] Post) (h1 : (σ.val f).dg = true) (h2 : (xs.all fun x => (σ.val x).dg) = true) (h3 : (σ.val f).dv = .fn fid caps) (hL : L.Nodup)
    (h4 : AV.lendL 1000 L σ.own (xs.map (fun x => (σ.val x).dv) ++ caps) = some args) (h5 : obsLend L σ.own L = some l)
    (hK : ∀ r l', Post r l' → ∃ r' os, r.back L = some r' ∧ obsBack L l' = some os ∧ K (St.put ⟨σ.env, ownBack σ.own L os⟩ d r')) : ACallS P d f xs K σ := .inr (.inr (.inl ⟨fid, caps, L, l, args, Post, h1, h2, h3, hL, h4, h5, hs, hK⟩))

/-- A guest is called; it is shown the objects L. -/
theorem AS_guest (n : Nat) (L : List Nat) {g : Gst} {e : Ent} {rem : List Ent} (h0 : σ.own n = .guest g (e :: rem)) (h1 : (σ.val f).dg = true) (h2 : (xs.all fun x => (σ.val x).dg) = true) (h3 : (σ.val f).dv = .c (.raw g.fv)) (hL : L.Nodup)
    (h4 : AV.lendL 2000 L σ.own (xs.map fun x => (σ.val x).dv) = some e.args) (h5 : winsOf σ.own L e.wins) (hK : K (St.put ⟨σ.env, upd σ.own n (.guest g rem)⟩ d e.res)) : ACallS P d f xs K σ := .inr (.inr (.inr (.inl ⟨n, g, e, rem, L, h0, h1, h2, h3, hL, h4, h5, hK⟩)))
end

/-! ### Rounds -/
def lendF (L : List Nat) (own : Nat → Ob) (f : Nat → AV) : Nat → AV := fun t => ((f t).lend 1000 L own).getD .non
theorem lendF_ok (L : List Nat) (own : Nat → Ob) (f : Nat → AV) : LendE L own f (lendF L own f) := fun t => by
  unfold lendF
  cases (f t).lend 1000 L own with
  | none => exact .inl rfl
  | some x => exact .inr rfl
theorem lendF_upd (L : List Nat) (own : Nat → Ob) (f : Nat → AV) (t : Nat) (v : AV) : lendF L own (upd f t v) = upd (lendF L own f) t ((v.lend 1000 L own).getD .non) := by
  funext s; simp only [lendF, upd]; split <;> rfl
theorem lendF_e0 (L : List Nat) (own : Nat → Ob) : lendF L own e0 = e0 := rfl

/-- Rounds, one of which follows the other: F says what is kept behind the first ones. -/
theorem RunR_pre {P : Program} {N : Nat} {ps : List Nat} {assign body : VC} {env : Nat → AV} {τ : Type} (ent : τ → Ent) (F : List τ → List Ob) (ts : List τ) (hsol : ∀ p, (F p).all (Ob.solid (F p).length) = true)
    (he : ∀ t ∈ ts, (ent t).args.length = ps.length ∧ (ent t).res = .c (.bool true))
    (h : ∀ pre t post, ts = pre ++ t :: post → Rnd P N ps assign body env (ent t) (F pre) fun j l' => j = none ∧ l' = F (pre ++ [t])) : ∀ (post pre : List τ), ts = pre ++ post →
    RunR P N ps assign body env (fun pend lf => pend = none ∧ lf = F ts) (post.map ent) (F pre)
  | [], pre, hp => ⟨hsol pre, rfl, by rw [hp]; simp⟩
  | t :: post, pre, hp => by
    have ht : t ∈ ts := by rw [hp]; simp
    refine ⟨hsol pre, (he t ht).1, true, (he t ht).2, ?_⟩
    intro C h1 h2 h3
    refine (h pre t post hp C h1 h2 h3).mono fun ex σ1 hq => ⟨hq.1, fun C' k1 k2 k3 => (hq.2 C' k1 k2 k3).mono fun ex σ2 hq => ?_⟩
    obtain ⟨j, l', q1, q2, q3, rfl⟩ := hq
    exact ⟨j, _, q1, q2, .inl ⟨q3, rfl, RunR_pre ent F ts hsol he h post _ (by rw [hp]; simp)⟩⟩

theorem NoWin_o0 : NoWin o0 := fun n cs h => by cases h
theorem NoWin_upd {f : Nat → Ob} {n : Nat} {o : Ob} (h : ∀ cs, o ≠ .win cs) (hf : NoWin f) : NoWin (upd f n o) := fun m cs => by
  rw [upd_app]
  split
  · exact h cs
  · exact hf m cs
/-! ### Contracts that say less -/
theorem AVle.refl (x : AV) : AVle x x := fun _ _ _ _ h => h
theorem AVle.nil (sz : Nat) : AVle (.c (.raw (.slice none 0 0))) (.c (.sl sz [])) := fun w M loc v h => by
  simp only [RepA, RepC] at h ⊢
  exact ⟨none, 0, h.1, Nat.le_refl _, by simp [maxLen], .inl trivial⟩
def AVles : List AV → List AV → Prop
  | [], l => l = []
  | x :: xs, l => ∃ y ys, l = y :: ys ∧ AVle x y ∧ AVles xs ys
theorem AVles.rep : ∀ {xs ys : List AV}, AVles xs ys → ∀ (w : World) (M : Cells) (loc : Nat → Value) (l : List Value), RepAs w M loc xs l → RepAs w M loc ys l
  | [], ys, h, w, M, loc, l, hr => by simp only [AVles] at h; subst h; exact hr
  | x :: xs, ys, h, w, M, loc, l, hr => by
    simp only [AVles] at h
    obtain ⟨y, ys', rfl, h1, h2⟩ := h
    simp only [RepAs] at hr ⊢
    obtain ⟨v, vs, rfl, k1, k2⟩ := hr
    exact ⟨v, vs, rfl, h1 _ _ _ _ k1, h2.rep _ _ _ _ k2⟩
theorem AVles.refl : ∀ xs : List AV, AVles xs xs
  | [] => rfl
  | x :: xs => ⟨x, xs, rfl, AVle.refl x, AVles.refl xs⟩
theorem AVles.cons {x y : AV} {xs ys : List AV} (h : AVle x y) (k : AVles xs ys) : AVles (x :: xs) (y :: ys) := ⟨y, ys, rfl, h, k⟩
theorem AVle.agg {xs ys : List AV} (h : AVles xs ys) : AVle (.agg xs) (.agg ys) := fun w M loc v hr => by
  simp only [RepA] at hr ⊢
  obtain ⟨l, hv, hr⟩ := hr
  exact ⟨l, hv, h.rep _ _ _ _ hr⟩
theorem AVle.tup {xs ys : List AV} (h : AVles xs ys) : AVle (.tup xs) (.tup ys) := fun w M loc v hr => by
  simp only [RepA] at hr ⊢
  obtain ⟨l, hv, hr⟩ := hr
  exact ⟨l, hv, h.rep _ _ _ _ hr⟩
theorem FSpec.le {P : Program} {f : FuncId} {as bs : List AV} {r r' : AV} (h : FSpec P f bs r) (ha : AVles as bs) (hr : AVle r r') : FSpec P f as r' :=
  ⟨h.1, fun w M vs hM hv => (h.2 w M vs hM (ha.rep _ _ _ _ hv)).mono fun e w' hh => by
    obtain ⟨v, rfl, k1, k2⟩ := hh
    exact ⟨v, rfl, hr _ _ _ _ k1, k2⟩⟩

mutual
/-- No guarded value, nothing forgotten. -/
def AV.isSolid : AV → Bool
  | .non => false
  | .opt _ _ => false
  | .agg cs => AV.isSolidL cs
  | .tup cs => AV.isSolidL cs
  | .fn _ cs => AV.isSolidL cs
  | _ => true
def AV.isSolidL : List AV → Bool
  | [] => true
  | a :: as => AV.isSolid a && AV.isSolidL as
end
theorem dg_solid {x : AV} (h : x.isSolid = true) : x.dg = true := by cases x <;> first | rfl | cases h
mutual
theorem lend_pure {b : Nat} {L : List Nat} {own : Nat → Ob} : ∀ {x : AV}, x.pureB = true → x.dg = true → x.isSolid = true → x.lend b L own = some x
  | .c _, _, _, _ => rfl
  | .non, _, _, h => by cases h
  | .bp _ _, h, _, _ => by simp [AV.pureB] at h
  | .gr _, h, _, _ => by simp [AV.pureB] at h
  | .vw _ _ _ _ _, h, _, _ => by simp [AV.pureB] at h
  | .agg cs, h, _, hs => by simp only [AV.pureB] at h; simp only [AV.isSolid] at hs; simp [AV.lend, lendL_pure h hs]
  | .tup cs, h, _, hs => by simp only [AV.pureB] at h; simp only [AV.isSolid] at hs; simp [AV.lend, lendL_pure h hs]
  | .fn f cs, h, _, hs => by simp only [AV.pureB] at h; simp only [AV.isSolid] at hs; simp [AV.lend, lendL_pure h hs]
  | .opt g x, h, _, hs => by cases hs
theorem lendL_pure {b : Nat} {L : List Nat} {own : Nat → Ob} : ∀ {xs : List AV}, AV.pureL xs = true → AV.isSolidL xs = true → AV.lendL b L own xs = some xs
  | [], _, _ => rfl
  | x :: xs, h, hs => by
    simp only [AV.pureL, Bool.and_eq_true] at h
    simp only [AV.isSolidL, Bool.and_eq_true] at hs
    simp [AV.lendL, lend_pure h.1 (dg_solid hs.1) hs.1, lendL_pure h.2 hs.2]
end
mutual
theorem keepP_pure {own : Nat → Ob} : ∀ {x : AV}, x.pureB = true → x.isSolid = true → x.keepP own = some x
  | .c _, _, _ => rfl
  | .non, _, h => by cases h
  | .bp _ _, h, _ => by simp [AV.pureB] at h
  | .gr _, h, _ => by simp [AV.pureB] at h
  | .vw _ _ _ _ _, h, _ => by simp [AV.pureB] at h
  | .agg cs, h, hs => by simp only [AV.pureB] at h; simp only [AV.isSolid] at hs; simp [AV.keepP, keepPL_pure h hs]
  | .tup cs, h, hs => by simp only [AV.pureB] at h; simp only [AV.isSolid] at hs; simp [AV.keepP, keepPL_pure h hs]
  | .fn f cs, h, hs => by simp only [AV.pureB] at h; simp only [AV.isSolid] at hs; simp [AV.keepP, keepPL_pure h hs]
  | .opt g x, h, hs => by cases hs
theorem keepPL_pure {own : Nat → Ob} : ∀ {xs : List AV}, AV.pureL xs = true → AV.isSolidL xs = true → AV.keepPL own xs = some xs
  | [], _, _ => rfl
  | x :: xs, h, hs => by
    simp only [AV.pureL, Bool.and_eq_true] at h
    simp only [AV.isSolidL, Bool.and_eq_true] at hs
    simp [AV.keepPL, keepP_pure h.1 hs.1, keepPL_pure h.2 hs.2]
end

/-! ### What is left of what was lent -/
def keepAll (own : Nat → Ob) : Nat → List Ob → Prop
  | _, [] => True
  | k, o :: os => (own k).keepP own = some o ∧ keepAll own (k + 1) os
def winAll (own : Nat → Ob) : Nat → List (List AV) → Prop
  | _, [] => True
  | k, w :: ws => own k = .win w ∧ winAll own (k + 1) ws
def placeAll : List Ob → List Ob → Bool
  | [], _ => true
  | o :: os, [] => !o.isPlace && placeAll os []
  | o :: os, p :: ps => (!o.isPlace || p.isPlace) && placeAll os ps
theorem keepAll_get {own : Nat → Ob} : ∀ {l : List Ob} {k : Nat}, keepAll own k l → ∀ i, i < l.length → (own (k + i)).keepP own = some (l.getD i .none)
  | o :: os, k, h, 0, _ => by simpa using h.1
  | o :: os, k, h, i + 1, hi => by
    have := keepAll_get h.2 i (by simpa using hi)
    rw [show k + (i + 1) = k + 1 + i from by omega]
    simpa using this
theorem winAll_get {own : Nat → Ob} : ∀ {l : List (List AV)} {k : Nat}, winAll own k l → ∀ i, i < l.length → own (k + i) = .win (l.getD i [])
  | o :: os, k, h, 0, _ => by simpa using h.1
  | o :: os, k, h, i + 1, hi => by
    have := winAll_get h.2 i (by simpa using hi)
    rw [show k + (i + 1) = k + 1 + i from by omega]
    simpa using this
theorem placeAll_get : ∀ {l l' : List Ob}, placeAll l l' = true → ∀ i, i < l.length → (l.getD i .none).isPlace = true → (l'.getD i .none).isPlace = true
  | o :: os, [], h, 0, _, hp => by simp [placeAll] at h hp; rw [h.1] at hp; cases hp
  | o :: os, [], h, i + 1, hi, hp => by
    simp only [placeAll, Bool.and_eq_true] at h
    exact placeAll_get h.2 i (by simpa using hi) (by simpa using hp)
  | o :: os, p :: ps, h, 0, _, hp => by simp [placeAll] at h hp ⊢; rcases h.1 with h | h; · rw [h] at hp; cases hp
                                        · exact h
  | o :: os, p :: ps, h, i + 1, hi, hp => by
    simp only [placeAll, Bool.and_eq_true] at h
    have := placeAll_get h.2 i (by simpa using hi) (by simpa using hp)
    simpa using this
theorem KeepL_mk {l : List Ob} {wl : List (List AV)} {σ : St} {l' : List Ob} (h1 : l'.length = l.length) (h2 : (l'.all fun o => !o.isWin) = true) (h3 : keepAll σ.own 1000 l') (h4 : winAll σ.own 2000 wl) (h5 : placeAll l l' = true) : KeepL l wl σ l' :=
  ⟨h1, h2, fun i hi => keepAll_get h3 i (by omega), fun j hj => winAll_get h4 j hj, placeAll_get h5⟩

def updLo : (Nat → Ob) → Nat → List Ob → Nat → Ob
  | f, _, [] => f
  | f, k, a :: as => updLo (upd f k a) (k + 1) as
theorem updLo_app : ∀ (as : List Ob) (f : Nat → Ob) (k t : Nat), updLo f k as t = if k ≤ t ∧ t < k + as.length then as.getD (t - k) .none else f t
  | [], f, k, t => by
    simp only [updLo]
    rw [if_neg (by simp)]
  | a :: as, f, k, t => by
    simp only [updLo]
    rw [updLo_app as]
    by_cases h1 : k + 1 ≤ t ∧ t < k + 1 + as.length
    · rw [if_pos h1, if_pos (by simp; omega)]
      obtain ⟨n, rfl⟩ : ∃ n, t = k + 1 + n := ⟨t - (k + 1), by omega⟩
      rw [show k + 1 + n - (k + 1) = n from by omega, show k + 1 + n - k = n + 1 from by omega]
      simp
    · rw [if_neg h1, upd_app]
      by_cases h2 : t = k
      · subst h2; rw [if_pos rfl, if_pos (by simp)]; simp
      · rw [if_neg h2, if_neg (by simp; omega)]
theorem ownW_upd {l : List Ob} {wl : List (List AV)} (hl : l.length ≤ 1000) : ownW l wl = updLo (updLo o0 1000 l) 2000 (wl.map .win) := by
  funext n
  rw [updLo_app, updLo_app]
  rcases ownW_eq (wl := wl) hl n with ⟨i, h1, rfl, h3, _⟩ | ⟨j, h1, rfl, h3, _⟩ | ⟨h3, h4⟩
  · rw [h3, if_neg (by omega), if_pos (by omega), show 1000 + i - 1000 = i from by omega]
  · rw [h3, if_pos (by simp; omega), show 2000 + j - 2000 = j from by omega]
    simp [List.getD_eq_getElem?_getD, h1]
  · rw [h3]
    have e1 : ¬ (2000 ≤ n ∧ n < 2000 + (wl.map Ob.win).length) := by
      rintro ⟨a, b⟩
      simp only [List.length_map] at b
      obtain ⟨j, rfl⟩ : ∃ j, n = 2000 + j := ⟨n - 2000, by omega⟩
      rw [ownW_big (List.getElem?_eq_getElem (show j < wl.length by omega))] at h3
      cases h3
    rw [if_neg e1]
    split
    · rename_i h
      obtain ⟨i, rfl⟩ : ∃ i, n = 1000 + i := ⟨n - 1000, by omega⟩
      rw [ownL_some (by omega)] at h4
      rw [show 1000 + i - 1000 = i from by omega, h4]
    · rfl

theorem init_env (args : List AV) : (St.init args).env = updL e0 0 args := by rw [init_eq]
theorem init_env' (args : List AV) : (fun t => args.getD t AV.non) = updL e0 0 args := by rw [← init_env]; rfl
end Go.V

/-
  Calls that are handed a function value: for the user.
-/
namespace Go.V
theorem Run_pre {P : Program} {fc : FuncId} {caps : List AV} {τ : Type} (ent : τ → Ent) (F : List τ → List Ob) (ts : List τ) (hsol : ∀ p, (F p).all (Ob.solid (F p).length) = true) (he : ∀ t ∈ ts, (ent t).res.scal = true)
    (h : ∀ pre t post, ts = pre ++ t :: post → FSpecL P fc ((ent t).args ++ caps) (F pre) (ent t).wins fun r l' => r = (ent t).res ∧ l' = F (pre ++ [t])) : ∀ (post pre : List τ), ts = pre ++ post →
    Run P fc caps (fun lf => lf = F ts) (post.map ent) (F pre)
  | [], pre, hp => ⟨hsol pre, by rw [hp]; simp⟩
  | t :: post, pre, hp => by
    have ht : t ∈ ts := by rw [hp]; simp
    refine ⟨hsol pre, he t ht, ?_⟩
    have ih := Run_pre ent F ts hsol he h post (pre ++ [t]) (by rw [hp]; simp)
    have hs := h pre t post hp
    refine ⟨hs.1, hs.2.1, fun w M loc vs hM ho hv => (hs.2.2 w M loc vs hM ho hv).mono fun e w' hh => ?_⟩
    obtain ⟨v, r, l', loc', e1, ⟨rfl, rfl⟩, h3⟩ := hh
    exact ⟨v, _, _, loc', e1, ⟨rfl, ih⟩, h3⟩

section
variable {P : Program} {d : Option Nat} {f : X} {xs : List X} {K : St → Prop} {σ : St}
/-- A call that is handed a closure which writes the objects L. -/
theorem AS_clos (L : List Nat) (pre post : List AV) {fid : FuncId} {caps : List AV} {l lf : List Ob} {fc : FuncId} {fcaps fcaps' pre' post' : List AV} {rem : List Ent} {r : AV}
    (hs : ∀ g : Gst, FSpecL P fid (pre' ++ .c (.raw g.fv) :: post') [.guest g rem] [] fun r' l' => r' = r ∧ l' = [.guest g []])
    (h1 : (σ.val f).dg = true) (h2 : (xs.all fun x => (σ.val x).dg) = true) (h3 : (σ.val f).dv = .fn fid caps) (hL : L.Nodup) (hLl : L.length ≤ 1000)
    (h4 : xs.map (fun x => (σ.val x).dv) ++ caps = pre ++ .fn fc fcaps :: post) (h5 : AV.lendL 1000 L σ.own fcaps = some fcaps') (h6 : AV.portL σ.own pre = some pre') (h7 : AV.portL σ.own post = some post')
    (h8 : obsLend L σ.own L = some l) (hcl : callable P fc) (hrun : Run P fc fcaps' (fun l' => l' = lf) rem l) (hp : r.pureB = true)
    (hK : ∃ os, obsBack L lf = some os ∧ lf.length = L.length ∧ K (St.put ⟨σ.env, ownBack σ.own L os⟩ d r)) : ACallS P d f xs K σ :=
  .inr (.inr (.inr (.inr ⟨fid, caps, L, l, pre, fc, fcaps, post, fcaps', pre', post', rem, fun l' => l' = lf, r, h1, h2, h3, hL, hLl, h4, h5, h6, h7, h8, hcl, hrun, hp, hs, by rintro _ rfl; exact hK⟩)))
end
end Go.V

namespace Go.V
attribute [go_sem] AOps_cons
  AOps_nil
  AStep_S
  AStep_P
  AStepS
  AStepP
  ATree_cons
  ATree_nil
  ATree_br
  ATrees_cons
  ATrees_nil
  ATrees_one
  pvw
  mvw
  nvw
  I.putsB
  pev
  mev
  St.guard
  St.val
  St.put
  init_eq
  init_env
  updL
  updPs
  updOs
  keepE
  upd_app
  e0_app
  o0_app
  hav_upd
  hav_e0
  havO_nil
  havO_upd
  havO_o0
  prgE_upd'
  prgE_e0
  prgE_hav
  prgO_upd
  prgO_o0
  prgO_havO
  prgE_app
  prgO_app
  frzE_upd
  frzE_e0
  frzE_hav
  frzO_upd
  frzO_o0
  frzE_app
  frzO_app
  AV.frz
  AV.frzL
  Ob.frz
  AV.dg
  AV.dv
  AV.asC
  AV.isBo
  AV.bo
  CD.isBo
  CD.bo
  AV.elems
  AV.elemsZ
  AV.cellsA
  AV.toCD
  AV.cds
  AV.oneB
  ibin
  bound
  bldGo
  splice
  setAt
  St.new
  Ob.prg
  AV.prg
  AV.prgL
  Ob.isNone
  Ob.isBox
  thenQ
  inQ
  VC.wr
  OT.wr
  OT.wrL
  Ins.wr
  List.flatMap_cons
  List.flatMap_nil
  List.mem_cons
  List.not_mem_nil
  or_false
  false_or
  or_true
  true_or
  or_self
  true_and
  and_true
  false_and
  and_false
  Bool.true_eq_false
  if_true
  if_false
  and_self
  List.getElem?_cons_zero
  List.getElem?_cons_succ
  Option.map_some
  Option.some.injEq
  implies_true
  imp_self
  List.all_cons
  List.all_nil
  Bool.and_true
  Bool.true_or
  Bool.false_or
  Bool.or_false
  Bool.or_true
  Bool.true_and
  Bool.false_and
  Bool.and_false
  Bool.and_self
  List.length_cons
  List.length_nil
  Nat.zero_add
  List.set_cons_zero
  List.set_cons_succ
  List.take_succ_cons
  List.drop_succ_cons
  List.take_zero
  List.drop_zero
  List.nil_append
  List.cons_append
  Bool.false_eq_true
  beq_true
  beq_false
  Bool.and_eq_true
  List.mapM_cons
  List.mapM_nil
  Option.pure_def
  Option.bind_eq_bind
  Option.bind_some
  List.append_nil
  List.take_nil
  List.drop_nil
  Nat.le_refl
  Nat.zero_lt_succ
  List.getD_cons_zero
  List.getD_cons_succ
  Nat.zero_le
  cond_true
  cond_false
  Nat.add_zero
  Bool.not_true
  Bool.not_false
  forall_const
  false_implies
  true_implies
  bif_and
  bif_or
  ge_iff_le
  gt_iff_lt
  List.map_cons
  List.map_nil
  List.length_map
  List.map_append
  List.length_append
  List.idxOf_cons
  List.idxOf_nil
end Go.V
