/-
  An abstract machine over small instructions, sound over the model; no condition.
-/
import Derived.Test.YtbejgfpaokcnpaaV2
set_option linter.unusedVariables false
set_option linter.unusedSimpArgs false
/-
  A slice that the call has grown, as a box that may be written: what reads as data is forgotten.
-/
namespace Go.V

/-- No block is read. -/
def CD.flat : CD → Bool
  | .sl _ _ => false
  | .pt _ => false
  | _ => true
theorem RepC.flat {w w' : World} {M M' : Cells} : ∀ {d : CD} {v : Value}, d.flat = true → RepC w M d v → RepC w' M' d v
  | .int _ _, _, _, h => by simpa only [RepC] using h
  | .bool _, _, _, h => by simpa only [RepC] using h
  | .str _, _, _, h => by simpa only [RepC] using h
  | .raw _, _, _, h => by simpa only [RepC] using h
  | .sl _ _, _, h, _ => by cases h
  | .pt _, _, h, _ => by cases h

mutual
def AV.gd (n sz len cap : Nat) : AV → AV
  | .gr m => if m = n then .vw sz n 0 len cap else .gr m
  | .c d => if d.flat then .c d else .non
  | .agg cs => .agg (AV.gdL n sz len cap cs)
  | .tup cs => .tup (AV.gdL n sz len cap cs)
  | .fn f cs => .fn f (AV.gdL n sz len cap cs)
  | .opt g x => .opt g (AV.gd n sz len cap x)
  | .bp m o => if m = n then .non else .bp m o
  | .vw a m o l k => if m = n then .non else .vw a m o l k
  | .non => .non
def AV.gdL (n sz len cap : Nat) : List AV → List AV
  | [] => []
  | a :: as => AV.gd n sz len cap a :: AV.gdL n sz len cap as
end
def Ob.gd (n sz len cap : Nat) : Ob → Ob
  | .box cs => .box (AV.gdL n sz len cap cs)
  | .grow e z es => if es.all (fun e => e.all CD.flat) then .grow e z es else .none
  | .mp a b l => .mp a b l
  | _ => .none
def gdE (n sz len cap : Nat) (f : Nat → AV) : Nat → AV := fun t => (f t).gd n sz len cap
def gdO (n sz len cap : Nat) (f : Nat → Ob) : Nat → Ob := fun t => (f t).gd n sz len cap
theorem gdE_upd (n sz len cap : Nat) (f : Nat → AV) (t : Nat) (v : AV) : gdE n sz len cap (upd f t v) = upd (gdE n sz len cap f) t (v.gd n sz len cap) := by
  funext s; simp only [gdE, upd]; split <;> rfl
theorem gdE_e0 (n sz len cap : Nat) : gdE n sz len cap e0 = e0 := rfl
theorem gdO_upd (n sz len cap : Nat) (f : Nat → Ob) (t : Nat) (v : Ob) : gdO n sz len cap (upd f t v) = upd (gdO n sz len cap f) t (v.gd n sz len cap) := by
  funext s; simp only [gdO, upd]; split <;> rfl
theorem gdO_o0 (n sz len cap : Nat) : gdO n sz len cap o0 = o0 := rfl

theorem gdL_append (n sz len cap : Nat) : ∀ a b : List AV, AV.gdL n sz len cap (a ++ b) = AV.gdL n sz len cap a ++ AV.gdL n sz len cap b
  | [], b => rfl
  | x :: a, b => by simp only [List.cons_append, AV.gdL, gdL_append n sz len cap a b]
theorem gdL_flat (n sz len cap : Nat) : ∀ {l : List CD}, l.all CD.flat = true → AV.gdL n sz len cap (l.map .c) = l.map .c
  | [], _ => rfl
  | a :: l, h => by
    simp only [List.all_cons, Bool.and_eq_true] at h
    simp only [List.map_cons, AV.gdL, AV.gd, h.1, if_true, gdL_flat n sz len cap h.2]
theorem gdL_non (n sz len cap : Nat) : ∀ j : Nat, AV.gdL n sz len cap (List.replicate j .non) = List.replicate j .non
  | 0 => rfl
  | j + 1 => by simp only [List.replicate_succ, AV.gdL, AV.gd, gdL_non n sz len cap j]
theorem gd_cells {α : Type} (cds : α → List CD) (hf : ∀ a, (cds a).all CD.flat = true) (n sz len cap : Nat) (l : List α) (j : Nat) : AV.gdL n sz len cap (List.map AV.c (List.map cds l).flatten ++ List.replicate j .non) = cellsG cds l j := by
  rw [gdL_append, gdL_non, gdL_flat]
  · rfl
  · rw [List.all_eq_true]
    intro d hd
    obtain ⟨e, he, hde⟩ := List.mem_flatten.1 hd
    obtain ⟨a, _, rfl⟩ := List.mem_map.1 he
    exact List.all_eq_true.1 (hf a) d hde

section
variable {w : World} {M M' : Cells} {loc loc' : Nat → Value} {n b sz len cap : Nat}
mutual
theorem gd_rep (hl : ∀ m, m ≠ n → loc' m = loc m) (hn : loc n = .slice (some ⟨b, 0, none⟩) len cap) (hn' : loc' n = .pointer (some ⟨b, 0, none⟩)) (h1 : len ≤ cap) (h2 : cap ≤ maxLen) : ∀ {x : AV} {v : Value}, RepA w M loc x v → RepA w M' loc' (x.gd n sz len cap) v
  | .non, v, h => by simp only [AV.gd, RepA]
  | .c d, v, h => by
    simp only [AV.gd]
    split
    · rename_i hd
      simp only [RepA] at h ⊢
      exact RepC.flat hd h
    · simp only [RepA]
  | .gr m, v, h => by
    simp only [AV.gd]
    split
    · rename_i hm; subst hm
      simp only [RepA] at h ⊢
      rw [hn] at h
      exact ⟨b, 0, hn', h.1, fun _ => rfl, h1, h2⟩
    · rename_i hm
      simp only [RepA] at h ⊢
      rw [hl m hm]; exact h
  | .bp m o, v, h => by
    simp only [AV.gd]
    split
    · simp only [RepA]
    · rename_i hm; simp only [RepA] at h ⊢; rw [hl m hm]; exact h
  | .vw a m o l k, v, h => by
    simp only [AV.gd]
    split
    · simp only [RepA]
    · rename_i hm; simp only [RepA] at h ⊢; rw [hl m hm]; exact h
  | .agg cs, v, h => by
    simp only [AV.gd, RepA] at h ⊢
    obtain ⟨l, hv, hr⟩ := h
    exact ⟨l, hv, gds_rep hl hn hn' h1 h2 hr⟩
  | .tup cs, v, h => by
    simp only [AV.gd, RepA] at h ⊢
    obtain ⟨l, hv, hr⟩ := h
    exact ⟨l, hv, gds_rep hl hn hn' h1 h2 hr⟩
  | .fn f cs, v, h => by
    simp only [AV.gd, RepA] at h ⊢
    obtain ⟨l, hv, hr⟩ := h
    exact ⟨l, hv, gds_rep hl hn hn' h1 h2 hr⟩
  | .opt g x, v, h => by
    simp only [AV.gd, RepA] at h ⊢
    exact ⟨fun hg => gd_rep hl hn hn' h1 h2 (h.1 hg), h.2⟩
theorem gds_rep (hl : ∀ m, m ≠ n → loc' m = loc m) (hn : loc n = .slice (some ⟨b, 0, none⟩) len cap) (hn' : loc' n = .pointer (some ⟨b, 0, none⟩)) (h1 : len ≤ cap) (h2 : cap ≤ maxLen) : ∀ {xs : List AV} {l : List Value}, RepAs w M loc xs l → RepAs w M' loc' (AV.gdL n sz len cap xs) l
  | [], l, h => h
  | x :: xs, l, h => by
    simp only [AV.gdL, RepAs] at h ⊢
    obtain ⟨v, vs, e, k1, k2⟩ := h
    exact ⟨v, vs, e, gd_rep hl hn hn' h1 h2 k1, gds_rep hl hn hn' h1 h2 k2⟩
end
theorem flats_rep : ∀ {cs : List CD} {l : List Value}, cs.all CD.flat = true → RepAs w M loc (cs.map .c) l → RepAs w M' loc' (cs.map .c) l
  | [], _, _, h => by simpa only [List.map_nil, RepAs] using h
  | c :: cs, l, hc, h => by
    simp only [List.all_cons, Bool.and_eq_true] at hc
    simp only [List.map_cons, RepAs, RepA] at h ⊢
    obtain ⟨v, vs, rfl, h1, h2⟩ := h
    exact ⟨v, vs, rfl, RepC.flat hc.1 h1, flats_rep hc.2 h2⟩
theorem Ob.gd_has {o : Ob} {v : Value} {k : Nat} (h : (o.gd n sz len cap).has v k) : o.has v k := by
  cases o with
  | none => exact h
  | box cs => cases v <;> first | exact h | (rename_i p; cases p <;> exact h)
  | win cs => exact (Ob.has_none _ _ h).elim
  | grow e z es =>
    simp only [Ob.gd] at h
    split at h
    · exact h
    · exact (Ob.has_none _ _ h).elim
  | guest g rem => exact (Ob.has_none _ _ h).elim
  | mp a b l => exact h
theorem Ob.gd_mut {o : Ob} {v : Value} {k i : Nat} (h : (o.gd n sz len cap).mut v k i) : o.mut v k i := by
  cases o with
  | none => exact h
  | box cs => cases v <;> first | exact h | (rename_i p; cases p <;> exact h)
  | win cs => exact (Ob.has_none _ _ (Ob.has_of_mut h)).elim
  | grow e z es =>
    simp only [Ob.gd] at h
    split at h
    · exact h
    · exact (Ob.has_none _ _ (Ob.has_of_mut h)).elim
  | guest g rem => exact (Ob.has_none _ _ (Ob.has_of_mut h)).elim
  | mp a b l => exact h
theorem ObOk.gd {P : Program} {A : Nat → Prop} (hl : ∀ m, m ≠ n → loc' m = loc m) (hn : loc n = .slice (some ⟨b, 0, none⟩) len cap) (hn' : loc' n = .pointer (some ⟨b, 0, none⟩)) (h1 : len ≤ cap) (h2 : cap ≤ maxLen) {o : Ob} {v : Value} (h : ObOk P A w M loc v o) : ObOk P A w M' loc' v (o.gd n sz len cap) := by
  cases o with
  | none => trivial
  | box cs =>
    obtain ⟨b1, l, e, k1, k2, k3, k4⟩ := h
    exact ⟨b1, l, e, k1, k2, k3, gds_rep hl hn hn' h1 h2 k4⟩
  | win cs => trivial
  | grow e z es =>
    simp only [Ob.gd]
    split
    · rename_i hes
      obtain ⟨xs, k1, k2, ⟨k3, k4⟩, k5⟩ := h
      refine ⟨xs, k1, k2, ⟨k3, flats_rep ?_ k4⟩, k5⟩
      rw [List.all_eq_true] at hes ⊢
      intro d hd
      obtain ⟨e, he, hde⟩ := List.mem_flatten.1 hd
      exact List.all_eq_true.1 (hes e he) d hde
    · trivial
  | guest g rem => trivial
  | mp a b l => exact h
end

/-- A slice that the call has grown becomes a box. -/
theorem Gam_growbox {C : Ctx} {σ : St} {a : Act} {w : World} (hX : ∀ b, ¬ C.X b) {n e sz : Nat} {es : List (List CD)} (hn : n < 1000) (ho : σ.own n = .grow e sz es) (hes : es.all (fun e => e.all CD.flat) = true) (hne : es ≠ []) (h : Gam C σ a w) :
    ∃ cap j, es.length ≤ cap ∧ cap ≤ maxLen ∧ cap * sz = es.length * sz + j ∧ Gam C ⟨gdE n sz es.length cap σ.env, upd (gdO n sz es.length cap σ.own) n (.box (es.flatten.map .c ++ List.replicate j .non))⟩ a w := by
  obtain ⟨loc, hg⟩ := h
  have hob := hg.objs n
  rw [ho] at hob
  obtain ⟨xs, hown, hA, ⟨hsz, hrs⟩, hpos⟩ := hob
  have hlx := hown.1
  rcases hown.2 with ⟨_, h0⟩ | ⟨g, cap, cur, hv, _, hh, hnc, hcm, hcs, htake⟩
  · exact absurd (List.eq_nil_of_length_eq_zero h0) hne
  have hgB : C.B ≤ g := by
    rcases hA g (by rw [hv]; rfl) with h | h
    · exact h
    · exact absurd h (hX g)
  have hle : es.length * sz ≤ cap * sz := Nat.mul_le_mul_right _ hnc
  refine ⟨cap, cap * sz - es.length * sz, hnc, hcm, by omega, ?_⟩
  let loc' : Nat → Value := fun m => if m = n then .pointer (some ⟨g, 0, none⟩) else loc m
  have hl : ∀ m, m ≠ n → loc' m = loc m := fun m hm => by simp only [loc', hm, if_false]
  have hn' : loc' n = .pointer (some ⟨g, 0, none⟩) := by simp only [loc', if_true]
  have hown' : ∀ m, m ≠ n → (upd (gdO n sz es.length cap σ.own) n (.box (es.flatten.map .c ++ List.replicate (cap * sz - es.length * sz) .non))) m = (σ.own m).gd n sz es.length cap := fun m hm => by simp only [upd, hm, if_false, gdO]
  have hownn : (upd (gdO n sz es.length cap σ.own) n (.box (es.flatten.map .c ++ List.replicate (cap * sz - es.length * sz) .non))) n = .box (es.flatten.map .c ++ List.replicate (cap * sz - es.length * sz) .non) := by simp only [upd, if_true]
  generalize hO : upd (gdO n sz es.length cap σ.own) n (.box (es.flatten.map .c ++ List.replicate (cap * sz - es.length * sz) .non)) = O at *
  have hhas : ∀ m k, (O m).has (loc' m) k → (σ.own m).has (loc m) k := by
    intro m k h
    by_cases hm : m = n
    · subst hm
      rw [hownn, hn'] at h
      rw [ho, hv]
      exact h
    · rw [hown' m hm, hl m hm] at h
      exact Ob.gd_has h
  have hmut : ∀ k i, MM C O loc' k i → MM C σ.own loc k i ∨ k = g := by
    rintro k i (h | ⟨m, h⟩)
    · exact .inl (.inl h)
    · by_cases hm : m = n
      · subst hm
        rw [hownn, hn'] at h
        exact .inr h.symm
      · rw [hown' m hm, hl m hm] at h
        exact .inl (.inr ⟨m, Ob.gd_mut h⟩)
  refine ⟨loc', hg.fr, hg.m0, ⟨hg.kp.cell, fun p hp hm hm' => ?_⟩, fun x hx => ?_, hg.mnd, fun m hm => ?_, hg.size, fun t => ?_, fun m => ?_, fun m k c hmk h1 h2 => hg.disj m k c hmk (hhas m c h1) (hhas k c h2)⟩
  · rcases hmut _ _ hm' with h | h
    · exact hg.kp.free p hp hm h
    · obtain ⟨u, hu⟩ := Option.isSome_iff_exists.1 hp
      have := World.block_lt_of_cell? C.w0 p hu
      unfold Ctx.B at hgB
      omega
  · obtain ⟨D, e1, e2, e3, e4⟩ := hg.marks x hx
    exact ⟨D, e1, e2, e3, fun ⟨m, h⟩ => e4 ⟨m, hhas m D h⟩⟩
  · obtain ⟨p1, p2, p3⟩ := hg.pin m hm
    exact ⟨p1, by rw [hl m (by omega)]; exact p2, p3⟩
  · exact gd_rep hl hv hn' hnc hcm (hg.slots t)
  · show ObOk C.P C.A w _ loc' (loc' m) (O m)
    by_cases hm : m = n
    · subst hm
      rw [hownn, hn']
      refine ⟨g, cur.toList, e, rfl, .inl hgB, by simpa using hh, ?_⟩
      have hcl : cur.toList = xs ++ cur.toList.drop (es.length * sz) := by rw [← htake, List.take_append_drop]
      rw [hcl]
      have hcl2 : (cur.toList.drop (es.length * sz)).length = cap * sz - es.length * sz := by simp [hcs]
      have hfl : es.flatten.all CD.flat = true := by
        rw [List.all_eq_true] at hes ⊢
        intro d hd
        obtain ⟨e, he, hde⟩ := List.mem_flatten.1 hd
        exact List.all_eq_true.1 (hes e he) d hde
      have happ : ∀ (as : List AV) (l : List Value) (ys : List Value), RepAs w (MM C O loc') loc' as l → RepAs w (MM C O loc') loc' (as ++ List.replicate ys.length .non) (l ++ ys) := by
        intro as
        induction as with
        | nil =>
          intro l ys h
          simp only [RepAs] at h; subst h
          simp only [List.nil_append]
          induction ys with
          | nil => simp only [List.length_nil, List.replicate_zero, RepAs]
          | cons y ys ih => simp only [List.length_cons, List.replicate_succ, RepAs, RepA]; exact ⟨y, ys, rfl, trivial, ih⟩
        | cons a as ih =>
          intro l ys h
          simp only [RepAs] at h
          obtain ⟨v, vs, rfl, h1, h2⟩ := h
          simp only [List.cons_append, RepAs]
          exact ⟨v, vs ++ ys, rfl, h1, ih vs ys h2⟩
      have := happ (es.flatten.map .c) xs (cur.toList.drop (es.length * sz)) (flats_rep hfl hrs)
      rwa [hcl2] at this
    · rw [hown' m hm, hl m hm]
      exact ObOk.gd hl hv hn' hnc hcm (hg.objs m)

theorem WV_growbox {C : Ctx} {Q : Exit → St → Prop} {v : VC} {env : Nat → AV} {own : Nat → Ob} (hX : ∀ b, ¬ C.X b) (n : Nat) {e sz : Nat} {es : List (List CD)} (hn : n < 1000) (ho : own n = .grow e sz es) (hes : es.all (fun e => e.all CD.flat) = true) (hne : es ≠ [])
    (h : ∀ cap j, es.length ≤ cap → cap ≤ maxLen → cap * sz = es.length * sz + j → WV C v Q ⟨gdE n sz es.length cap env, upd (gdO n sz es.length cap own) n (.box (es.flatten.map .c ++ List.replicate j .non))⟩) : WV C v Q ⟨env, own⟩ := by
  intro c hc a w hg
  obtain ⟨cap, j, h1, h2, h3, h4⟩ := Gam_growbox hX hn ho hes hne hg
  exact h cap j h1 h2 h3 c hc a w h4

/-- **A contract out of a walk** that is told that nothing is lent. -/
theorem FSpec_ofX {P : Program} {m : List Nat} {f : FuncId} {fc : FC} (hc : compM P m f = some fc) {args : List AV} {r : AV} (hn : args.length ≤ fc.np) (hnp : fc.np ≤ fc.N)
    (h : ∀ C : Ctx, C.P = P → C.N = fc.N → C.Ok → (∀ b, ¬ C.X b) → AV.lensL args → WV C fc.body (RetQ fc.rs r) (St.init args)) : FSpec P f args r := by
  obtain ⟨hcl, hb⟩ := body_call hc
  refine ⟨hcl, fun w M vs hM hr => ?_⟩
  have hlen := hr.length
  refine hb (Ctx.of P fc.N m w M) (RetQ fc.rs r) (St.init args) (fun _ => undef) vs _ rfl rfl rfl rfl (by omega) (h _ rfl rfl (fun _ h => by cases h) (fun _ h => h) hr.lens) (fun tm hs ht => G_init hM hr (by omega) hs ht) (fun l₀ hl₀ σ loc a w' hg hq => ?_) (fun e σ hq => by cases e <;> first | exact .inl rfl | exact .inr rfl | exact hq.elim)
  have hret : RetOk fc.rs r σ := hq.elim id id
  unfold RetOk at hret
  split at hret
  case h_2 => exact hret.elim
  rename_i q avs hres
  obtain ⟨hq, r', hport, hle⟩ := hret
  have hbelow : RowKit.Below w.heap.size w w' := ⟨hg.fr.os, hg.fr.tape, hg.fr.output, hg.fr.size, fun k hk => hg.fr.block k hk (fun h => h)⟩
  have hk : Keeps w' w' (MM (Ctx.of P fc.N m w M) σ.own loc) M := Keeps.less fun b o h => .inl h
  obtain ⟨us, hus, hrus⟩ := resAll_sound hg l₀ fc.rs hl₀ hres hq
  exact ⟨us, hus, _, rfl, hle _ _ _ _ (RepA.keep hk _ _ (port_rep hg (tup_rep hrus) hport)), hbelow⟩
/-- The same, told that nothing is lent. -/
theorem FSpecN_ofX {P : Program} {m : List Nat} {f : FuncId} {fc : FC} (hc : compM P m f = some fc) {args : List AV} {Post : AV → List Ob → Prop} (hn : args.length ≤ fc.np) (hnp : fc.np ≤ fc.N)
    (h : ∀ C : Ctx, C.P = P → C.N = fc.N → C.Ok → (∀ b, ¬ C.X b) → AV.lensL args → WV C fc.body (RetQN fc.rs Post) (St.init args)) : FSpecN P f args Post := by
  obtain ⟨hcl, hb⟩ := body_call hc
  refine ⟨hcl, fun w M vs hM hr => ?_⟩
  have hlen := hr.length
  refine hb (Ctx.of P fc.N m w M) (RetQN fc.rs Post) (St.init args) (fun _ => undef) vs _ rfl rfl rfl rfl (by omega) (h _ rfl rfl (fun _ h => by cases h) (fun _ h => h) hr.lens) (fun tm hs ht => G_init hM hr (by omega) hs ht) (fun l₀ hl₀ σ loc a w' hg hq => ?_) (fun e σ hq => by cases e <;> first | exact .inl rfl | exact .inr rfl | exact hq.elim)
  have hret : RetOkN fc.rs Post σ := hq.elim id id
  unfold RetOkN at hret
  split at hret
  case h_2 => exact hret.elim
  rename_i q avs hres
  obtain ⟨hq, L, r0, r, os, hL, hLl, hlend, hle, hol, hpost⟩ := hret
  have hbelow : RowKit.Below w.heap.size w w' := ⟨hg.fr.os, hg.fr.tape, hg.fr.output, hg.fr.size, fun k hk => hg.fr.block k hk (fun h => h)⟩
  obtain ⟨us, hus, hrus⟩ := resAll_sound hg l₀ fc.rs hl₀ hres hq
  obtain ⟨e1, e2, e3⟩ := obsLend_get hol
  have hsub : ∀ b k, AddM M (ownL 1000 os) (locL 1000 loc L) b k → MM (Ctx.of P fc.N m w M) σ.own loc b k := by
    rintro b k (h | ⟨n, h⟩)
    · exact .inl h
    · rcases ownL_cases os n with ⟨i, o, rfl, h2, h3⟩ | h3
      · obtain ⟨p, hp, hlp⟩ := e3 i o h2
        rw [h3, locL_at hp, Ob.lend_mut hlp] at h
        exact .inr ⟨p, h⟩
      · rw [h3] at h; exact (Ob.has_none _ _ (Ob.has_of_mut h)).elim
  have hone : ∀ n b, (ownL 1000 os n).has (locL 1000 loc L n) b → ∃ i p o, n = 1000 + i ∧ L[i]? = some p ∧ Ob.lend L σ.own (σ.own p) = some o ∧ (σ.own p).has (loc p) b := by
    intro n b h
    rcases ownL_cases os n with ⟨i, o, rfl, h2, h3⟩ | h3
    · obtain ⟨p, hp, hlp⟩ := e3 i o h2
      rw [h3, locL_at hp, Ob.lend_has hlp] at h
      exact ⟨i, p, o, rfl, hp, hlp, h⟩
    · rw [h3] at h; exact (Ob.has_none _ _ h).elim
  refine ⟨us, hus, _, r, os, locL 1000 loc L, rfl, hpost, by omega, hbelow, ⟨fun n => ?_, fun n k b hnk h1 h2 => ?_⟩, fun n b h => ?_, ?_⟩
  · rcases ownL_cases os n with ⟨i, o, rfl, h2, h3⟩ | h3
    · obtain ⟨p, hp, hlp⟩ := e3 i o h2
      rw [h3, locL_at hp]
      exact (ObOk.lend hg hlp).1.keep' (Keeps.less hsub) (Nat.le_refl _) (fun _ _ => rfl)
    · rw [h3]; trivial
  · obtain ⟨i, p, _, rfl, hp, _, hpb⟩ := hone n b h1
    obtain ⟨j, q, _, rfl, hq, _, hqb⟩ := hone k b h2
    refine hg.disj p q b ?_ hpb hqb
    rintro rfl
    exact hnk (by rw [nodup_idx hL hp hq])
  · obtain ⟨i, p, o, rfl, hp, hlp, hpb⟩ := hone n b h
    rcases (ObOk.lend hg hlp).2 b hpb with h' | h'
    · exact h'
    · exact h'.elim
  · exact hle _ _ _ _ (RepA.keep (Keeps.less hsub) _ _ (lend_rep hg (tup_rep hrus) hlend))

/-- The same, where what is handed back is not wholly told. -/
theorem FSpecN.spec' {P : Program} {f : FuncId} {args : List AV} {Post : AV → List Ob → Prop} {y : AV} {ds : List CD} (h : FSpecN P f args Post) (hx : ∀ r os, Post r os → r.frz 1000 ds = y ∧ ∃ junk, os = [.box (ds.map .c ++ junk)]) (hp : y.pureB = true) : FSpec P f args y := by
  refine ⟨h.1, fun w M vs hM hr => (h.2 w M vs hM hr).mono fun e w' hh => ?_⟩
  obtain ⟨v, r, os, loc', rfl, hpost, _, hb, hok, hnew, hv⟩ := hh
  obtain ⟨hy, junk, rfl⟩ := hx r os hpost
  refine ⟨v, rfl, ?_, hb⟩
  have hob := hok.objs 1000
  have e1 : ownL 1000 [Ob.box (ds.map .c ++ junk)] 1000 = Ob.box (ds.map .c ++ junk) := rfl
  rw [e1] at hob
  obtain ⟨b, l0, e, hl, _, hh, hrs⟩ := hob
  obtain ⟨l, l2, rfl, hrs, _⟩ := hrs.split
  have hbn : w.heap.size ≤ b := hnew 1000 b (by rw [e1, hl]; rfl)
  have hk : Keeps w' w' (AddM M (ownL 1000 [Ob.box (ds.map .c ++ junk)]) loc') M := Keeps.less fun c o h => .inl h
  have hrd : RepL w' M ds ⟨b, 0, none⟩ := by
    refine repL_of ds l 0 (RepAs.keep hk _ _ hrs) (fun j u hj => ?_) (fun j _ h => by have := hM _ _ h; omega)
    rw [cell_bp hh, Nat.zero_add, List.getElem?_append_left (List.getElem?_eq_some_iff.1 hj).1, hj]
  have h1 := frz_rep hl hrd (RepA.keep hk _ _ hv)
  rw [hy] at h1
  exact pure_loc hp h1
end Go.V

/-
  An object gets another number: what has been lent and has grown takes its old place.
-/
namespace Go.V

mutual
def AV.rn (d n : Nat) : AV → AV
  | .bp m o => if m = d then .bp n o else if m = n then .non else .bp m o
  | .gr m => if m = d then .gr n else if m = n then .non else .gr m
  | .vw sz m off len cap => if m = d then .vw sz n off len cap else if m = n then .non else .vw sz m off len cap
  | .agg cs => .agg (AV.rnL d n cs)
  | .tup cs => .tup (AV.rnL d n cs)
  | .fn f cs => .fn f (AV.rnL d n cs)
  | .opt g x => .opt g (AV.rn d n x)
  | .non => .non
  | .c x => .c x
def AV.rnL (d n : Nat) : List AV → List AV
  | [] => []
  | a :: as => AV.rn d n a :: AV.rnL d n as
end
def Ob.rn (d n : Nat) : Ob → Ob
  | .box cs => .box (AV.rnL d n cs)
  | .win cs => .win (AV.rnL d n cs)
  | o => o
def rnE (d n : Nat) (f : Nat → AV) : Nat → AV := fun t => (f t).rn d n
def rnP (d n : Nat) (f : Nat → Ob) : Nat → Ob := fun t => (f t).rn d n
def rnO (d n : Nat) (f : Nat → Ob) : Nat → Ob := upd (upd (rnP d n f) n ((f d).rn d n)) d .none
theorem rnE_upd (d n : Nat) (f : Nat → AV) (t : Nat) (v : AV) : rnE d n (upd f t v) = upd (rnE d n f) t (v.rn d n) := by
  funext s; simp only [rnE, upd]; split <;> rfl
theorem rnE_e0 (d n : Nat) : rnE d n e0 = e0 := rfl
theorem rnP_upd (d n : Nat) (f : Nat → Ob) (t : Nat) (v : Ob) : rnP d n (upd f t v) = upd (rnP d n f) t (v.rn d n) := by
  funext s; simp only [rnP, upd]; split <;> rfl
theorem rnP_o0 (d n : Nat) : rnP d n o0 = o0 := rfl
theorem rnE_app (d n : Nat) (f : Nat → AV) (t : Nat) : rnE d n f t = (f t).rn d n := rfl
theorem rnP_app (d n : Nat) (f : Nat → Ob) (t : Nat) : rnP d n f t = (f t).rn d n := rfl

section
variable {w : World} {M : Cells} {loc loc' : Nat → Value} {d n : Nat}
mutual
theorem rn_rep (hl : ∀ m, m ≠ n → loc' m = loc m) (hn : loc' n = loc d) : ∀ {x : AV} {v : Value}, RepA w M loc x v → RepA w M loc' (x.rn d n) v
  | .non, v, h => by simp only [AV.rn, RepA]
  | .c x, v, h => by simp only [AV.rn, RepA] at h ⊢; exact h
  | .gr m, v, h => by
    simp only [AV.rn]
    split
    · rename_i e; subst e; simp only [RepA] at h ⊢; rw [hn]; exact h
    · split
      · simp only [RepA]
      · rename_i e; simp only [RepA] at h ⊢; rw [hl m e]; exact h
  | .bp m o, v, h => by
    simp only [AV.rn]
    split
    · rename_i e; subst e; simp only [RepA] at h ⊢; rw [hn]; exact h
    · split
      · simp only [RepA]
      · rename_i e; simp only [RepA] at h ⊢; rw [hl m e]; exact h
  | .vw sz m off len cap, v, h => by
    simp only [AV.rn]
    split
    · rename_i e; subst e; simp only [RepA] at h ⊢; rw [hn]; exact h
    · split
      · simp only [RepA]
      · rename_i e; simp only [RepA] at h ⊢; rw [hl m e]; exact h
  | .agg cs, v, h => by
    simp only [AV.rn, RepA] at h ⊢
    obtain ⟨l, hv, hr⟩ := h
    exact ⟨l, hv, rns_rep hl hn hr⟩
  | .tup cs, v, h => by
    simp only [AV.rn, RepA] at h ⊢
    obtain ⟨l, hv, hr⟩ := h
    exact ⟨l, hv, rns_rep hl hn hr⟩
  | .fn f cs, v, h => by
    simp only [AV.rn, RepA] at h ⊢
    obtain ⟨l, hv, hr⟩ := h
    exact ⟨l, hv, rns_rep hl hn hr⟩
  | .opt g x, v, h => by
    simp only [AV.rn, RepA] at h ⊢
    exact ⟨fun hg => rn_rep hl hn (h.1 hg), h.2⟩
theorem rns_rep (hl : ∀ m, m ≠ n → loc' m = loc m) (hn : loc' n = loc d) : ∀ {xs : List AV} {l : List Value}, RepAs w M loc xs l → RepAs w M loc' (AV.rnL d n xs) l
  | [], l, h => h
  | x :: xs, l, h => by
    simp only [AV.rnL, RepAs] at h ⊢
    obtain ⟨v, vs, e, k1, k2⟩ := h
    exact ⟨v, vs, e, rn_rep hl hn k1, rns_rep hl hn k2⟩
end
theorem Ob.rn_has (o : Ob) (v : Value) (b : Nat) : (o.rn d n).has v b ↔ o.has v b := by
  cases o <;> first | exact Iff.rfl | (cases v <;> first | exact Iff.rfl | (rename_i p; cases p <;> exact Iff.rfl))
theorem Ob.rn_mut (o : Ob) (v : Value) : (o.rn d n).mut v = o.mut v := by
  cases o <;> first | rfl | (cases v <;> first | rfl | (rename_i p; cases p <;> rfl))
theorem ObOk.rn {P : Program} {A : Nat → Prop} {v : Value} {o : Ob} (hl : ∀ m, m ≠ n → loc' m = loc m) (hn : loc' n = loc d) (h : ObOk P A w M loc v o) : ObOk P A w M loc' v (o.rn d n) := by
  cases o with
  | none => trivial
  | box cs => obtain ⟨b1, l, e, h1, h2, h3, h4⟩ := h; exact ⟨b1, l, e, h1, h2, h3, rns_rep hl hn h4⟩
  | win cs => obtain ⟨b1, l, r, e, h1, h3, h4⟩ := h; exact ⟨b1, l, r, e, h1, h3, rns_rep hl hn h4⟩
  | grow e sz es => exact h
  | guest g rem => exact h
  | mp kk ek l => exact h
end

theorem Gam_move {C : Ctx} {σ : St} {a : Act} {w : World} {d n : Nat} (hdn : d ≠ n) (hp : ¬ C.pin n) (hn : σ.own n = .none) (h : Gam C σ a w) : Gam C ⟨rnE d n σ.env, rnO d n σ.own⟩ a w := by
  obtain ⟨loc, hg⟩ := h
  let loc' : Nat → Value := fun m => if m = n then loc d else loc m
  have hl : ∀ m, m ≠ n → loc' m = loc m := fun m hm => by simp only [loc', hm, if_false]
  have hn' : loc' n = loc d := by simp only [loc', if_true]
  have hnd : n ≠ d := fun e => hdn e.symm
  have o1 : rnO d n σ.own d = .none := by simp only [rnO, upd, if_true]
  have o2 : rnO d n σ.own n = (σ.own d).rn d n := by simp only [rnO, upd, hnd, if_false, if_true]
  have o3 : ∀ m, m ≠ d → m ≠ n → rnO d n σ.own m = (σ.own m).rn d n := fun m h1 h2 => by simp only [rnO, upd, h1, h2, if_false, rnP]
  have hhas : ∀ m k, (rnO d n σ.own m).has (loc' m) k → (m = n ∧ (σ.own d).has (loc d) k) ∨ (m ≠ n ∧ m ≠ d ∧ (σ.own m).has (loc m) k) := by
    intro m k h
    by_cases hm : m = n
    · subst hm; rw [o2, hn', Ob.rn_has] at h; exact .inl ⟨rfl, h⟩
    · by_cases hmd : m = d
      · subst hmd; rw [o1] at h; exact (Ob.has_none _ _ h).elim
      · rw [o3 m hmd hm, hl m hm, Ob.rn_has] at h; exact .inr ⟨hm, hmd, h⟩
  have hmut : ∀ b k, MM C (rnO d n σ.own) loc' b k → MM C σ.own loc b k := by
    rintro b k (h | ⟨m, h⟩)
    · exact .inl h
    · by_cases hm : m = n
      · subst hm; rw [o2, hn', Ob.rn_mut] at h; exact .inr ⟨d, h⟩
      · by_cases hmd : m = d
        · subst hmd; rw [o1] at h; exact (Ob.has_none _ _ (Ob.has_of_mut h)).elim
        · rw [o3 m hmd hm, hl m hm, Ob.rn_mut] at h; exact .inr ⟨m, h⟩
  have hk : Keeps w w (MM C σ.own loc) (MM C (rnO d n σ.own) loc') := Keeps.less hmut
  have hfoot : ∀ b, Foot (rnO d n σ.own) loc' b → Foot σ.own loc b := by
    rintro b ⟨m, h⟩
    rcases hhas m b h with ⟨_, h⟩ | ⟨_, _, h⟩
    · exact ⟨d, h⟩
    · exact ⟨m, h⟩
  refine ⟨loc', hg.fr, hg.m0, hg.kp.trans hk, fun x hx => ?_, hg.mnd, fun m hm => ?_, hg.size, fun t => ?_, fun m => ?_, fun m k c hmk h1 h2 => ?_⟩
  · obtain ⟨D, e1, e2, e3, e4⟩ := hg.marks x hx
    exact ⟨D, e1, e2, e3, fun h => e4 (hfoot _ h)⟩
  · obtain ⟨p1, p2, p3⟩ := hg.pin m hm
    exact ⟨p1, by rw [hl m (fun e => hp (e ▸ hm))]; exact p2, p3⟩
  · exact rn_rep hl hn' (RepA.keep hk _ _ (hg.slots t))
  · show ObOk C.P C.A w _ loc' (loc' m) (rnO d n σ.own m)
    by_cases hm : m = n
    · subst hm
      rw [o2, hn']
      exact ObOk.rn hl hn' (ObOk.keep' hk (Nat.le_refl _) (fun _ _ => rfl) (hg.objs d))
    · by_cases hmd : m = d
      · subst hmd; rw [o1]; trivial
      · rw [o3 m hmd hm, hl m hm]
        exact ObOk.rn hl hn' (ObOk.keep' hk (Nat.le_refl _) (fun _ _ => rfl) (hg.objs m))
  · rcases hhas m c h1 with ⟨e1, k1⟩ | ⟨e1, e2, k1⟩ <;> rcases hhas k c h2 with ⟨f1, k2⟩ | ⟨f1, f2, k2⟩
    · exact hmk (e1.trans f1.symm)
    · exact hg.disj d k c (fun e => f2 e.symm) k1 k2
    · exact hg.disj m d c e2 k1 k2
    · exact hg.disj m k c hmk k1 k2
/-- The object d gets the number n. -/
theorem WV_move {C : Ctx} {Q : Exit → St → Prop} {v : VC} {env : Nat → AV} {own : Nat → Ob} (d n : Nat) (hdn : d ≠ n) (hp : ¬ C.pin n) (hn : own n = .none) (h : WV C v Q ⟨rnE d n env, rnO d n own⟩) : WV C v Q ⟨env, own⟩ :=
  WV_weak (fun _ _ hg => Gam_move hdn hp hn hg) h

/-- At the end, too, a state may be read as another one. -/
theorem WV_post {C : Ctx} {Q : Exit → St → Prop} {v : VC} {σ : St} (h : WV C v (fun e σ' => ∃ σ'', (∀ a w, Gam C σ' a w → Gam C σ'' a w) ∧ Q e σ'') σ) : WV C v Q σ := fun c hc a w hg =>
  wpIn_mono (h c hc a w hg) fun _ _ _ ⟨_, hg', σ'', hw, hq⟩ => ⟨σ'', hw _ _ hg', hq⟩
/-- **A borrowing contract out of a walk**, told which numbers are places. -/
theorem FSpecL_ofX {P : Program} {m : List Nat} {f : FuncId} {fc : FC} (hc : compM P m f = some fc) {args : List AV} {l : List Ob} {wl : List (List AV)} {Post : AV → List Ob → Prop} (hl : l.length ≤ 1000) (hn : args.length ≤ fc.np) (hnp : fc.np ≤ fc.N) (hN : fc.N ≤ 1000)
    (h : ∀ C : Ctx, C.P = P → C.N = fc.N → C.Ok → (∀ n, C.pin n → (ownW l wl n).isPlace = true) → AV.lensL args → WV C fc.body (RetQL fc.rs l wl Post) ⟨fun t => args.getD t .non, ownW l wl⟩) : FSpecL P f args l wl Post := by
  obtain ⟨hcl, hb⟩ := body_call hc
  refine ⟨hcl, hl, fun w M loc vs hM hok hr => ?_⟩
  have hlen := hr.length
  refine hb (Ctx.lentC P fc.N m w M l wl loc none) (RetQL fc.rs l wl Post) _ loc vs _ rfl rfl rfl rfl (by omega) (h _ rfl rfl (fun _ h => by cases h) (fun _ h => h) hr.lens) (fun tm hs ht => G_initL hl hN hM hok hs (fun t => by rw [ht t]; exact init_slots fc.N args vs hr t)) (fun l₀ hl₀ σ loc' a w' hg hq => ?_) (fun e σ hq => by cases e <;> first | exact .inl rfl | exact .inr rfl | exact hq.elim)
  have hret : RetOkL fc.rs l wl Post σ := hq.elim id id
  unfold RetOkL at hret
  split at hret
  case h_2 => exact hret.elim
  rename_i q avs hres
  obtain ⟨hq, r, l', hkr, hkl, hpost⟩ := hret
  obtain ⟨us, hus, hrus⟩ := resAll_sound hg l₀ fc.rs hl₀ hres hq
  obtain ⟨k1, k2, k3, k4, k5, k6⟩ := lentC_end hl rfl rfl rfl rfl rfl hg hkl
  exact ⟨us, hus, _, r, l', loc', rfl, hpost, hkl.len, k1, k2, k3, k4, k5, k6 _ _ _ hkr (tup_rep hrus)⟩
section
variable {P : Program} {dd : Nat} {f : X} {xs : List X} {K : St → Prop} {σ : St}
/-- A call that makes one new object, in its slot's number. -/
theorem AM_new {fid : FuncId} {caps args : List AV} {Post : AV → List Ob → Prop} (hs : FSpecN P fid args Post) (h0 : dd < 1000) (h00 : (σ.own dd).isNone = true) (h1 : (σ.val f).dg = true) (h2 : (xs.all fun x => (σ.val x).dg) = true) (h3 : (σ.val f).dv = .fn fid caps)
    (h4 : AV.portL σ.own (xs.map (fun x => (σ.val x).dv) ++ caps) = some args)
    (hK : ∀ r os, Post r os → ∃ o r' o', os = [o] ∧ r.back [dd] = some r' ∧ o.back [dd] = some o' ∧ K ⟨upd (prgE dd σ.env) dd r', upd (prgO dd σ.own) dd o'⟩) : ACallM P (some dd) f xs K σ :=
  ⟨dd, fid, caps, args, Post, rfl, h0, h00, h1, h2, h3, h4, hs, hK⟩
end
section
variable {α : Type}
theorem rn_cs (d n : Nat) : ∀ l : List CD, AV.rnL d n (l.map .c) = l.map .c
  | [] => rfl
  | a :: l => by simp only [List.map_cons, AV.rnL, AV.rn, rn_cs d n l]
theorem rn_non (d n : Nat) : ∀ j : Nat, AV.rnL d n (List.replicate j .non) = List.replicate j .non
  | 0 => rfl
  | j + 1 => by simp only [List.replicate_succ, AV.rnL, AV.rn, rn_non d n j]
theorem rnL_append (d n : Nat) : ∀ a b : List AV, AV.rnL d n (a ++ b) = AV.rnL d n a ++ AV.rnL d n b
  | [], b => rfl
  | x :: a, b => by simp only [List.cons_append, AV.rnL, rnL_append d n a b]
theorem rn_cellsG (cds : α → List CD) (d n : Nat) (l : List α) (j : Nat) : AV.rnL d n (cellsG cds l j) = cellsG cds l j := by
  unfold cellsG; rw [rnL_append, rn_cs, rn_non]
theorem keep_cs (own : Nat → Ob) : ∀ l : List CD, AV.keepPL own (l.map .c) = some (l.map .c)
  | [] => rfl
  | a :: l => by simp only [List.map_cons, AV.keepPL, AV.keepP, keep_cs own l]
theorem keep_non (own : Nat → Ob) : ∀ j : Nat, AV.keepPL own (List.replicate j .non) = some (List.replicate j .non)
  | 0 => rfl
  | j + 1 => by simp only [List.replicate_succ, AV.keepPL, AV.keepP, keep_non own j]
theorem keepL_append (own : Nat → Ob) : ∀ x y : List AV, AV.keepPL own (x ++ y) = (AV.keepPL own x).bind fun x' => (AV.keepPL own y).map fun y' => x' ++ y'
  | [], y => by simp [AV.keepPL]
  | a :: x, y => by
    simp only [List.cons_append, AV.keepPL, keepL_append own x y]
    cases AV.keepP own a <;> cases AV.keepPL own x <;> cases AV.keepPL own y <;> rfl
theorem keep_cellsG (cds : α → List CD) (own : Nat → Ob) (l : List α) (j : Nat) : AV.keepPL own (cellsG cds l j) = some (cellsG cds l j) := by
  unfold cellsG; rw [keepL_append, keep_cs, keep_non]; rfl
theorem elemsV_cellsG {cds : α → List CD} {m : Nat} (hm : ∀ a, (cds a).length = m) (own : Nat → Ob) (n : Nat) (l : List α) (j cap : Nat) (h : own n = .box (cellsG cds l j)) : AV.elemsV own (.vw m n 0 l.length cap) = some (m, l.map cds) := by
  have h2 : (cellsG cds l j).take (l.length * m) = (flatG cds l).map .c := by rw [cellsG_take hm]; simp [cellsG]
  have h3 : ((flatG cds l).map AV.c).mapM (AV.toCD own) = some (flatG cds l) := by
    induction flatG cds l with
    | nil => rfl
    | cons a t ih => simp only [List.map_cons, List.mapM_cons, AV.toCD, Option.pure_def, Option.bind_eq_bind, Option.bind_some, ih]
  simp only [AV.elemsV, h, Ob.cellsR, Nat.zero_add, List.drop_zero, h2, h3, Option.map_some]
  rw [if_pos (by rw [cellsG_len hm]; omega)]
  have := grp_cellsG hm l
  rw [List.take_of_length_le (by rw [flatG_len hm]; exact Nat.le_refl _)] at this
  rw [this]
end
attribute [go_sem] rn_cellsG keep_cellsG back_cellsG
attribute [go_sem] gdE_upd gdE_e0 gdO_upd gdO_o0 AV.gd AV.gdL Ob.gd CD.flat rnE_upd rnE_e0 rnP_upd rnP_o0 rnO AV.rn AV.rnL Ob.rn rnE_app rnP_app
end Go.V

/-
  What may be forgotten of one slot or one object; an object gets another number.
-/
namespace Go.V
section
variable {C : Ctx} {Q : Exit → St → Prop} {x : VC} {env : Nat → AV} {own : Nat → Ob}
/-- One slot is read as something that says no more. -/
theorem WV_weak1 (t : Nat) (v : AV) (h0 : AWk own (env t) v) (h : WV C x Q ⟨upd env t v, own⟩) : WV C x Q ⟨env, own⟩ :=
  WV_sub (σ' := ⟨upd env t v, own⟩) (Sub_of (fun s => by
    show AWk own (env s) (upd env t v s)
    rw [upd_app]
    split
    · rename_i e; subst e; exact h0
    · exact AWk.refl _ _) (ObjLe.rfl' _)) h
/-- An object is forgotten. -/
theorem WV_drop (n : Nat) (h : WV C x Q ⟨env, upd own n .none⟩) : WV C x Q ⟨env, own⟩ :=
  WV_sub (σ' := ⟨env, upd own n .none⟩) (Sub_of (fun s => AWk.refl _ _) (fun m => by
    show upd own n .none m = own m ∨ upd own n .none m = .none
    rw [upd_app]
    split
    · exact .inr rfl
    · exact .inl rfl)) h
theorem WV_move' (d n : Nat) (hdn : d ≠ n) (h1 : n < 1000) (hn : own n = .none) (h : WV C x Q ⟨rnE d n env, rnO d n own⟩) : WV C x Q ⟨env, own⟩ :=
  WV_weak (fun _ _ hg => Gam_move hdn (fun hp => by obtain ⟨_, hg'⟩ := hg; have := (hg'.pin n hp).1; omega) hn hg) h
/-- A call that isn't made. -/
theorem AG_skip {P : Program} {A B : Prop} {d : Option Nat} {f : X} {xs : List X} {K : St → Prop} {σ : St} (h : K (σ.put d (.opt false (.c (.bool false))))) : ACallG P false d f xs K σ ∨ A ∨ B :=
  .inl ⟨.c (.bool false), rfl, (fun e => by cases e), h⟩
theorem ACallG_skip {P : Program} {d : Option Nat} {f : X} {xs : List X} {K : St → Prop} {σ : St} (r : AV) (hr : r.pureB = true) (h : K (σ.put d (.opt false r))) : ACallG P false d f xs K σ := ⟨r, hr, (fun e => by cases e), h⟩
end
end Go.V

/-
  What is kept of objects that were written more than once.
-/
namespace Go.V
/-- But for these numbers, f has what g has. -/
def ObjLeX (f g : Nat → Ob) (ds : List Nat) : Prop := ∀ m, ds.contains m = false → g m = f m ∨ g m = .none
theorem ObjLe_X {f g : Nat → Ob} (h : ObjLeX f g []) : ObjLe f g := fun m => h m rfl
theorem ObjLeX_o0 (f : Nat → Ob) (ds : List Nat) : ObjLeX f o0 ds := fun _ _ => .inr rfl
theorem ObjLeX_skip {f g : Nat → Ob} {d : Nat} {o : Ob} {ds : List Nat} (hd : ds.contains d = true) (h : ObjLeX f g ds) : ObjLeX f (upd g d o) ds := fun m hm => by
  have hne : m ≠ d := by rintro rfl; rw [hd] at hm; cases hm
  have := h m hm
  simpa [upd, hne] using this
theorem ObjLeX_upd {f g : Nat → Ob} {d : Nat} {o : Ob} {ds : List Nat} (hd : f d = o) (h : ObjLeX f g (d :: ds)) : ObjLeX f (upd g d o) ds := fun m hm => by
  by_cases hmd : m = d
  · subst hmd; left; simp [upd, hd]
  · have hne : (m == d) = false := by simpa using hmd
    have := h m (by simp only [List.contains_cons, hne, hm, Bool.false_or])
    simpa [upd, hmd] using this

/-! ### Short names -/
theorem qI {a b : Prop} (hb : b) (ha : a := by first | omega | (intros; simp_all; done) | (intros; simp_all; omega)) : a ∧ b := ⟨ha, hb⟩
theorem Sub_au {e e' : Nat → AV} {o o' : Nat → Ob}
    (h1 : EnvLe o e e' := by (try simp only [go_sem, init_env', Nat.reduceEqDiff, Nat.reduceAdd, Nat.reduceMul, reduceIte, Nat.reduceLeDiff, Nat.reduceLT, Nat.reduceBEq, reduceCtorEq]); ((repeat' (first | exact EnvLe_e0 _ _ | refine EnvLe_upd ?_ ?_)) <;> ((try simp only [upd_app, e0_app, o0_app, Nat.reduceEqDiff, reduceIte]); first | exact AWk.refl _ _ | exact AWk.int (by omega) | exact AWk.int (by rw [w64 (by omega) (by omega)]; omega) | exact AWk.grow rfl | exact AWk.nil _ | exact AWk.of (by simp))))
    (h2 : ObjLe o o' := by (try simp only [go_sem, init_env', Nat.reduceEqDiff, Nat.reduceAdd, Nat.reduceMul, reduceIte, Nat.reduceLeDiff, Nat.reduceLT, Nat.reduceBEq, reduceCtorEq]); (first | ((repeat' (first | exact ObjLe_o0 _ | exact ObjLe.rfl' _ | refine ObjLe_same ?_ | refine ObjLe_upd ?_ ?_ | refine ObjLe_new rfl ?_)) <;> rfl) | (refine ObjLe_X ?_; (repeat' (first | exact ObjLeX_o0 _ _ | refine ObjLeX_skip rfl ?_ | refine ObjLeX_upd ?_ ?_)) <;> rfl))) : Sub ⟨e, o⟩ ⟨e', o'⟩ := Sub_of h1 h2
section
variable {C : Ctx} {Q : Exit → St → Prop} {σ : St}
theorem w1 {a b : VC} (h : WV C a (thenQ (WV C b Q) Q) σ) : WV C (.seq a b) Q σ := WV_seq_ h
end
end Go.V

/-
  Families of objects: rows of a slice of slices, each an object of its own.
-/
namespace Go.V

/-- A row: its elements, how much junk is behind them, its capacity. -/
structure Row (α : Type) where
  l : List α
  j : Nat
  cap : Nat
section
variable {α : Type} {cds : α → List CD} {b sz m : Nat} {R : List (Row α)} {own : Nat → Ob}
def Row.ob (cds : α → List CD) (r : Row α) : Ob := .box (cellsG cds r.l r.j)
theorem Row.ob_box (r : Row α) : r.ob cds = .box (cellsG cds r.l r.j) := rfl
/-- From b on these rows are the objects. -/
def fam (b : Nat) (cds : α → List CD) (R : List (Row α)) (own : Nat → Ob) : Nat → Ob := fun n =>
  if b ≤ n then (match R[n - b]? with | some r => r.ob cds | none => own n) else own n
theorem fam_lo {n : Nat} (h : n < b) : fam b cds R own n = own n := by unfold fam; rw [if_neg (by omega)]
theorem fam_at {i : Nat} (h : i < R.length) : fam b cds R own (i + b) = (R[i]).ob cds := by
  unfold fam; rw [if_pos (by omega), Nat.add_sub_cancel, List.getElem?_eq_getElem h]
theorem fam_hi {n : Nat} (h : R.length + b ≤ n) : fam b cds R own n = own n := by
  unfold fam
  split
  · rw [List.getElem?_eq_none (by omega)]
  · rfl
theorem fam_nil : fam b cds [] own = own := by
  funext n; unfold fam; split <;> rfl
theorem fam_upd {t : Nat} (h : t < b) (v : Ob) : upd (fam b cds R own) t v = fam b cds R (upd own t v) := by
  funext n
  by_cases e : n = t
  · subst e; rw [fam_lo h]; simp [upd]
  · unfold fam upd; rw [if_neg e, if_neg e]
theorem fam_snoc (r : Row α) : upd (fam b cds R own) (R.length + b) (r.ob cds) = fam b cds (R ++ [r]) own := by
  funext n
  by_cases e : n = R.length + b
  · subst e
    rw [upd_app, if_pos rfl, fam_at (by simp)]; simp
  · rw [upd_app, if_neg e]
    unfold fam
    split
    · by_cases h : n - b < R.length
      · rw [List.getElem?_append_left h]
      · rw [List.getElem?_eq_none (by omega), List.getElem?_eq_none (by simp; omega)]
    · rfl
theorem fam_set {i : Nat} (h : i < R.length) (r : Row α) : upd (fam b cds R own) (i + b) (r.ob cds) = fam b cds (R.set i r) own := by
  funext n
  by_cases e : n = i + b
  · subst e
    rw [upd_app, if_pos rfl, fam_at (by simpa using h)]; simp
  · rw [upd_app, if_neg e]
    unfold fam
    split
    · rw [List.getElem?_set, if_neg (by omega)]
    · rfl
theorem fam_fun (g : Ob → Ob) (hg : ∀ r : Row α, g (r.ob cds) = r.ob cds) (n : Nat) : g (fam b cds R own n) = fam b cds R (fun n => g (own n)) n := by
  unfold fam
  split
  · cases R[n - b]? with
    | none => rfl
    | some r => exact hg r
  · rfl
theorem prgO_fam (d : Nat) : prgO d (fam b cds R own) = fam b cds R (prgO d own) := by
  funext n
  show (fam b cds R own n).prg d = _
  rw [fam_fun (fun o => o.prg d) fun r => by simp only [Row.ob, Ob.prg, prg_cellsG]]
  rfl
theorem rnP_fam (d n : Nat) : rnP d n (fam b cds R own) = fam b cds R (rnP d n own) := by
  funext k
  show (fam b cds R own k).rn d n = _
  rw [fam_fun (fun o => o.rn d n) fun r => by simp only [Row.ob, Ob.rn, rn_cellsG]]
  rfl
theorem frzO_fam {n : Nat} (h : n < b) (ds : List CD) : frzO n ds (fam b cds R own) = fam b cds R (frzO n ds own) := by
  funext k
  rw [frzO_app]
  by_cases e : k = n
  · subst e; rw [if_pos rfl, fam_lo h, frzO_app, if_pos rfl]
  · rw [if_neg e, fam_fun (fun o => o.frz n ds) fun r => by simp only [Row.ob, Ob.frz, frz_cellsG]]
    unfold fam
    rw [frzO_app, if_neg e]
/-- A new row takes its place. -/
theorem rnO_fam {d : Nat} (h : d < b) (r : Row α) (ho : own d = r.ob cds) : rnO d (R.length + b) (fam b cds R own) = fam b cds (R ++ [r]) (upd (rnP d (R.length + b) own) d .none) := by
  unfold rnO
  rw [rnP_fam, fam_lo h, ho]
  rw [show (r.ob cds).rn d (R.length + b) = r.ob cds by simp only [Row.ob, Ob.rn, rn_cellsG]]
  rw [fam_snoc, fam_upd h]
theorem rnP_app' (d n : Nat) (f : Nat → Ob) (t : Nat) : rnP d n f t = (f t).rn d n := rfl

theorem ObjLe_fam {f g : Nat → Ob} (h : ObjLe f g) : ObjLe (fam b cds R f) (fam b cds R g) := fun n => by
  unfold fam
  split
  · cases R[n - b]? with
    | none => exact h n
    | some r => exact .inl rfl
  · exact h n

/-! ### References to rows -/
def refs (b sz : Nat) : Nat → List (Row α) → List AV
  | _, [] => []
  | k, r :: R => .vw sz (k + b) 0 r.l.length r.cap :: refs b sz (k + 1) R
theorem refs_len : ∀ (R : List (Row α)) (k : Nat), (refs b sz k R).length = R.length
  | [], _ => rfl
  | r :: R, k => by simp only [refs, List.length_cons, refs_len R]
theorem refs_snoc : ∀ (R : List (Row α)) (k : Nat) (r : Row α), refs b sz k (R ++ [r]) = refs b sz k R ++ [.vw sz (R.length + k + b) 0 r.l.length r.cap]
  | [], k, r => by simp [refs]
  | a :: R, k, r => by
    simp only [List.cons_append, refs, refs_snoc R, List.length_cons, List.cons.injEq, true_and, List.append_cancel_left_eq, List.cons.injEq, and_true]
    rw [show R.length + (k + 1) + b = R.length + 1 + k + b from by omega]
theorem refs_get? : ∀ {R : List (Row α)} {i : Nat} (k : Nat) (h : i < R.length), (refs b sz k R)[i]? = some (.vw sz (i + k + b) 0 (R[i]).l.length (R[i]).cap)
  | [], i, k, h => by simp at h
  | a :: R, 0, k, h => by simp [refs]
  | a :: R, i + 1, k, h => by
    simp only [refs, List.getElem?_cons_succ, List.getElem_cons_succ]
    rw [refs_get? (k + 1) (by simpa using h), show i + (k + 1) + b = i + 1 + k + b from by omega]
theorem refs_get {i : Nat} (h : i < R.length) (l : List AV) (x : AV) : (refs b sz 0 R ++ l).getD i x = .vw sz (i + b) 0 (R[i]).l.length (R[i]).cap := by
  rw [List.getD_eq_getElem?_getD, List.getElem?_append_left (by rw [refs_len]; exact h), refs_get? 0 h]; rfl
/-- Rows of the same lengths and capacities are referred to alike. -/
theorem refs_set {i : Nat} (h : i < R.length) (r : Row α) (h1 : r.l.length = (R[i]).l.length) (h2 : r.cap = (R[i]).cap) : refs b sz 0 (R.set i r) = refs b sz 0 R := by
  refine List.ext_getElem? fun k => ?_
  by_cases hk : k < R.length
  · rw [refs_get? 0 (by simpa using hk), refs_get? 0 hk]
    simp only [List.getElem_set]
    split
    · rename_i e; subst e; rw [h1, h2]
    · rfl
  · rw [List.getElem?_eq_none (by rw [refs_len, List.length_set]; omega), List.getElem?_eq_none (by rw [refs_len]; omega)]
theorem refs_prg {d : Nat} (h : d < b) : ∀ (R : List (Row α)) (k : Nat), AV.prgL d (refs b sz k R) = refs b sz k R
  | [], _ => rfl
  | r :: R, k => by simp only [refs, AV.prgL, AV.prg, refs_prg h R]; rw [if_neg (by omega)]
theorem refs_rn {d n : Nat} (h : d < b) : ∀ (R : List (Row α)) (k : Nat), R.length + k + b ≤ n → AV.rnL d n (refs b sz k R) = refs b sz k R
  | [], _, _ => rfl
  | r :: R, k, hn => by
    simp only [List.length_cons] at hn
    have e1 : ¬ k + b = d := by omega
    have e2 : ¬ k + b = n := by omega
    simp only [refs, AV.rnL, AV.rn, if_neg e1, if_neg e2]
    rw [refs_rn h R (k + 1) (by omega)]
theorem refs_frz {n : Nat} (h : n < b) (ds : List CD) : ∀ (R : List (Row α)) (k : Nat), AV.frzL n ds (refs b sz k R) = refs b sz k R
  | [], _ => rfl
  | r :: R, k => by simp only [refs, AV.frzL, AV.frz, refs_frz h ds R]; rw [if_neg (by omega)]
theorem refs_take (l : List AV) : List.take (R.length * 1) (refs b sz 0 R ++ l) = refs b sz 0 R := by
  rw [Nat.mul_one, List.take_left' (refs_len R 0)]
theorem ne_add' {n m k : Nat} (h : n < k) : (m + k = n) = False := by simp; omega
theorem ne_add {n m k : Nat} (h : n < k) : (n = m + k) = False := by simp; omega
theorem refs_one : ∀ (R : List (Row α)) (k : Nat), (refs b sz k R).all AV.oneB = true
  | [], _ => rfl
  | r :: R, k => by simp only [refs, List.all_cons, AV.oneB, refs_one R, Bool.and_self]

/-! ### What is lent, and what comes back -/
def rng (b m : Nat) : List Nat := (List.range m).map (· + b)
theorem rng_len : (rng b m).length = m := by simp [rng]
theorem rng_get? {i : Nat} (h : i < m) : (rng b m)[i]? = some (i + b) := by simp [rng, h]
theorem rng_mem {n : Nat} (h : n ∈ rng b m) : b ≤ n ∧ n < m + b := by
  obtain ⟨i, hi, rfl⟩ := List.mem_map.1 h
  have := List.mem_range.1 hi
  omega
theorem rng_nodup : (rng b m).Nodup := List.Pairwise.map _ (fun a c (h : a ≠ c) => by show a + b ≠ c + b; omega) List.nodup_range
theorem rng_idx {i : Nat} (h : i < m) : (rng b m).idxOf (i + b) = i := by
  have := (rng_nodup (b := b) (m := m)).idxOf_getElem i (by rw [rng_len]; exact h)
  have e : (rng b m)[i]'(by rw [rng_len]; exact h) = i + b := by simp [rng]
  rwa [e] at this
theorem nodup_rng {L : List Nat} (h : L.Nodup) (hl : ∀ n ∈ L, n < b) : (L ++ rng b m).Nodup := by
  refine List.nodup_append.2 ⟨h, rng_nodup, fun x hx y hy => ?_⟩
  have := hl x hx
  have := rng_mem hy
  omega
theorem refs_lend {L : List Nat} (hl : ∀ n ∈ L, n < b) (f : Nat → Ob) (c : Nat) : ∀ (R : List (Row α)) (k : Nat), R.length + k ≤ m → AV.lendL c (L ++ rng b m) f (refs b sz k R) = some (refs (c + L.length) sz k R)
  | [], _, _ => rfl
  | r :: R, k, hm => by
    simp only [List.length_cons] at hm
    have h1 : k + b ∉ L := fun hh => by have := hl _ hh; omega
    have h2 : k + b ∈ L ++ rng b m := List.mem_append_right _ (List.mem_of_getElem? (rng_get? (b := b) (m := m) (i := k) (by omega)))
    have h3 : (L ++ rng b m).idxOf (k + b) = L.length + k := by
      rw [List.idxOf_append, if_neg h1, rng_idx (by omega), Nat.add_comm]
    simp only [refs, AV.lendL, AV.lend, if_pos h2, h3, refs_lend hl f c R (k + 1) (by omega)]
    rw [show c + (L.length + k) = k + (c + L.length) from by omega]
theorem refs_back {L : List Nat} (hb : 1000 ≤ sz + 1000) : ∀ (R : List (Row α)) (k : Nat), R.length + k ≤ m → AV.backL (L ++ rng b m) (refs (1000 + L.length) sz k R) = some (refs b sz k R)
  | [], _, _ => rfl
  | r :: R, k, hm => by
    simp only [List.length_cons] at hm
    have h1 : (L ++ rng b m)[k + (1000 + L.length) - 1000]? = some (k + b) := by
      rw [List.getElem?_append_right (by omega), show k + (1000 + L.length) - 1000 - L.length = k from by omega, rng_get? (by omega)]
    simp only [refs, AV.backL, AV.back, refs_back hb R (k + 1) (by omega), h1]
    rw [if_pos (by omega)]
    rfl
theorem obsLend_append {L : List Nat} {f : Nat → Ob} : ∀ {A B : List Nat} {x y : List Ob}, obsLend L f A = some x → obsLend L f B = some y → obsLend L f (A ++ B) = some (x ++ y)
  | [], B, x, y, h1, h2 => by
    simp only [obsLend, Option.some.injEq] at h1
    subst h1
    simpa using h2
  | n :: A, B, x, y, h1, h2 => by
    simp only [obsLend] at h1
    cases h3 : (f n).lend L f with
    | none => rw [h3] at h1; cases h1
    | some o =>
      cases h4 : obsLend L f A with
      | none => rw [h3, h4] at h1; cases h1
      | some os =>
        rw [h3, h4] at h1
        simp only [Option.some.injEq] at h1
        subst h1
        simp only [List.cons_append, obsLend, h3, obsLend_append h4 h2]
theorem obsLend_fam {L : List Nat} {f : Nat → Ob} (hf : ∀ i (h : i < R.length), f (i + b) = (R[i]).ob cds) : obsLend L f (rng b R.length) = some (R.map (Row.ob cds)) := by
  suffices h : ∀ (k : Nat), k ≤ R.length → obsLend L f ((rng b R.length).drop (R.length - k)) = some ((R.map (Row.ob cds)).drop (R.length - k)) by
    simpa using h R.length (Nat.le_refl _)
  intro k
  induction k with
  | zero => intro _; rw [Nat.sub_zero, List.drop_of_length_le (by rw [rng_len]; exact Nat.le_refl _), List.drop_of_length_le (by simp)]; rfl
  | succ k ih =>
    intro hk
    have hi : R.length - (k + 1) < R.length := by omega
    have e : R.length - k = R.length - (k + 1) + 1 := by omega
    rw [List.drop_eq_getElem_cons (l := rng b R.length) (by rw [rng_len]; exact hi), List.drop_eq_getElem_cons (l := R.map (Row.ob cds)) (by simpa using hi)]
    have e2 : (rng b R.length)[R.length - (k + 1)]'(by rw [rng_len]; exact hi) = R.length - (k + 1) + b := by simp [rng]
    have ih := ih (by omega)
    rw [e] at ih
    simp only [e2, obsLend, hf _ hi, Row.ob, Ob.lend, lend_cellsG, Option.map_some, ih, List.getElem_map]
theorem obsBack_rows (L : List Nat) : ∀ R : List (Row α), obsBack L (R.map (Row.ob cds)) = some (R.map (Row.ob cds))
  | [] => rfl
  | r :: R => by simp only [List.map_cons, obsBack, Row.ob, Ob.back, back_cellsG, Option.map_some]; rw [show obsBack L (R.map (Row.ob cds)) = some (R.map (Row.ob cds)) from obsBack_rows L R]
theorem ownBack_fam : ownBack own (rng b R.length) (R.map (Row.ob cds)) = fam b cds R own := by
  funext n
  by_cases hn : b ≤ n ∧ n < R.length + b
  · obtain ⟨i, rfl⟩ : ∃ i, n = i + b := ⟨n - b, by omega⟩
    have hi : i < R.length := by omega
    rw [fam_at hi]
    exact ownBack_in rng_nodup (rng_get? hi) (by simp [hi])
  · rw [ownBack_out (fun h => hn (rng_mem h))]
    unfold fam
    split
    · rw [List.getElem?_eq_none (by omega)]
    · rfl
/-- All references to these are forgotten. -/
def AV.prgs (L : List Nat) (x : AV) : AV := L.foldr AV.prg x
theorem prgEs_app (L : List Nat) (f : Nat → AV) (t : Nat) : prgEs L f t = (f t).prgs L := by
  induction L with
  | nil => rfl
  | cons n L ih => simp only [prgEs, prgE, ih]; rfl
theorem prgEs_upd (L : List Nat) (f : Nat → AV) (t : Nat) (v : AV) : prgEs L (upd f t v) = upd (prgEs L f) t (v.prgs L) := by
  funext s
  rw [prgEs_app, upd_app, upd_app, prgEs_app]
  split <;> rfl
theorem prgs_stay {x : AV} : ∀ {L : List Nat}, (∀ n ∈ L, x.prg n = x) → x.prgs L = x
  | [], _ => rfl
  | n :: L, h => by
    have e : x.prgs (n :: L) = (x.prgs L).prg n := rfl
    rw [e, prgs_stay fun k hk => h k (List.mem_cons_of_mem _ hk), h n (by simp)]
theorem prgEs_stay {L : List Nat} {f : Nat → AV} (h : ∀ n ∈ L, prgE n f = f) : prgEs L f = f := by
  funext t
  rw [prgEs_app]
  exact prgs_stay fun n hn => congrFun (h n hn) t
theorem prgOs_stay {f : Nat → Ob} : ∀ {L : List Nat}, (∀ n ∈ L, prgO n f = f) → prgOs L f = f
  | [], _ => rfl
  | n :: L, h => by simp only [prgOs]; rw [prgOs_stay fun k hk => h k (List.mem_cons_of_mem _ hk), h n (by simp)]
theorem prgEs_append (A B : List Nat) (f : Nat → AV) : prgEs (A ++ B) f = prgEs A (prgEs B f) := by
  induction A with
  | nil => rfl
  | cons n A ih => simp only [List.cons_append, prgEs, ih]
theorem prgOs_append (A B : List Nat) (f : Nat → Ob) : prgOs (A ++ B) f = prgOs A (prgOs B f) := by
  induction A with
  | nil => rfl
  | cons n A ih => simp only [List.cons_append, prgOs, ih]

/-! ### All rows become data -/
def datas (cds : α → List CD) (sz : Nat) (R : List (Row α)) : List AV := R.map fun r => .c (.sl sz (r.l.map cds))
def frzEs (b : Nat) (cds : α → List CD) (R : List (Row α)) : Nat → (Nat → AV) → Nat → AV
  | 0, f => f
  | k + 1, f => frzEs b cds R k (frzE (k + b) (match R[k]? with | some r => flatG cds r.l | none => []) f)
def frzPs (b : Nat) (cds : α → List CD) (R : List (Row α)) : Nat → (Nat → Ob) → Nat → Ob
  | 0, f => f
  | k + 1, f => frzPs b cds R k (frzO (k + b) (match R[k]? with | some r => flatG cds r.l | none => []) f)
theorem frzO_top {k : Nat} {r : Row α} {ds : List CD} (hk : k = R.length) (hno : own (k + b) = .none) : frzO (k + b) ds (fam b cds (R ++ [r]) own) = fam b cds R (frzO (k + b) ds own) := by
  subst hk
  funext n
  rw [frzO_app]
  by_cases e : n = R.length + b
  · subst e; rw [if_pos rfl, fam_hi (Nat.le_refl _), frzO_app, if_pos rfl]
  · rw [if_neg e, fam_fun (fun o => o.frz _ ds) fun r => by simp only [Row.ob, Ob.frz, frz_cellsG]]
    unfold fam
    have e2 : frzO (R.length + b) ds own n = (own n).frz (R.length + b) ds := by rw [frzO_app, if_neg e]
    rw [e2]
    split
    · by_cases h : n - b < R.length
      · rw [List.getElem?_append_left h]
      · rw [List.getElem?_eq_none (by simp; omega), List.getElem?_eq_none (by omega)]
    · rfl
variable {C : Ctx} {Q : Exit → St → Prop} {v : VC} {env : Nat → AV}
theorem WV_frzFam : ∀ (k : Nat) (own : Nat → Ob) (env : Nat → AV), k = R.length → (∀ i, i < k → own (i + b) = .none) → WV C v Q ⟨frzEs b cds R k env, frzPs b cds R k own⟩ → WV C v Q ⟨env, fam b cds R own⟩ := by
  suffices hs : ∀ (k : Nat) (own : Nat → Ob) (env : Nat → AV), k ≤ R.length → (∀ i, i < k → own (i + b) = .none) → WV C v Q ⟨frzEs b cds R k env, frzPs b cds R k own⟩ → WV C v Q ⟨env, fam b cds (R.take k) own⟩ by
    intro k own env hk ho h
    have := hs k own env (by omega) ho h
    rwa [hk, List.take_length] at this
  intro k
  induction k with
  | zero => intro own env _ _ h; rw [List.take_zero, fam_nil]; exact h
  | succ k ih =>
    intro own env hk ho h
    have hk2 : k < R.length := by omega
    rw [List.take_succ_eq_append_getElem hk2]
    have hb : fam b cds (R.take k ++ [R[k]]) own (k + b) = .box ((flatG cds (R[k]).l).map .c ++ List.replicate (R[k]).j .non) := by
      have e : (R.take k ++ [R[k]]).length = k + 1 := by simp; omega
      rw [fam_at (by omega)]
      simp only [Row.ob]
      have : (R.take k ++ [R[k]])[k]'(by omega) = R[k] := by
        rw [List.getElem_append_right (by simp; omega)]; simp
      rw [this]; rfl
    refine WV_freezeJ (k + b) hb ?_
    rw [frzO_top (by simp; omega) (ho k (by omega))]
    refine ih _ _ (by omega) (fun i hi => ?_) ?_
    · rw [frzO_app, if_neg (by omega), ho i (by omega)]; rfl
    · simp only [frzEs, frzPs, List.getElem?_eq_getElem hk2] at h
      exact h
theorem frzEs_stay {env : Nat → AV} (h : ∀ n ds, b ≤ n → frzE n ds env = env) : ∀ k, frzEs b cds R k env = env
  | 0 => rfl
  | k + 1 => by simp only [frzEs]; rw [h _ _ (by omega)]; exact frzEs_stay h k
/-- One object refers to the rows. -/
theorem frzPs_refs {own : Nat → Ob} {t : Nat} {pre post : List AV} (hm : ∀ a, (cds a).length = sz) (ht : t < b) (h1 : ∀ n ds, b ≤ n → frzO n ds own = own) (h2 : ∀ n ds, b ≤ n → AV.frzL n ds post = post) :
    ∀ k, k ≤ R.length → frzPs b cds R k (upd own t (.box (refs b sz 0 (R.take k) ++ (datas cds sz (R.drop k) ++ post)))) = upd own t (.box (datas cds sz R ++ post))
  | 0, _ => by simp [frzPs, refs]
  | k + 1, hk => by
    have hk2 : k < R.length := by omega
    simp only [frzPs, List.getElem?_eq_getElem hk2]
    rw [frzO_upd, if_neg (by omega), h1 _ _ (by omega)]
    have e : (Ob.box (refs b sz 0 (R.take (k + 1)) ++ (datas cds sz (R.drop (k + 1)) ++ post))).frz (k + b) (flatG cds (R[k]).l) = .box (refs b sz 0 (R.take k) ++ (datas cds sz (R.drop k) ++ post)) := by
      simp only [Ob.frz]
      rw [List.take_succ_eq_append_getElem hk2, refs_snoc, frzL_append, frzL_append, frzL_append, h2 _ _ (by omega)]
      have e1 : AV.frzL (k + b) (flatG cds (R[k]).l) (refs b sz 0 (R.take k)) = refs b sz 0 (R.take k) := by
        have : ∀ (S : List (Row α)) (i : Nat), S.length + i ≤ k → AV.frzL (k + b) (flatG cds (R[k]).l) (refs b sz i S) = refs b sz i S := by
          intro S
          induction S with
          | nil => intro i _; rfl
          | cons r S ih => intro i hi; simp only [List.length_cons] at hi; simp only [refs, AV.frzL, AV.frz]; rw [if_neg (by omega), ih (i + 1) (by omega)]
        exact this _ 0 (by simp; omega)
      have e2 : AV.frzL (k + b) (flatG cds (R[k]).l) (datas cds sz (R.drop (k + 1))) = datas cds sz (R.drop (k + 1)) := by
        generalize R.drop (k + 1) = S
        induction S with
        | nil => rfl
        | cons r S ih => simp only [datas, List.map_cons, AV.frzL, AV.frz] at ih ⊢; rw [ih]
      have e3 : (R.take k).length + 0 + b = k + b := by simp; omega
      rw [e1, e2, e3]
      have e4 : AV.frzL (k + b) (flatG cds (R[k]).l) [.vw sz (k + b) 0 (R[k]).l.length (R[k]).cap] = [.c (.sl sz ((R[k]).l.map cds))] := by
        simp only [AV.frzL, AV.frz, if_true]
        rw [if_pos (by rw [flatG_len hm]; omega), List.drop_zero, grp_cellsG hm]
      have e5 : datas cds sz (R.drop k) = [.c (.sl sz ((R[k]).l.map cds))] ++ datas cds sz (R.drop (k + 1)) := by
        rw [List.drop_eq_getElem_cons hk2]; rfl
      rw [e4, e5]
      simp only [List.append_assoc]
    rw [e]
    exact frzPs_refs (pre := pre) hm ht h1 h2 k (by omega)
end
end Go.V
