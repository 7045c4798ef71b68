/-
  Contracts of the layer's functions, of the laws' helpers and of the law; conditions: as each theorem states.
-/
import Derived.Test.YtnmchaemhjnkgaaU4
set_option linter.unusedVariables false
set_option linter.unusedSimpArgs false
/-
  Two writers as one: plain.
-/
namespace Go.Proofs.Ytnmchaemhjnkgaa
open Go Go.V

def pick (a b : Int) (p : Part) : Int := if p.who = a ∨ p.who = b then p.pc else 0
/-- What two writers have together. -/
def bothOf (a b : Int) (ps : List Part) : Int := (ps.map (pick a b)).sum
def stays (a b : Int) (w : Nat) (p : Part) : Bool := (p.who == (w : Int)) && (((w : Int) != a) && ((w : Int) != b))
/-- The parts of one writer, when two have become one. -/
def joinH (a b : Int) (ps : List Part) (w : Nat) : List Part := if (w : Int) = a ∧ 0 < bothOf a b ps then [⟨a, bothOf a b ps⟩] else []
def joinB (a b : Int) (ps : List Part) (w : Nat) : List Part := joinH a b ps w ++ ps.filter (stays a b w)
def joinL (a b : Int) (ps : List Part) (k : Nat) : List Part := (List.range k).flatMap (joinB a b ps)
def joinSd (a b : Int) (n : Nat) (s : Side) : Side := ⟨s.plays, joinL a b s.parts n⟩
def joinR (r : Royal) (a b : Int) : Royal := ⟨r.pool, r.sides.map (joinSd a b r.n), r.owed⟩
theorem joinL_succ (a b : Int) (ps : List Part) (k : Nat) : joinL a b ps (k + 1) = joinL a b ps k ++ joinB a b ps k := by
  unfold joinL; rw [List.range_succ, List.flatMap_append]; simp

theorem partS_append (pl w : Int) (x y : List Part) : partS pl w (x ++ y) = partS pl w x + partS pl w y := by
  unfold partS; rw [List.map_append, List.sum_append]
theorem partS_none {pl w : Int} {l : List Part} (h : ∀ p ∈ l, p.who ≠ w) : partS pl w l = 0 := by
  unfold partS
  induction l with
  | nil => rfl
  | cons p l ih =>
    rw [List.map_cons, List.sum_cons, if_neg (h p (by simp)), ih fun q hq => h q (by simp [hq])]; rfl
theorem partS_filter {pl w : Int} {l : List Part} {f : Part → Bool} (h : ∀ p ∈ l, p.who = w → f p = true) : partS pl w (l.filter f) = partS pl w l := by
  induction l with
  | nil => rfl
  | cons p l ih =>
    have ih := ih fun q hq => h q (by simp [hq])
    unfold partS at ih ⊢
    by_cases e : p.who = w
    · rw [List.filter_cons_of_pos (h p (by simp) e), List.map_cons, List.map_cons, List.sum_cons, List.sum_cons, ih]
    · cases hf : f p with
      | true => rw [List.filter_cons_of_pos hf, List.map_cons, List.map_cons, List.sum_cons, List.sum_cons, ih]
      | false =>
        rw [List.filter_cons_of_neg (by simp [hf]), ih, List.map_cons, List.sum_cons, if_neg e]
        omega
theorem both_eq {a b : Int} (hab : a ≠ b) (ps : List Part) : bothOf a b ps = partS 1 a ps + partS 1 b ps := by
  unfold bothOf partS pick
  induction ps with
  | nil => rfl
  | cons p l ih =>
    simp only [List.map_cons, List.sum_cons, ih, Int.one_mul]
    by_cases h1 : p.who = a
    · have h2 : ¬ p.who = b := fun h => hab (by omega)
      rw [if_pos (.inl h1), if_pos h1, if_neg h2]; omega
    · by_cases h2 : p.who = b
      · rw [if_pos (.inr h2), if_neg h1, if_pos h2]; omega
      · rw [if_neg (by simp [h1, h2]), if_neg h1, if_neg h2]; omega
theorem both_nonneg {a b : Int} {ps : List Part} (h : ∀ p ∈ ps, 1 ≤ p.pc) : 0 ≤ bothOf a b ps ∧ bothOf a b ps ≤ (ps.map Part.pc).sum := by
  unfold bothOf pick
  induction ps with
  | nil => simp
  | cons p l ih =>
    have := h p (by simp)
    have := ih fun q hq => h q (by simp [hq])
    simp only [List.map_cons, List.sum_cons]
    split <;> omega
theorem partS_scale (pl w : Int) (ps : List Part) : partS pl w ps = pl * partS 1 w ps := by
  unfold partS
  induction ps with
  | nil => simp
  | cons p l ih =>
    simp only [List.map_cons, List.sum_cons, ih, Int.mul_add]
    split
    · rw [Int.one_mul]
    · omega
theorem joinB_who {a b : Int} {ps : List Part} {w : Nat} {p : Part} (h : p ∈ joinB a b ps w) : p.who = (w : Int) := by
  unfold joinB joinH at h
  rcases List.mem_append.1 h with h | h
  · split at h
    · rename_i e
      simp only [List.mem_singleton] at h
      subst h; exact e.1.symm
    · cases h
  · have := (List.mem_filter.1 h).2
    simp only [stays, Bool.and_eq_true, beq_iff_eq] at this
    exact this.1
/-- What a writer has behind the join. -/
def joinW (a b : Int) (f : Int → Int) (w : Int) : Int := if w = a then f a + f b else if w = b then 0 else f w
theorem joinB_part {a b : Int} (hab : a ≠ b) {ps : List Part} (hp : ∀ p ∈ ps, 1 ≤ p.pc) (pl : Int) (w : Nat) : partS pl w (joinB a b ps w) = joinW a b (fun x => partS pl x ps) w := by
  have hb := both_nonneg (a := a) (b := b) hp
  have he := both_eq hab ps
  unfold joinB joinW
  rw [partS_append]
  by_cases h1 : (w : Int) = a
  · have h3 : partS pl w (ps.filter (stays a b w)) = 0 := partS_none fun p hpm => by
      have := (List.mem_filter.1 hpm).2
      simp [stays, h1] at this
    have e2 : partS pl a ps + partS pl b ps = pl * bothOf a b ps := by rw [he, partS_scale pl a, partS_scale pl b, Int.mul_add]
    rw [if_pos h1, h3]
    show _ = partS pl a ps + partS pl b ps
    rw [e2]
    unfold joinH
    by_cases h4 : 0 < bothOf a b ps
    · rw [if_pos ⟨h1, h4⟩]
      simp [partS, h1]
    · rw [if_neg fun h => h4 h.2]
      have : bothOf a b ps = 0 := by omega
      rw [this]; simp [partS]
  · have h3 : joinH a b ps w = [] := by unfold joinH; rw [if_neg fun h => h1 h.1]
    rw [if_neg h1, h3]
    by_cases h2 : (w : Int) = b
    · have h4 : partS pl w (ps.filter (stays a b w)) = 0 := partS_none fun p hpm => by
        have := (List.mem_filter.1 hpm).2
        simp [stays, h2] at this
      rw [if_pos h2, h4]; simp [partS]
    · rw [if_neg h2, partS_filter fun p _ e => by simp [stays, h1, h2, e]]
      simp [partS]
theorem joinL_part {a b : Int} (hab : a ≠ b) {ps : List Part} (hp : ∀ p ∈ ps, 1 ≤ p.pc) (pl : Int) (w : Nat) : ∀ k : Nat, partS pl w (joinL a b ps k) = if w < k then joinW a b (fun x => partS pl x ps) w else 0
  | 0 => by simp [joinL, partS]
  | k + 1 => by
    rw [joinL_succ, partS_append, joinL_part hab hp pl w k]
    by_cases e : w = k
    · subst e
      rw [if_neg (by omega), if_pos (by omega), joinB_part hab hp]; omega
    · rw [partS_none (l := joinB a b ps k) fun p hpm h => e (by have := joinB_who hpm; omega)]
      by_cases h : w < k
      · rw [if_pos h, if_pos (by omega)]; omega
      · rw [if_neg h, if_neg (by omega)]; rfl
theorem joinL_mem {a b : Int} {ps : List Part} {k : Nat} {p : Part} (h : p ∈ joinL a b ps k) : ∃ w, w < k ∧ p ∈ joinB a b ps w := by
  obtain ⟨w, hw, hm⟩ := List.mem_flatMap.1 h
  exact ⟨w, List.mem_range.1 hw, hm⟩

/-! ### The parts of all writers are all parts -/
theorem range_one (f : Nat → Int) (w : Nat) (x : Int) : ∀ n : Nat, w < n → ((List.range n).map fun i => f i + if i = w then x else 0).sum = ((List.range n).map f).sum + x
  | 0, h => by omega
  | n + 1, h => by
    rw [List.range_succ, List.map_append, List.map_append, List.sum_append, List.sum_append]
    simp only [List.map_cons, List.map_nil, List.sum_cons, List.sum_nil]
    by_cases e : w = n
    · subst e
      have : ((List.range w).map fun i => f i + if i = w then x else 0) = (List.range w).map f := List.map_congr_left fun i hi => by
        rw [if_neg (by have := List.mem_range.1 hi; omega)]; omega
      rw [this, if_pos rfl]; omega
    · rw [range_one f w x n (by omega), if_neg (by omega)]; omega
theorem pc_sum {n : Nat} : ∀ {l : List Part}, (∀ p ∈ l, 0 ≤ p.who ∧ p.who < (n : Int)) → (l.map Part.pc).sum = ((List.range n).map fun w : Nat => partS 1 w l).sum
  | [], _ => by
    simp only [List.map_nil, List.sum_nil, partS]
    have : ∀ m : Nat, 0 = ((List.range m).map fun _ => (0 : Int)).sum := fun m => by
      induction m with
      | zero => rfl
      | succ m ih => rw [List.range_succ, List.map_append, List.sum_append, ← ih]; simp
    exact this n
  | p :: l, h => by
    have hp := h p (by simp)
    have ih := pc_sum (l := l) fun q hq => h q (by simp [hq])
    have := range_one (fun w : Nat => partS 1 w l) p.who.toNat p.pc n (by omega)
    rw [List.map_cons, List.sum_cons, ih]
    have e : ((List.range n).map fun w : Nat => partS 1 w (p :: l)) = (List.range n).map fun i : Nat => partS 1 i l + if i = p.who.toNat then p.pc else 0 := List.map_congr_left fun i _ => by
      unfold partS
      rw [List.map_cons, List.sum_cons]
      by_cases e : i = p.who.toNat
      · rw [if_pos e, if_pos (by omega)]; omega
      · rw [if_neg e, if_neg (by omega)]; omega
    rw [e, this]; omega
theorem joinW_sum {a b : Int} (hab : a ≠ b) (f : Int → Int) {n : Nat} (ha : 0 ≤ a ∧ a < (n : Int)) (hb : 0 ≤ b ∧ b < (n : Int)) : ((List.range n).map fun w : Nat => joinW a b f w).sum = ((List.range n).map fun w : Nat => f w).sum := by
  have e1 := range_one (fun w : Nat => f w + if w = a.toNat then f b else 0) b.toNat (- f b) n (by omega)
  have e2 := range_one (fun w : Nat => f w) a.toNat (f b) n (by omega)
  rw [e2] at e1
  have : ((List.range n).map fun w : Nat => joinW a b f w) = (List.range n).map fun i : Nat => (f i + if i = a.toNat then f b else 0) + if i = b.toNat then - f b else 0 := List.map_congr_left fun i _ => by
    unfold joinW
    by_cases h1 : (i : Int) = a
    · rw [if_pos h1, if_pos (by omega), if_neg (by omega), h1]; omega
    · rw [if_neg h1]
      by_cases h2 : (i : Int) = b
      · rw [if_pos h2, if_neg (by omega), if_pos (by omega), h2]; omega
      · rw [if_neg h2, if_neg (by omega), if_neg (by omega)]; omega
  rw [this, e1]; omega
theorem sharedB_mk (w : Int) : ∀ (l : List Part) (s last : Int), s + (l.map Part.pc).sum = 100 → (∀ p ∈ l, last < p.who ∧ p.who < w ∧ 1 ≤ p.pc ∧ p.pc ≤ 100) → l.Pairwise (fun a b => a.who < b.who) → sharedB w s last l = true
  | [], s, last, h, _, _ => by simp only [List.map_nil, List.sum_nil] at h; simp [sharedB]; omega
  | p :: l, s, last, h, hp, hs => by
    have h1 := hp p (by simp)
    have hs := List.pairwise_cons.1 hs
    have hb : partBad w last p = false := by
      simp only [partBad, within, Bool.or_eq_false_iff, decide_eq_false_iff_not, Bool.not_eq_false', Bool.and_eq_true, decide_eq_true_eq]
      omega
    simp only [List.map_cons, List.sum_cons] at h
    rw [sharedB, hb]
    exact sharedB_mk w l _ _ (by omega) (fun q hq => ⟨hs.1 q hq, (hp q (by simp [hq])).2⟩) hs.2

section
variable {r : Royal} {a b : Int}
theorem join_sum (hr : RoyalOk r) (hab : a ≠ b) (ha : 0 ≤ a ∧ a < (r.n : Int)) (hb : 0 ≤ b ∧ b < (r.n : Int)) {s : Side} (hs : s ∈ r.sides) : ((joinL a b s.parts r.n).map Part.pc).sum = 100 := by
  have hp : ∀ p ∈ s.parts, 1 ≤ p.pc := fun p hp => (hr.part s hs p hp).2.2.1
  rw [pc_sum (n := r.n) fun p hpm => by
    obtain ⟨w, hw, hm⟩ := joinL_mem hpm
    have := joinB_who hm
    omega]
  have e : ((List.range r.n).map fun w : Nat => partS 1 w (joinL a b s.parts r.n)) = (List.range r.n).map fun w : Nat => joinW a b (fun x => partS 1 x s.parts) w := List.map_congr_left fun w hw => by
    rw [joinL_part hab hp, if_pos (List.mem_range.1 hw)]
  rw [e, joinW_sum hab (fun x => partS 1 x s.parts) ha hb, ← pc_sum fun p hpm => ⟨(hr.part s hs p hpm).1, (hr.part s hs p hpm).2.1⟩]
  exact hr.sum s hs
theorem join_mem (hr : RoyalOk r) {s : Side} (hs : s ∈ r.sides) {p : Part} (h : p ∈ joinL a b s.parts r.n) : 0 ≤ p.who ∧ p.who < (r.n : Int) ∧ 1 ≤ p.pc ∧ p.pc ≤ 100 := by
  have hp : ∀ p ∈ s.parts, 1 ≤ p.pc := fun p hp => (hr.part s hs p hp).2.2.1
  have h1 := both_nonneg (a := a) (b := b) hp
  rw [hr.sum s hs] at h1
  obtain ⟨w, hw, hm⟩ := joinL_mem h
  have hwho := joinB_who hm
  have : 1 ≤ p.pc ∧ p.pc ≤ 100 := by
    unfold joinB joinH at hm
    rcases List.mem_append.1 hm with hm | hm
    · split at hm
      · rename_i e
        simp only [List.mem_singleton] at hm
        subst hm
        simp only
        omega
      · cases hm
    · exact (hr.part s hs p (List.mem_filter.1 hm).1).2.2
  omega
theorem join_asc (hr : RoyalOk r) {s : Side} (hs : s ∈ r.sides) : ∀ k, (joinL a b s.parts k).Pairwise fun x y => x.who < y.who
  | 0 => List.Pairwise.nil
  | k + 1 => by
    rw [joinL_succ]
    refine List.pairwise_append.2 ⟨join_asc hr hs k, ?_, fun x hx y hy => ?_⟩
    · unfold joinB
      refine List.pairwise_append.2 ⟨?_, (hr.asc s hs).sublist List.filter_sublist, fun x hx y hy => ?_⟩
      · unfold joinH; split <;> simp
      · exfalso
        unfold joinH at hx
        split at hx
        · rename_i e
          have := (List.mem_filter.1 hy).2
          simp [stays, e.1] at this
        · cases hx
    · obtain ⟨w, hw, hm⟩ := joinL_mem hx
      have := joinB_who hm
      have := joinB_who hy
      omega
theorem join_ok (h : r.ok = true) (hab : a ≠ b) (ha : 0 ≤ a ∧ a < (r.n : Int)) (hb : 0 ≤ b ∧ b < (r.n : Int)) : (joinR r a b).ok = true := by
  have hr := Royal.ok_spec h
  show (within r.pool 0 9999 && decide (r.owed.length ≤ 6) && decide ((r.sides.map (joinSd a b r.n)).length ≤ 6) && r.owed.all (fun n => within n 0 9999) && (r.sides.map (joinSd a b r.n)).all (okSide r.owed.length)) = true
  simp only [Royal.ok, Bool.and_eq_true, decide_eq_true_eq, List.all_eq_true, List.length_map] at h ⊢
  refine ⟨⟨⟨⟨h.1.1.1.1, h.1.1.1.2⟩, h.1.1.2⟩, h.1.2⟩, fun x hx => ?_⟩
  obtain ⟨s, hs, rfl⟩ := List.mem_map.1 hx
  have h1 := h.2 s hs
  simp only [okSide, Bool.and_eq_true] at h1 ⊢
  refine ⟨h1.1, sharedB_mk _ _ _ _ ?_ (fun p hp => ?_) (join_asc hr hs _)⟩
  · have := join_sum hr hab ha hb hs
    show (0 : Int) + ((joinL a b s.parts r.n).map Part.pc).sum = 100
    omega
  · have := join_mem hr hs hp
    have hn : (r.owed.length : Int) = (r.n : Int) := rfl
    omega
theorem allW_join : allW (joinR r a b) = allW r := by
  unfold allW joinR
  simp only [List.map_map]
  rfl
theorem join_n : (joinR r a b).n = r.n := rfl
theorem wts_join (hr : RoyalOk r) (ho : RoyalOk (joinR r a b)) (hab : a ≠ b) {w : Nat} (hw : w < r.n) (ha : 0 ≤ a) (hb : 0 ≤ b) : (wts (joinR r a b)).getD w 0 = joinW a b (fun x => (wts r).getD x.toNat 0) w := by
  rw [wts_get ho]
  have e1 : ((joinR r a b).sides.map fun s => partS s.plays w s.parts) = r.sides.map fun s => joinW a b (fun x => partS s.plays x s.parts) w := by
    unfold joinR
    simp only [List.map_map]
    exact List.map_congr_left fun s hs => by
      simp only [Function.comp, joinSd]
      rw [joinL_part hab (fun p hp => (hr.part s hs p hp).2.2.1), if_pos hw]
  rw [e1]
  obtain ⟨a, rfl⟩ := Int.eq_ofNat_of_zero_le ha
  obtain ⟨b, rfl⟩ := Int.eq_ofNat_of_zero_le hb
  unfold joinW
  by_cases h1 : (w : Int) = (a : Int)
  · simp only [if_pos h1, Int.toNat_natCast]
    rw [wts_get hr, wts_get hr]
    induction r.sides with
    | nil => rfl
    | cons s l ih => simp only [List.map_cons, List.sum_cons, ih]; omega
  · by_cases h2 : (w : Int) = (b : Int)
    · simp only [if_neg h1, if_pos h2]
      induction r.sides with
      | nil => rfl
      | cons s l ih => simp only [List.map_cons, List.sum_cons, ih]; rfl
    · simp only [if_neg h1, if_neg h2, Int.toNat_natCast]
      rw [wts_get hr]
end
end Go.Proofs.Ytnmchaemhjnkgaa

namespace Go.Proofs.Ytnmchaemhjnkgaa
open Go Go.V
@[reducible] def o20_0 : List Ins := [⟨(some 3), .box 3 (.t 0), none, true⟩,
  ⟨(some 6), .alloc [(.c (.int .i64 0)), (.c (.raw (.slice none 0 0))), (.c (.raw (.slice none 0 0)))], none, true⟩]
@[reducible] def o20_1 : List Ins := [⟨(some 16), .ld false 3 (.t 3), none, true⟩,
  ⟨(some 17), .call (.k (.fn 24 [])) [(.t 16)], none, true⟩,
  ⟨(some 7), .alloc [(.c (.int .i64 0)), (.c (.raw (.slice none 0 0))), (.c (.raw (.slice none 0 0)))], none, true⟩,
  ⟨none, .st 3 (.t 7) (.t 17), none, true⟩]
@[reducible] def o20_2 : List Ins := [⟨(some 8), .mv (.k (.c (.int .i64 0))), none, true⟩]
@[reducible] def o20_3 : List Ins := [⟨(some 18), .mv (.t 8), none, true⟩,
  ⟨(some 19), .fa 1 (.t 7), none, true⟩,
  ⟨(some 20), .ld true 1 (.t 19), none, true⟩,
  ⟨(some 21), .len (.t 20), none, true⟩,
  ⟨(some 22), .bin .lss (.t 18) (.t 21), none, true⟩]
@[reducible] def v20_4 : VC := (.cond (.t 22) .skip (.exit 0))
@[reducible] def o20_5 : List Ins := [⟨(some 9), .mv (.k (.c (.int .i64 0))), none, true⟩]
@[reducible] def o20_6 : List Ins := [⟨(some 10), .mv (.k (.c (.int .i64 0))), none, true⟩]
@[reducible] def o20_7 : List Ins := [⟨(some 25), .mv (.t 10), none, true⟩,
  ⟨(some 26), .fa 1 (.t 3), none, true⟩,
  ⟨(some 27), .ld true 1 (.t 26), none, true⟩,
  ⟨(some 28), .mv (.t 8), none, true⟩,
  ⟨(some 29), .ia 2 (.t 27) (.t 28), none, true⟩,
  ⟨(some 30), .fa 1 (.t 29), none, true⟩,
  ⟨(some 31), .ld true 1 (.t 30), none, true⟩,
  ⟨(some 32), .len (.t 31), none, true⟩,
  ⟨(some 33), .bin .lss (.t 25) (.t 32), none, true⟩]
@[reducible] def v20_8 : VC := (.cond (.t 33) .skip (.exit 2))
@[reducible] def o20_9 : List Ins := [⟨(some 36), .fa 1 (.t 3), none, true⟩,
  ⟨(some 37), .ld true 1 (.t 36), none, true⟩,
  ⟨(some 38), .mv (.t 8), none, true⟩,
  ⟨(some 39), .ia 2 (.t 37) (.t 38), none, true⟩,
  ⟨(some 40), .fa 1 (.t 39), none, true⟩,
  ⟨(some 41), .ld true 1 (.t 40), none, true⟩,
  ⟨(some 42), .mv (.t 10), none, true⟩,
  ⟨(some 43), .ia 2 (.t 41) (.t 42), none, true⟩,
  ⟨(some 44), .ld false 2 (.t 43), none, true⟩,
  ⟨(some 11), .alloc [(.c (.int .i64 0)), (.c (.int .i64 0))], none, true⟩,
  ⟨none, .st 2 (.t 11) (.t 44), none, true⟩]
@[reducible] def o20_10 : List Ins := [⟨(some 45), .fa 0 (.t 11), none, true⟩,
  ⟨(some 46), .ld true 1 (.t 45), none, true⟩,
  ⟨(some 47), .mv (.t 1), none, true⟩,
  ⟨(some 48), .bin .eql (.t 46) (.t 47), none, true⟩,
  ⟨(some 49), .mv (.t 48), none, true⟩,
  ⟨(some 50), .fa 0 (.t 11), (some (49, false)), true⟩,
  ⟨(some 51), .ld true 1 (.t 50), (some (49, false)), true⟩,
  ⟨(some 52), .mv (.t 2), (some (49, false)), true⟩,
  ⟨(some 53), .bin .eql (.t 51) (.t 52), (some (49, false)), true⟩,
  ⟨(some 54), .pick (.t 49) (.k (.c (.bool true))) (.t 53), none, true⟩]
@[reducible] def o20_11 : List Ins := [⟨(some 55), .mv (.t 9), none, true⟩,
  ⟨(some 56), .fa 1 (.t 11), none, true⟩,
  ⟨(some 57), .ld true 1 (.t 56), none, true⟩,
  ⟨(some 58), .bin .add (.t 55) (.t 57), none, true⟩,
  ⟨(some 9), .mv (.t 58), none, true⟩]
@[reducible] def v20_12 : VC := (.cond (.t 54) (.ops o20_11) .skip)
@[reducible] def v20_13 : VC := (.seq (.ops o20_10) v20_12)
@[reducible] def v20_14 : VC := (.seq (.ops o20_9) v20_13)
@[reducible] def o20_15 : List Ins := [⟨(some 34), .mv (.t 10), none, true⟩,
  ⟨(some 35), .bin .add (.t 34) (.k (.c (.int .i64 1))), none, true⟩,
  ⟨(some 10), .mv (.t 35), none, true⟩]
@[reducible] def v20_16 : VC := (.seq (.block 3 v20_14) (.ops o20_15))
@[reducible] def v20_17 : VC := (.seq (.seq (.ops o20_7) v20_8) v20_16)
-- K20_2: changed and kept: [10, 9]
@[reducible] def K20_2 : List Nat := [1, 2, 3, 6, 7, 8]
@[reducible] def v20_18 : VC := (.loop v20_17)
@[reducible] def v20_19 : VC := (.block 2 v20_18)
@[reducible] def o20_20 : List Ins := [⟨(some 12), .mv (.k (.c (.raw (.slice none 0 0)))), none, true⟩]
@[reducible] def o20_21 : List Ins := [⟨(some 13), .mv (.k (.c (.int .i64 0))), none, true⟩]
@[reducible] def o20_22 : List Ins := [⟨(some 59), .mv (.t 13), none, true⟩,
  ⟨(some 60), .fa 2 (.t 3), none, true⟩,
  ⟨(some 61), .ld true 1 (.t 60), none, true⟩,
  ⟨(some 62), .len (.t 61), none, true⟩,
  ⟨(some 63), .bin .lss (.t 59) (.t 62), none, true⟩]
@[reducible] def v20_23 : VC := (.cond (.t 63) .skip (.exit 4))
@[reducible] def o20_24 : List Ins := [⟨(some 66), .mv (.t 13), none, true⟩,
  ⟨(some 67), .mv (.t 1), none, true⟩,
  ⟨(some 68), .bin .eql (.t 66) (.t 67), none, true⟩,
  ⟨(some 69), .mv (.t 68), none, true⟩,
  ⟨(some 70), .mv (.t 9), (some (69, true)), true⟩,
  ⟨(some 71), .bin .gtr (.t 70) (.k (.c (.int .i64 0))), (some (69, true)), true⟩,
  ⟨(some 72), .pick (.t 69) (.t 71) (.k (.c (.bool false))), none, true⟩]
@[reducible] def o20_25 : List Ins := [⟨(some 73), .mv (.t 12), none, true⟩,
  ⟨(some 74), .mv (.t 1), none, true⟩,
  ⟨(some 75), .mv (.t 9), none, true⟩,
  ⟨(some 76), .bld [(.c (.int .i64 0)), (.c (.int .i64 0))] [(0, 1, (.t 74)), (1, 1, (.t 75))], none, true⟩,
  ⟨(some 77), .bsl 47 2 [(.t 76)], none, true⟩,
  ⟨(some 78), .app 47 2 16 (.t 73) (.t 77), none, true⟩,
  ⟨(some 12), .mv (.t 78), none, true⟩]
@[reducible] def v20_26 : VC := (.cond (.t 72) (.ops o20_25) .skip)
@[reducible] def o20_27 : List Ins := [⟨(some 14), .mv (.k (.c (.int .i64 0))), none, true⟩]
@[reducible] def o20_28 : List Ins := [⟨(some 79), .mv (.t 14), none, true⟩,
  ⟨(some 80), .fa 1 (.t 3), none, true⟩,
  ⟨(some 81), .ld true 1 (.t 80), none, true⟩,
  ⟨(some 82), .mv (.t 8), none, true⟩,
  ⟨(some 83), .ia 2 (.t 81) (.t 82), none, true⟩,
  ⟨(some 84), .fa 1 (.t 83), none, true⟩,
  ⟨(some 85), .ld true 1 (.t 84), none, true⟩,
  ⟨(some 86), .len (.t 85), none, true⟩,
  ⟨(some 87), .bin .lss (.t 79) (.t 86), none, true⟩]
@[reducible] def v20_29 : VC := (.cond (.t 87) .skip (.exit 6))
@[reducible] def o20_30 : List Ins := [⟨(some 90), .fa 1 (.t 3), none, true⟩,
  ⟨(some 91), .ld true 1 (.t 90), none, true⟩,
  ⟨(some 92), .mv (.t 8), none, true⟩,
  ⟨(some 93), .ia 2 (.t 91) (.t 92), none, true⟩,
  ⟨(some 94), .fa 1 (.t 93), none, true⟩,
  ⟨(some 95), .ld true 1 (.t 94), none, true⟩,
  ⟨(some 96), .mv (.t 14), none, true⟩,
  ⟨(some 97), .ia 2 (.t 95) (.t 96), none, true⟩,
  ⟨(some 98), .ld false 2 (.t 97), none, true⟩,
  ⟨(some 15), .alloc [(.c (.int .i64 0)), (.c (.int .i64 0))], none, true⟩,
  ⟨none, .st 2 (.t 15) (.t 98), none, true⟩]
@[reducible] def o20_31 : List Ins := [⟨(some 99), .fa 0 (.t 15), none, true⟩,
  ⟨(some 100), .ld true 1 (.t 99), none, true⟩,
  ⟨(some 101), .mv (.t 13), none, true⟩,
  ⟨(some 102), .bin .eql (.t 100) (.t 101), none, true⟩,
  ⟨(some 103), .mv (.t 102), none, true⟩,
  ⟨(some 104), .mv (.t 13), (some (103, true)), true⟩,
  ⟨(some 105), .mv (.t 1), (some (103, true)), true⟩,
  ⟨(some 106), .bin .neq (.t 104) (.t 105), (some (103, true)), true⟩,
  ⟨(some 107), .pick (.t 103) (.t 106) (.k (.c (.bool false))), none, true⟩,
  ⟨(some 108), .mv (.t 107), none, true⟩,
  ⟨(some 109), .mv (.t 13), (some (108, true)), true⟩,
  ⟨(some 110), .mv (.t 2), (some (108, true)), true⟩,
  ⟨(some 111), .bin .neq (.t 109) (.t 110), (some (108, true)), true⟩,
  ⟨(some 112), .pick (.t 108) (.t 111) (.k (.c (.bool false))), none, true⟩]
@[reducible] def o20_32 : List Ins := [⟨(some 113), .mv (.t 12), none, true⟩,
  ⟨(some 114), .ld false 2 (.t 15), none, true⟩,
  ⟨(some 115), .bsl 47 2 [(.t 114)], none, true⟩,
  ⟨(some 116), .app 47 2 16 (.t 113) (.t 115), none, true⟩,
  ⟨(some 12), .mv (.t 116), none, true⟩]
@[reducible] def v20_33 : VC := (.cond (.t 112) (.ops o20_32) .skip)
@[reducible] def v20_34 : VC := (.seq (.ops o20_31) v20_33)
@[reducible] def v20_35 : VC := (.seq (.ops o20_30) v20_34)
@[reducible] def o20_36 : List Ins := [⟨(some 88), .mv (.t 14), none, true⟩,
  ⟨(some 89), .bin .add (.t 88) (.k (.c (.int .i64 1))), none, true⟩,
  ⟨(some 14), .mv (.t 89), none, true⟩]
@[reducible] def v20_37 : VC := (.seq (.block 7 v20_35) (.ops o20_36))
@[reducible] def v20_38 : VC := (.seq (.seq (.ops o20_28) v20_29) v20_37)
-- K20_4: changed and kept: [14, 12]
@[reducible] def K20_4 : List Nat := [1, 2, 3, 6, 7, 8, 9, 13]
@[reducible] def v20_39 : VC := (.loop v20_38)
@[reducible] def v20_40 : VC := (.block 6 v20_39)
@[reducible] def v20_41 : VC := (.seq (.ops o20_27) v20_40)
@[reducible] def v20_42 : VC := (.seq (.seq (.ops o20_24) v20_26) v20_41)
@[reducible] def o20_43 : List Ins := [⟨(some 64), .mv (.t 13), none, true⟩,
  ⟨(some 65), .bin .add (.t 64) (.k (.c (.int .i64 1))), none, true⟩,
  ⟨(some 13), .mv (.t 65), none, true⟩]
@[reducible] def v20_44 : VC := (.seq (.block 5 v20_42) (.ops o20_43))
@[reducible] def v20_45 : VC := (.seq (.seq (.ops o20_22) v20_23) v20_44)
-- K20_3: changed and kept: [13, 12]
@[reducible] def K20_3 : List Nat := [1, 2, 3, 6, 7, 8, 9]
@[reducible] def v20_46 : VC := (.loop v20_45)
@[reducible] def v20_47 : VC := (.block 4 v20_46)
@[reducible] def o20_48 : List Ins := [⟨(some 117), .fa 1 (.t 7), none, true⟩,
  ⟨(some 118), .ld true 1 (.t 117), none, true⟩,
  ⟨(some 119), .mv (.t 8), none, true⟩,
  ⟨(some 120), .mv (.t 12), none, true⟩,
  ⟨(some 121), .ia 2 (.t 118) (.t 119), none, true⟩,
  ⟨(some 122), .fa 1 (.t 121), none, true⟩,
  ⟨none, .st 1 (.t 122) (.t 120), none, true⟩]
@[reducible] def v20_49 : VC := (.seq (.seq (.ops o20_21) v20_47) (.ops o20_48))
@[reducible] def v20_50 : VC := (.seq (.ops o20_20) v20_49)
@[reducible] def v20_51 : VC := (.seq (.seq (.ops o20_6) v20_19) v20_50)
@[reducible] def v20_52 : VC := (.seq (.ops o20_5) v20_51)
@[reducible] def o20_53 : List Ins := [⟨(some 23), .mv (.t 8), none, true⟩,
  ⟨(some 24), .bin .add (.t 23) (.k (.c (.int .i64 1))), none, true⟩,
  ⟨(some 8), .mv (.t 24), none, true⟩]
@[reducible] def v20_54 : VC := (.seq (.block 1 v20_52) (.ops o20_53))
@[reducible] def v20_55 : VC := (.seq (.seq (.ops o20_3) v20_4) v20_54)
-- K20_1: changed and kept: [8]
@[reducible] def K20_1 : List Nat := [1, 2, 3, 6, 7]
@[reducible] def v20_56 : VC := (.loop v20_55)
@[reducible] def v20_57 : VC := (.block 0 v20_56)
@[reducible] def o20_58 : List Ins := [⟨(some 123), .ld false 3 (.t 7), none, true⟩,
  ⟨none, .st 3 (.t 6) (.t 123), none, true⟩]
@[reducible] def v20_59 : VC := (.seq (.ops o20_58) .ret)
@[reducible] def v20_60 : VC := (.seq (.seq (.ops o20_2) v20_57) v20_59)
@[reducible] def v20_61 : VC := (.seq (.ops o20_1) v20_60)
def ir20 : FC := ⟨3, 124, [.cell 6 false 3], (.seq (.ops o20_0) v20_61)⟩
theorem c20 : compM Try.prog [] 20 = some ir20 := by kernel_rfl



theorem both_succ {a b : Int} {ps : List Part} {j : Nat} (h : j < ps.length) : bothOf a b (ps.take (j + 1)) = bothOf a b (ps.take j) + pick a b ps[j] := by
  unfold bothOf
  rw [List.take_succ_eq_append_getElem h, List.map_append, List.sum_append]
  simp
theorem both_bd {a b : Int} : ∀ (ps : List Part), (∀ p ∈ ps, 1 ≤ p.pc ∧ p.pc ≤ 100) → 0 ≤ bothOf a b ps ∧ bothOf a b ps ≤ 100 * (ps.length : Int)
  | [], _ => by simp [bothOf]
  | p :: ps, h => by
    have ih := both_bd (a := a) (b := b) ps fun q hq => h q (by simp [hq])
    have := h p (by simp)
    unfold bothOf pick at *
    simp only [List.map_cons, List.sum_cons, List.length_cons]
    split <;> omega
theorem filter_take {α : Type} (f : α → Bool) {l : List α} {j : Nat} (h : j < l.length) : (l.take (j + 1)).filter f = (l.take j).filter f ++ if f l[j] then [l[j]] else [] := by
  rw [List.take_succ_eq_append_getElem h, List.filter_append]
  congr 1
  cases hf : f l[j] <;> simp [hf]

def stL (L : List Part) (a b : Int) (w : Nat) (ps : List Part) (j : Nat) : List Part := L ++ (ps.take j).filter (stays a b w)
theorem stL_zero (L : List Part) (a b : Int) (w : Nat) (ps : List Part) : stL L a b w ps 0 = L := by simp [stL]
theorem stL_all (L : List Part) (a b : Int) (w : Nat) (ps : List Part) : stL L a b w ps ps.length = L ++ ps.filter (stays a b w) := by simp [stL]
theorem stL_len (L : List Part) (a b : Int) (w : Nat) (ps : List Part) (j : Nat) : (stL L a b w ps j).length ≤ L.length + ps.length := by
  unfold stL
  have h1 := List.length_filter_le (stays a b w) (ps.take j)
  have h2 : (ps.take j).length ≤ ps.length := by rw [List.length_take]; omega
  rw [List.length_append]; omega
theorem stL_succ (L : List Part) (a b : Int) (w : Nat) {ps : List Part} {j : Nat} (h : j < ps.length) : stL L a b w ps (j + 1) = stL L a b w ps j ++ if stays a b w ps[j] then [ps[j]] else [] := by
  unfold stL; rw [filter_take (stays a b w) h, List.append_assoc]
theorem joinL_len (a b : Int) (ps : List Part) : ∀ k, (joinL a b ps k).length ≤ k * (ps.length + 1)
  | 0 => by simp [joinL]
  | k + 1 => by
    have ih := joinL_len a b ps k
    have h1 : (joinB a b ps k).length ≤ ps.length + 1 := by
      unfold joinB joinH
      have := List.length_filter_le (stays a b k) ps
      rw [List.length_append]
      split
      · simp only [List.length_cons, List.length_nil]; omega
      · simp only [List.length_nil]; omega
    rw [joinL_succ, List.length_append, Nat.add_mul]
    omega

set_option maxRecDepth 20000 in
set_option maxHeartbeats 16000000 in
theorem joined20 {r : Royal} (hr : RoyalOk r) (a b : Int) : FSpec Try.prog 20 [r.av, iv a, iv b] (joinR r a b).av := by
  have hnear := near_of (Royal.near hr)
  have hs6 := hr.s6
  have hn6 := hr.n6
  have hmax : maxLen = 9223372036854775807 := rfl
  have hnl : r.owed.length = r.n := rfl
  refine FSpec_of c20 (Nat.le_refl _) (by decide) fun C hP hN hC hL => ?_
  simp only [ir20, Royal.av]
  (repeat ((first | refine WV_seq_ ?_ | refine WV_block ?_ | refine WV_ops ?_ | refine WV_skip ?_ | refine WV_exit ?_); (try simp only [go_sem, init_env', Nat.reduceEqDiff, Nat.reduceAdd, Nat.reduceMul, reduceIte, Nat.reduceLeDiff, Nat.reduceLT, Nat.reduceBEq, reduceCtorEq, hP, ]); (repeat (refine And.intro (by first | omega | (intros; simp_all; done) | (intros; simp_all; omega)) ?_))))
  by_cases hne : r.sides = []
  · (refine AS_pure (copy24 r hnear) rfl rfl rfl rfl rfl ?_; simp only [go_sem, init_env', Nat.reduceEqDiff, Nat.reduceAdd, Nat.reduceMul, reduceIte, Nat.reduceLeDiff, Nat.reduceLT, Nat.reduceBEq, reduceCtorEq, hP, Royal.av]; (repeat (refine And.intro (by first | omega | (intros; simp_all; done) | (intros; simp_all; omega)) ?_)); (repeat ((first | refine WV_seq_ ?_ | refine WV_block ?_ | refine WV_ops ?_ | refine WV_skip ?_ | refine WV_exit ?_); (try simp only [go_sem, init_env', Nat.reduceEqDiff, Nat.reduceAdd, Nat.reduceMul, reduceIte, Nat.reduceLeDiff, Nat.reduceLT, Nat.reduceBEq, reduceCtorEq, hP, Royal.av]); (repeat (refine And.intro (by first | omega | (intros; simp_all; done) | (intros; simp_all; omega)) ?_)))))
    refine WV_loopK K20_1 [] (fun k : Nat => k = 0) (fun k => 0) (fun k => [(8, iv 0)]) (fun _ => []) 0 rfl ?_ ?_
    · (refine Sub_of (by simp only [go_sem, init_env', Nat.reduceEqDiff, Nat.reduceAdd, Nat.reduceMul, reduceIte, Nat.reduceLeDiff, Nat.reduceLT, Nat.reduceBEq, reduceCtorEq]; ((repeat' (first | exact EnvLe_e0 _ _ | refine EnvLe_upd ?_ ?_)) <;> ((try simp only [upd_app, e0_app, o0_app, Nat.reduceEqDiff, reduceIte]); first | exact AWk.refl _ _ | exact AWk.int (by omega) | exact AWk.int (by rw [w64 (by omega) (by omega)]; omega) | exact AWk.grow rfl | exact AWk.nil _ | exact AWk.of (by simp)))) (by simp only [go_sem, init_env', Nat.reduceEqDiff, Nat.reduceAdd, Nat.reduceMul, reduceIte, Nat.reduceLeDiff, Nat.reduceLT, Nat.reduceBEq, reduceCtorEq]; ((repeat' (first | exact ObjLe_o0 _ | exact ObjLe.rfl' _ | refine ObjLe_same ?_ | refine ObjLe_upd ?_ ?_ | refine ObjLe_new rfl ?_)) <;> rfl)))
    · rintro k rfl
      simp only [go_sem, init_env', Nat.reduceEqDiff, Nat.reduceAdd, Nat.reduceMul, reduceIte, Nat.reduceLeDiff, Nat.reduceLT, Nat.reduceBEq, reduceCtorEq]
      (repeat ((first | refine WV_seq_ ?_ | refine WV_block ?_ | refine WV_ops ?_ | refine WV_skip ?_ | refine WV_exit ?_); (try simp only [go_sem, init_env', Nat.reduceEqDiff, Nat.reduceAdd, Nat.reduceMul, reduceIte, Nat.reduceLeDiff, Nat.reduceLT, Nat.reduceBEq, reduceCtorEq, hP, sidesC, hne, List.length_nil, List.map_nil, Int.natCast_zero]); (repeat (refine And.intro (by first | omega | (intros; simp_all; done) | (intros; simp_all; omega)) ?_))))
      (refine WV_cond rfl (fun h => ?_) (fun h => ?_))
      · simp at h
      · (repeat ((first | refine WV_seq_ ?_ | refine WV_block ?_ | refine WV_ops ?_ | refine WV_skip ?_ | refine WV_exit ?_); (try simp only [go_sem, init_env', Nat.reduceEqDiff, Nat.reduceAdd, Nat.reduceMul, reduceIte, Nat.reduceLeDiff, Nat.reduceLT, Nat.reduceBEq, reduceCtorEq, hP, ]); (repeat (refine And.intro (by first | omega | (intros; simp_all; done) | (intros; simp_all; omega)) ?_))))
        (refine WV_ret ?_; simp only [thenQ, inQ, RetQ, RetOk, resAll, resA]; simp only [go_sem, init_env', Nat.reduceEqDiff, Nat.reduceAdd, Nat.reduceMul, reduceIte, Nat.reduceLeDiff, Nat.reduceLT, Nat.reduceBEq, reduceCtorEq, tupA, AV.port, AV.portL, exists_eq_left', ]; (first | exact AVle.of rfl | refine AVle.of ?_ | skip))
        simp [joinR, hne, sidesC]
  refine AS_new (copyN r hnear hne) rfl rfl rfl rfl ?_
  rintro res os ⟨cap, J, h1, h2, h3, rfl, rfl⟩
  refine ⟨[900], .agg [iv r.pool, .vw 2 900 0 r.sides.length cap, .c (ints r.owed)], [.box (cellsG Side.cds r.sides J)], by decide, rfl, by simp only [go_sem, init_env', Nat.reduceEqDiff, Nat.reduceAdd, Nat.reduceMul, reduceIte, Nat.reduceLeDiff, Nat.reduceLT, Nat.reduceBEq, reduceCtorEq, decide_true], rfl, ?_, ?_⟩
  · simp only [obsBack, Ob.back, back_cellsG]; rfl
  simp only [go_sem, init_env', Nat.reduceEqDiff, Nat.reduceAdd, Nat.reduceMul, reduceIte, Nat.reduceLeDiff, Nat.reduceLT, Nat.reduceBEq, reduceCtorEq, hP, ownBack]
  (repeat (refine And.intro (by first | omega | (intros; simp_all; done) | (intros; simp_all; omega)) ?_))
  (repeat ((first | refine WV_seq_ ?_ | refine WV_block ?_ | refine WV_ops ?_ | refine WV_skip ?_ | refine WV_exit ?_); (try simp only [go_sem, init_env', Nat.reduceEqDiff, Nat.reduceAdd, Nat.reduceMul, reduceIte, Nat.reduceLeDiff, Nat.reduceLT, Nat.reduceBEq, reduceCtorEq, hP, ]); (repeat (refine And.intro (by first | omega | (intros; simp_all; done) | (intros; simp_all; omega)) ?_))))
  refine WV_loopK K20_1 [900, 7, 11, 15, 77, 78, 90, 115, 116] (fun k : Nat => k ≤ r.sides.length) (fun k => r.sides.length - k) (fun k => [(8, iv k)]) (fun k => [(7, .box [iv r.pool, .vw 2 900 0 r.sides.length cap, .c (ints r.owed)]), (900, .box (cellsG Side.cds (mapK (joinSd a b r.n) r.sides k) J))]) 0 (Nat.zero_le _) ?_ ?_
  · rw [mapK_zero]
    (refine Sub_of (by simp only [go_sem, init_env', Nat.reduceEqDiff, Nat.reduceAdd, Nat.reduceMul, reduceIte, Nat.reduceLeDiff, Nat.reduceLT, Nat.reduceBEq, reduceCtorEq]; ((repeat' (first | exact EnvLe_e0 _ _ | refine EnvLe_upd ?_ ?_)) <;> ((try simp only [upd_app, e0_app, o0_app, Nat.reduceEqDiff, reduceIte]); first | exact AWk.refl _ _ | exact AWk.int (by omega) | exact AWk.int (by rw [w64 (by omega) (by omega)]; omega) | exact AWk.grow rfl | exact AWk.nil _ | exact AWk.of (by simp)))) (by simp only [go_sem, init_env', Nat.reduceEqDiff, Nat.reduceAdd, Nat.reduceMul, reduceIte, Nat.reduceLeDiff, Nat.reduceLT, Nat.reduceBEq, reduceCtorEq]; ((repeat' (first | exact ObjLe_o0 _ | exact ObjLe.rfl' _ | refine ObjLe_same ?_ | refine ObjLe_upd ?_ ?_ | refine ObjLe_new rfl ?_)) <;> rfl)))
  · intro k hk
    have hml := mapK_len (joinSd a b r.n) r.sides k
    simp only [go_sem, init_env', Nat.reduceEqDiff, Nat.reduceAdd, Nat.reduceMul, reduceIte, Nat.reduceLeDiff, Nat.reduceLT, Nat.reduceBEq, reduceCtorEq]
    (repeat ((first | refine WV_seq_ ?_ | refine WV_block ?_ | refine WV_ops ?_ | refine WV_skip ?_ | refine WV_exit ?_); (try simp only [go_sem, init_env', Nat.reduceEqDiff, Nat.reduceAdd, Nat.reduceMul, reduceIte, Nat.reduceLeDiff, Nat.reduceLT, Nat.reduceBEq, reduceCtorEq, hP, ]); (repeat (refine And.intro (by first | omega | (intros; simp_all; done) | (intros; simp_all; omega)) ?_))))
    (refine WV_cond rfl (fun h => ?_) (fun h => ?_))
    · have hkl : k < r.sides.length := by simpa using h
      have hI : (k : Int) < (r.sides.length : Int) := by omega
      have hlk : k < (mapK (joinSd a b r.n) r.sides k).length := by omega
      have e2 := mapK_get (g := joinSd a b r.n) hkl hlk
      have hm := List.getElem_mem hkl
      have hpt := fun p hp => (hr.part _ hm p hp).2.2
      have hp6 := hr.p6 _ hm
      have hw2 := w64 (n := (k : Int) + 1) (by omega) (by omega)
      have egd : (r.sides.map Side.cds).getD k [] = [.int .i64 r.sides[k].plays, .sl 2 (r.sides[k].parts.map Part.cds)] := map_getD hkl
      have hcl : k * 2 + 1 < (cellsG Side.cds (mapK (joinSd a b r.n) r.sides k) J).length := by rw [cellsG_len side_two, hml]; omega
      have hcl2 : k * 2 + 1 + 1 ≤ (cellsG Side.cds (mapK (joinSd a b r.n) r.sides k) J).length := hcl
      have hs0 : (cellsG Side.cds (mapK (joinSd a b r.n) r.sides k) J).set (k * 2 + 1) (.c (partsC (joinL a b r.sides[k].parts r.n))) = cellsG Side.cds (mapK (joinSd a b r.n) r.sides (k + 1)) J := by
        have := cellsG_set side_two hlk J 1 (by decide) (partsC (joinL a b r.sides[k].parts r.n)) (joinSd a b r.n r.sides[k]) (by rw [e2]; rfl)
        rwa [mapK_set hkl] at this
      generalize mapK (joinSd a b r.n) r.sides k = SK at *
      generalize hSK1 : mapK (joinSd a b r.n) r.sides (k + 1) = SK1 at *
      generalize r.sides[k].parts = ps at *
      generalize r.sides[k].plays = pl at *
      (repeat ((first | refine WV_seq_ ?_ | refine WV_block ?_ | refine WV_ops ?_ | refine WV_skip ?_ | refine WV_exit ?_); (try simp only [go_sem, init_env', Nat.reduceEqDiff, Nat.reduceAdd, Nat.reduceMul, reduceIte, Nat.reduceLeDiff, Nat.reduceLT, Nat.reduceBEq, reduceCtorEq, hP, ]); (repeat (refine And.intro (by first | omega | (intros; simp_all; done) | (intros; simp_all; omega)) ?_))))
      refine WV_loopK K20_2 [11] (fun j : Nat => j ≤ ps.length) (fun j => ps.length - j) (fun j => [(10, iv j), (9, iv (bothOf a b (ps.take j)))]) (fun _ => []) 0 (Nat.zero_le _) ?_ ?_
      · (refine Sub_of (by simp only [go_sem, init_env', Nat.reduceEqDiff, Nat.reduceAdd, Nat.reduceMul, reduceIte, Nat.reduceLeDiff, Nat.reduceLT, Nat.reduceBEq, reduceCtorEq]; ((repeat' (first | exact EnvLe_e0 _ _ | refine EnvLe_upd ?_ ?_)) <;> ((try simp only [upd_app, e0_app, o0_app, Nat.reduceEqDiff, reduceIte]); first | exact AWk.refl _ _ | exact AWk.int (by omega) | exact AWk.int (by rw [w64 (by omega) (by omega)]; omega) | exact AWk.grow rfl | exact AWk.nil _ | exact AWk.of (by simp [bothOf])))) (by simp only [go_sem, init_env', Nat.reduceEqDiff, Nat.reduceAdd, Nat.reduceMul, reduceIte, Nat.reduceLeDiff, Nat.reduceLT, Nat.reduceBEq, reduceCtorEq]; ((repeat' (first | exact ObjLe_o0 _ | exact ObjLe.rfl' _ | refine ObjLe_same ?_ | refine ObjLe_upd ?_ ?_ | refine ObjLe_new rfl ?_)) <;> rfl)))
      · intro j hj
        simp only [go_sem, init_env', Nat.reduceEqDiff, Nat.reduceAdd, Nat.reduceMul, reduceIte, Nat.reduceLeDiff, Nat.reduceLT, Nat.reduceBEq, reduceCtorEq]
        (repeat ((first | refine WV_seq_ ?_ | refine WV_block ?_ | refine WV_ops ?_ | refine WV_skip ?_ | refine WV_exit ?_); (try simp only [go_sem, init_env', Nat.reduceEqDiff, Nat.reduceAdd, Nat.reduceMul, reduceIte, Nat.reduceLeDiff, Nat.reduceLT, Nat.reduceBEq, reduceCtorEq, hP, sidesC, egd, hI, List.length_map, Int.natCast_nonneg]); (repeat (refine And.intro (by first | omega | (intros; simp_all; done) | (intros; simp_all; omega)) ?_))))
        (refine WV_cond rfl (fun h => ?_) (fun h => ?_))
        · have hjl : j < ps.length := by simpa using h
          have hJ : (j : Int) < (ps.length : Int) := by omega
          have hw3 := w64 (n := (j : Int) + 1) (by omega) (by omega)
          have hbd := both_bd (a := a) (b := b) (ps.take j) fun p hp => hpt p (List.mem_of_mem_take hp)
          have hpc := hpt _ (List.getElem_mem hjl)
          have htl : (ps.take j).length = j := by rw [List.length_take]; omega
          have hw4 := w64 (n := bothOf a b (ps.take j) + ps[j].pc) (by omega) (by omega)
          have hsu := both_succ (a := a) (b := b) hjl
          (repeat ((first | refine WV_seq_ ?_ | refine WV_block ?_ | refine WV_ops ?_ | refine WV_skip ?_ | refine WV_exit ?_); (try simp only [go_sem, init_env', Nat.reduceEqDiff, Nat.reduceAdd, Nat.reduceMul, reduceIte, Nat.reduceLeDiff, Nat.reduceLT, Nat.reduceBEq, reduceCtorEq, hP, sidesC, egd, hI, hJ, List.length_map, Int.natCast_nonneg, map_getD hjl, Part.cds]); (repeat (refine And.intro (by first | omega | (intros; simp_all; done) | (intros; simp_all; omega)) ?_))))
          cases hpk : (ps[j].who == a || ps[j].who == b)
          · have hno : pick a b ps[j] = 0 := by
              unfold pick; rw [if_neg]; simpa using hpk
            (refine WV_cond rfl (fun h => ?_) (fun h => ?_))
            · simp at h
            · (repeat ((first | refine WV_seq_ ?_ | refine WV_block ?_ | refine WV_ops ?_ | refine WV_skip ?_ | refine WV_exit ?_); (try simp only [go_sem, init_env', Nat.reduceEqDiff, Nat.reduceAdd, Nat.reduceMul, reduceIte, Nat.reduceLeDiff, Nat.reduceLT, Nat.reduceBEq, reduceCtorEq, hP, hw3]); (repeat (refine And.intro (by first | omega | (intros; simp_all; done) | (intros; simp_all; omega)) ?_))))
              refine ⟨j + 1, by omega, by omega, ?_⟩
              rw [hsu, hno, Int.add_zero]
              (refine Sub_of (by simp only [go_sem, init_env', Nat.reduceEqDiff, Nat.reduceAdd, Nat.reduceMul, reduceIte, Nat.reduceLeDiff, Nat.reduceLT, Nat.reduceBEq, reduceCtorEq]; ((repeat' (first | exact EnvLe_e0 _ _ | refine EnvLe_upd ?_ ?_)) <;> ((try simp only [upd_app, e0_app, o0_app, Nat.reduceEqDiff, reduceIte]); first | exact AWk.refl _ _ | exact AWk.int (by omega) | exact AWk.int (by rw [w64 (by omega) (by omega)]; omega) | exact AWk.grow rfl | exact AWk.nil _ | exact AWk.of (by simp)))) (by simp only [go_sem, init_env', Nat.reduceEqDiff, Nat.reduceAdd, Nat.reduceMul, reduceIte, Nat.reduceLeDiff, Nat.reduceLT, Nat.reduceBEq, reduceCtorEq]; ((repeat' (first | exact ObjLe_o0 _ | exact ObjLe.rfl' _ | refine ObjLe_same ?_ | refine ObjLe_upd ?_ ?_ | refine ObjLe_new rfl ?_)) <;> rfl)))
          · have hno : pick a b ps[j] = ps[j].pc := by
              unfold pick; rw [if_pos]; simpa using hpk
            (refine WV_cond rfl (fun h => ?_) (fun h => ?_))
            · (repeat ((first | refine WV_seq_ ?_ | refine WV_block ?_ | refine WV_ops ?_ | refine WV_skip ?_ | refine WV_exit ?_); (try simp only [go_sem, init_env', Nat.reduceEqDiff, Nat.reduceAdd, Nat.reduceMul, reduceIte, Nat.reduceLeDiff, Nat.reduceLT, Nat.reduceBEq, reduceCtorEq, hP, hw3, hw4]); (repeat (refine And.intro (by first | omega | (intros; simp_all; done) | (intros; simp_all; omega)) ?_))))
              refine ⟨j + 1, by omega, by omega, ?_⟩
              rw [hsu, hno]
              (refine Sub_of (by simp only [go_sem, init_env', Nat.reduceEqDiff, Nat.reduceAdd, Nat.reduceMul, reduceIte, Nat.reduceLeDiff, Nat.reduceLT, Nat.reduceBEq, reduceCtorEq]; ((repeat' (first | exact EnvLe_e0 _ _ | refine EnvLe_upd ?_ ?_)) <;> ((try simp only [upd_app, e0_app, o0_app, Nat.reduceEqDiff, reduceIte]); first | exact AWk.refl _ _ | exact AWk.int (by omega) | exact AWk.int (by rw [w64 (by omega) (by omega)]; omega) | exact AWk.grow rfl | exact AWk.nil _ | exact AWk.of (by simp)))) (by simp only [go_sem, init_env', Nat.reduceEqDiff, Nat.reduceAdd, Nat.reduceMul, reduceIte, Nat.reduceLeDiff, Nat.reduceLT, Nat.reduceBEq, reduceCtorEq]; ((repeat' (first | exact ObjLe_o0 _ | exact ObjLe.rfl' _ | refine ObjLe_same ?_ | refine ObjLe_upd ?_ ?_ | refine ObjLe_new rfl ?_)) <;> rfl)))
            · simp at h
        · have h : j = ps.length := by simp at h; omega
          subst h
          rw [List.take_length]
          generalize hbo : bothOf a b ps = sm
          (repeat ((first | refine WV_seq_ ?_ | refine WV_block ?_ | refine WV_ops ?_ | refine WV_skip ?_ | refine WV_exit ?_); (try simp only [go_sem, init_env', Nat.reduceEqDiff, Nat.reduceAdd, Nat.reduceMul, reduceIte, Nat.reduceLeDiff, Nat.reduceLT, Nat.reduceBEq, reduceCtorEq, hP, ]); (repeat (refine And.intro (by first | omega | (intros; simp_all; done) | (intros; simp_all; omega)) ?_))))
          refine WV_nilslot 12 90 47 2 (by decide) (by decide) rfl rfl ?_
          simp only [go_sem, init_env', Nat.reduceEqDiff, Nat.reduceAdd, Nat.reduceMul, reduceIte, Nat.reduceLeDiff, Nat.reduceLT, Nat.reduceBEq, reduceCtorEq]
          refine WV_loopK K20_3 [15, 77, 78, 90, 115, 116] (fun w : Nat => w ≤ r.n) (fun w => r.n - w) (fun w => [(13, iv w), (12, .gr 90)]) (fun w => [(90, .grow 47 2 ((joinL a b ps w).map Part.cds))]) 0 (Nat.zero_le _) ?_ ?_
          · (refine Sub_of (by simp only [go_sem, init_env', Nat.reduceEqDiff, Nat.reduceAdd, Nat.reduceMul, reduceIte, Nat.reduceLeDiff, Nat.reduceLT, Nat.reduceBEq, reduceCtorEq]; ((repeat' (first | exact EnvLe_e0 _ _ | refine EnvLe_upd ?_ ?_)) <;> ((try simp only [upd_app, e0_app, o0_app, Nat.reduceEqDiff, reduceIte]); first | exact AWk.refl _ _ | exact AWk.int (by omega) | exact AWk.int (by rw [w64 (by omega) (by omega)]; omega) | exact AWk.grow rfl | exact AWk.nil _ | exact AWk.of (by simp)))) (by simp only [go_sem, init_env', Nat.reduceEqDiff, Nat.reduceAdd, Nat.reduceMul, reduceIte, Nat.reduceLeDiff, Nat.reduceLT, Nat.reduceBEq, reduceCtorEq]; ((repeat' (first | exact ObjLe_o0 _ | exact ObjLe.rfl' _ | refine ObjLe_same ?_ | refine ObjLe_upd ?_ ?_ | refine ObjLe_new rfl ?_)) <;> rfl)))
          · intro w hw
            simp only [go_sem, init_env', Nat.reduceEqDiff, Nat.reduceAdd, Nat.reduceMul, reduceIte, Nat.reduceLeDiff, Nat.reduceLT, Nat.reduceBEq, reduceCtorEq]
            (repeat ((first | refine WV_seq_ ?_ | refine WV_block ?_ | refine WV_ops ?_ | refine WV_skip ?_ | refine WV_exit ?_); (try simp only [go_sem, init_env', Nat.reduceEqDiff, Nat.reduceAdd, Nat.reduceMul, reduceIte, Nat.reduceLeDiff, Nat.reduceLT, Nat.reduceBEq, reduceCtorEq, hP, ints, List.length_map, hnl]); (repeat (refine And.intro (by first | omega | (intros; simp_all; done) | (intros; simp_all; omega)) ?_))))
            (refine WV_cond rfl (fun h => ?_) (fun h => ?_))
            · have hwl : w < r.n := by simpa using h
              have hw5 := w64 (n := (w : Int) + 1) (by omega) (by omega)
              (repeat ((first | refine WV_seq_ ?_ | refine WV_block ?_ | refine WV_ops ?_ | refine WV_skip ?_ | refine WV_exit ?_); (try simp only [go_sem, init_env', Nat.reduceEqDiff, Nat.reduceAdd, Nat.reduceMul, reduceIte, Nat.reduceLeDiff, Nat.reduceLT, Nat.reduceBEq, reduceCtorEq, hP, ]); (repeat (refine And.intro (by first | omega | (intros; simp_all; done) | (intros; simp_all; omega)) ?_))))
              have hh : ((w : Int) == a && decide (0 < sm)) = decide ((w : Int) = a ∧ 0 < sm) := by
                rw [Bool.eq_iff_iff]; simp
              have hjs := joinL_succ a b ps w
              unfold joinB joinH at hjs
              rw [hbo] at hjs
              rw [hh]
              have hl1 := joinL_len a b ps w
              have hl2 : w * (ps.length + 1) ≤ 6 * 7 := Nat.mul_le_mul (by omega) (by omega)
              by_cases hA : (w : Int) = a ∧ 0 < sm
              · rw [if_pos hA, ← List.append_assoc] at hjs
                generalize hL1 : joinL a b ps w = L1 at *
                rw [decide_eq_true hA]
                (refine WV_cond rfl (fun h => ?_) (fun h => ?_))
                rotate_left
                · simp at h
                (refine WV_ops ?_; simp only [go_sem, init_env', Nat.reduceEqDiff, Nat.reduceAdd, Nat.reduceMul, reduceIte, Nat.reduceLeDiff, Nat.reduceLT, Nat.reduceBEq, reduceCtorEq, hP, parts_two, List.length_map]; (repeat (refine And.intro (by first | omega | (intros; simp_all; done) | (intros; simp_all; omega)) ?_)))
                refine WV_move' 78 90 (by decide) (by decide) rfl ?_
                simp only [go_sem, init_env', Nat.reduceEqDiff, Nat.reduceAdd, Nat.reduceMul, reduceIte, Nat.reduceLeDiff, Nat.reduceLT, Nat.reduceBEq, reduceCtorEq]
                have e9 : L1.map Part.cds ++ [[CD.int .i64 a, CD.int .i64 sm]] = (L1 ++ [(⟨a, sm⟩ : Part)]).map Part.cds := by simp [Part.cds]
                rw [e9]
                have hl3 : (L1 ++ [(⟨a, sm⟩ : Part)]).length ≤ 43 := by rw [List.length_append]; simp only [List.length_cons, List.length_nil]; omega
                clear hl1
                generalize L1 ++ [(⟨a, sm⟩ : Part)] = L2 at *
                (repeat ((first | refine WV_seq_ ?_ | refine WV_block ?_ | refine WV_ops ?_ | refine WV_skip ?_ | refine WV_exit ?_); (try simp only [go_sem, init_env', Nat.reduceEqDiff, Nat.reduceAdd, Nat.reduceMul, reduceIte, Nat.reduceLeDiff, Nat.reduceLT, Nat.reduceBEq, reduceCtorEq, hP, ]); (repeat (refine And.intro (by first | omega | (intros; simp_all; done) | (intros; simp_all; omega)) ?_))))
                refine WV_loopK K20_4 [15, 77, 78, 90, 115, 116] (fun j : Nat => j ≤ ps.length) (fun j => ps.length - j) (fun j => [(14, iv j), (12, .gr 90)]) (fun j => [(90, .grow 47 2 ((stL L2 a b w ps j).map Part.cds))]) 0 (Nat.zero_le _) ?_ ?_
                · rw [stL_zero]
                  (refine Sub_of (by simp only [go_sem, init_env', Nat.reduceEqDiff, Nat.reduceAdd, Nat.reduceMul, reduceIte, Nat.reduceLeDiff, Nat.reduceLT, Nat.reduceBEq, reduceCtorEq]; ((repeat' (first | exact EnvLe_e0 _ _ | refine EnvLe_upd ?_ ?_)) <;> ((try simp only [upd_app, e0_app, o0_app, Nat.reduceEqDiff, reduceIte]); first | exact AWk.refl _ _ | exact AWk.int (by omega) | exact AWk.int (by rw [w64 (by omega) (by omega)]; omega) | exact AWk.grow rfl | exact AWk.nil _ | exact AWk.of (by simp)))) (by simp only [go_sem, init_env', Nat.reduceEqDiff, Nat.reduceAdd, Nat.reduceMul, reduceIte, Nat.reduceLeDiff, Nat.reduceLT, Nat.reduceBEq, reduceCtorEq]; ((repeat' (first | exact ObjLe_o0 _ | exact ObjLe.rfl' _ | refine ObjLe_same ?_ | refine ObjLe_upd ?_ ?_ | refine ObjLe_new rfl ?_)) <;> rfl)))
                · intro j hj
                  simp only [go_sem, init_env', Nat.reduceEqDiff, Nat.reduceAdd, Nat.reduceMul, reduceIte, Nat.reduceLeDiff, Nat.reduceLT, Nat.reduceBEq, reduceCtorEq]
                  (repeat ((first | refine WV_seq_ ?_ | refine WV_block ?_ | refine WV_ops ?_ | refine WV_skip ?_ | refine WV_exit ?_); (try simp only [go_sem, init_env', Nat.reduceEqDiff, Nat.reduceAdd, Nat.reduceMul, reduceIte, Nat.reduceLeDiff, Nat.reduceLT, Nat.reduceBEq, reduceCtorEq, hP, sidesC, egd, hI, List.length_map, Int.natCast_nonneg]); (repeat (refine And.intro (by first | omega | (intros; simp_all; done) | (intros; simp_all; omega)) ?_))))
                  (refine WV_cond rfl (fun h => ?_) (fun h => ?_))
                  · have hjl : j < ps.length := by simpa using h
                    have hJ : (j : Int) < (ps.length : Int) := by omega
                    have hw3 := w64 (n := (j : Int) + 1) (by omega) (by omega)
                    have hft := stL_succ L2 a b w hjl
                    (repeat ((first | refine WV_seq_ ?_ | refine WV_block ?_ | refine WV_ops ?_ | refine WV_skip ?_ | refine WV_exit ?_); (try simp only [go_sem, init_env', Nat.reduceEqDiff, Nat.reduceAdd, Nat.reduceMul, reduceIte, Nat.reduceLeDiff, Nat.reduceLT, Nat.reduceBEq, reduceCtorEq, hP, sidesC, egd, hI, hJ, List.length_map, Int.natCast_nonneg, map_getD hjl, Part.cds]); (repeat (refine And.intro (by first | omega | (intros; simp_all; done) | (intros; simp_all; omega)) ?_))))
                    have hst : ((ps[j].who == (w : Int) && (w : Int) != a) && (w : Int) != b) = stays a b w ps[j] := by unfold stays; rw [Bool.and_assoc]
                    rw [hst]
                    cases hs9 : stays a b w ps[j]
                    · rw [hs9] at hft
                      simp only [Bool.false_eq_true, if_false, List.append_nil] at hft
                      (refine WV_cond rfl (fun h => ?_) (fun h => ?_))
                      · simp at h
                      · (repeat ((first | refine WV_seq_ ?_ | refine WV_block ?_ | refine WV_ops ?_ | refine WV_skip ?_ | refine WV_exit ?_); (try simp only [go_sem, init_env', Nat.reduceEqDiff, Nat.reduceAdd, Nat.reduceMul, reduceIte, Nat.reduceLeDiff, Nat.reduceLT, Nat.reduceBEq, reduceCtorEq, hP, hw3]); (repeat (refine And.intro (by first | omega | (intros; simp_all; done) | (intros; simp_all; omega)) ?_))))
                        refine ⟨j + 1, by omega, by omega, ?_⟩
                        rw [hft]
                        (refine Sub_of (by simp only [go_sem, init_env', Nat.reduceEqDiff, Nat.reduceAdd, Nat.reduceMul, reduceIte, Nat.reduceLeDiff, Nat.reduceLT, Nat.reduceBEq, reduceCtorEq]; ((repeat' (first | exact EnvLe_e0 _ _ | refine EnvLe_upd ?_ ?_)) <;> ((try simp only [upd_app, e0_app, o0_app, Nat.reduceEqDiff, reduceIte]); first | exact AWk.refl _ _ | exact AWk.int (by omega) | exact AWk.int (by rw [w64 (by omega) (by omega)]; omega) | exact AWk.grow rfl | exact AWk.nil _ | exact AWk.of (by simp)))) (by simp only [go_sem, init_env', Nat.reduceEqDiff, Nat.reduceAdd, Nat.reduceMul, reduceIte, Nat.reduceLeDiff, Nat.reduceLT, Nat.reduceBEq, reduceCtorEq]; ((repeat' (first | exact ObjLe_o0 _ | exact ObjLe.rfl' _ | refine ObjLe_same ?_ | refine ObjLe_upd ?_ ?_ | refine ObjLe_new rfl ?_)) <;> rfl)))
                    · rw [hs9] at hft
                      simp only [if_true] at hft
                      have hl4 := stL_len L2 a b w ps j
                      have e9 : (stL L2 a b w ps j).map Part.cds ++ [[CD.int .i64 ps[j].who, CD.int .i64 ps[j].pc]] = (stL L2 a b w ps (j + 1)).map Part.cds := by rw [hft, List.map_append]; rfl
                      (refine WV_cond rfl (fun h => ?_) (fun h => ?_))
                      · (refine WV_ops ?_; simp only [go_sem, init_env', Nat.reduceEqDiff, Nat.reduceAdd, Nat.reduceMul, reduceIte, Nat.reduceLeDiff, Nat.reduceLT, Nat.reduceBEq, reduceCtorEq, hP, parts_two, List.length_map]; (repeat (refine And.intro (by first | omega | (intros; simp_all; done) | (intros; simp_all; omega)) ?_)))
                        refine WV_move' 116 90 (by decide) (by decide) rfl ?_
                        simp only [go_sem, init_env', Nat.reduceEqDiff, Nat.reduceAdd, Nat.reduceMul, reduceIte, Nat.reduceLeDiff, Nat.reduceLT, Nat.reduceBEq, reduceCtorEq]
                        rw [e9]
                        (repeat ((first | refine WV_seq_ ?_ | refine WV_block ?_ | refine WV_ops ?_ | refine WV_skip ?_ | refine WV_exit ?_); (try simp only [go_sem, init_env', Nat.reduceEqDiff, Nat.reduceAdd, Nat.reduceMul, reduceIte, Nat.reduceLeDiff, Nat.reduceLT, Nat.reduceBEq, reduceCtorEq, hP, hw3]); (repeat (refine And.intro (by first | omega | (intros; simp_all; done) | (intros; simp_all; omega)) ?_))))
                        refine ⟨j + 1, by omega, by omega, ?_⟩
                        (refine Sub_of (by simp only [go_sem, init_env', Nat.reduceEqDiff, Nat.reduceAdd, Nat.reduceMul, reduceIte, Nat.reduceLeDiff, Nat.reduceLT, Nat.reduceBEq, reduceCtorEq]; ((repeat' (first | exact EnvLe_e0 _ _ | refine EnvLe_upd ?_ ?_)) <;> ((try simp only [upd_app, e0_app, o0_app, Nat.reduceEqDiff, reduceIte]); first | exact AWk.refl _ _ | exact AWk.int (by omega) | exact AWk.int (by rw [w64 (by omega) (by omega)]; omega) | exact AWk.grow rfl | exact AWk.nil _ | exact AWk.of (by simp)))) (by simp only [go_sem, init_env', Nat.reduceEqDiff, Nat.reduceAdd, Nat.reduceMul, reduceIte, Nat.reduceLeDiff, Nat.reduceLT, Nat.reduceBEq, reduceCtorEq]; ((repeat' (first | exact ObjLe_o0 _ | exact ObjLe.rfl' _ | refine ObjLe_same ?_ | refine ObjLe_upd ?_ ?_ | refine ObjLe_new rfl ?_)) <;> rfl)))
                      · simp at h
                  · have h : j = ps.length := by simp at h; omega
                    subst h
                    rw [stL_all, ← hjs]
                    (repeat ((first | refine WV_seq_ ?_ | refine WV_block ?_ | refine WV_ops ?_ | refine WV_skip ?_ | refine WV_exit ?_); (try simp only [go_sem, init_env', Nat.reduceEqDiff, Nat.reduceAdd, Nat.reduceMul, reduceIte, Nat.reduceLeDiff, Nat.reduceLT, Nat.reduceBEq, reduceCtorEq, hP, hw5]); (repeat (refine And.intro (by first | omega | (intros; simp_all; done) | (intros; simp_all; omega)) ?_))))
                    refine ⟨w + 1, by omega, by omega, ?_⟩
                    (refine Sub_of (by simp only [go_sem, init_env', Nat.reduceEqDiff, Nat.reduceAdd, Nat.reduceMul, reduceIte, Nat.reduceLeDiff, Nat.reduceLT, Nat.reduceBEq, reduceCtorEq]; ((repeat' (first | exact EnvLe_e0 _ _ | refine EnvLe_upd ?_ ?_)) <;> ((try simp only [upd_app, e0_app, o0_app, Nat.reduceEqDiff, reduceIte]); first | exact AWk.refl _ _ | exact AWk.int (by omega) | exact AWk.int (by rw [w64 (by omega) (by omega)]; omega) | exact AWk.grow rfl | exact AWk.nil _ | exact AWk.of (by simp)))) (by simp only [go_sem, init_env', Nat.reduceEqDiff, Nat.reduceAdd, Nat.reduceMul, reduceIte, Nat.reduceLeDiff, Nat.reduceLT, Nat.reduceBEq, reduceCtorEq]; ((repeat' (first | exact ObjLe_o0 _ | exact ObjLe.rfl' _ | refine ObjLe_same ?_ | refine ObjLe_upd ?_ ?_ | refine ObjLe_new rfl ?_)) <;> rfl)))
              · rw [if_neg hA] at hjs
                rw [decide_eq_false hA]
                (refine WV_cond rfl (fun h => ?_) (fun h => ?_))
                · simp at h
                (repeat ((first | refine WV_seq_ ?_ | refine WV_block ?_ | refine WV_ops ?_ | refine WV_skip ?_ | refine WV_exit ?_); (try simp only [go_sem, init_env', Nat.reduceEqDiff, Nat.reduceAdd, Nat.reduceMul, reduceIte, Nat.reduceLeDiff, Nat.reduceLT, Nat.reduceBEq, reduceCtorEq, hP, ]); (repeat (refine And.intro (by first | omega | (intros; simp_all; done) | (intros; simp_all; omega)) ?_))))
                rw [List.nil_append] at hjs
                have hl3 : (joinL a b ps w).length ≤ 43 := by omega
                clear hl1
                generalize joinL a b ps w = L2 at *
                (repeat ((first | refine WV_seq_ ?_ | refine WV_block ?_ | refine WV_ops ?_ | refine WV_skip ?_ | refine WV_exit ?_); (try simp only [go_sem, init_env', Nat.reduceEqDiff, Nat.reduceAdd, Nat.reduceMul, reduceIte, Nat.reduceLeDiff, Nat.reduceLT, Nat.reduceBEq, reduceCtorEq, hP, ]); (repeat (refine And.intro (by first | omega | (intros; simp_all; done) | (intros; simp_all; omega)) ?_))))
                refine WV_loopK K20_4 [15, 77, 78, 90, 115, 116] (fun j : Nat => j ≤ ps.length) (fun j => ps.length - j) (fun j => [(14, iv j), (12, .gr 90)]) (fun j => [(90, .grow 47 2 ((stL L2 a b w ps j).map Part.cds))]) 0 (Nat.zero_le _) ?_ ?_
                · rw [stL_zero]
                  (refine Sub_of (by simp only [go_sem, init_env', Nat.reduceEqDiff, Nat.reduceAdd, Nat.reduceMul, reduceIte, Nat.reduceLeDiff, Nat.reduceLT, Nat.reduceBEq, reduceCtorEq]; ((repeat' (first | exact EnvLe_e0 _ _ | refine EnvLe_upd ?_ ?_)) <;> ((try simp only [upd_app, e0_app, o0_app, Nat.reduceEqDiff, reduceIte]); first | exact AWk.refl _ _ | exact AWk.int (by omega) | exact AWk.int (by rw [w64 (by omega) (by omega)]; omega) | exact AWk.grow rfl | exact AWk.nil _ | exact AWk.of (by simp)))) (by simp only [go_sem, init_env', Nat.reduceEqDiff, Nat.reduceAdd, Nat.reduceMul, reduceIte, Nat.reduceLeDiff, Nat.reduceLT, Nat.reduceBEq, reduceCtorEq]; ((repeat' (first | exact ObjLe_o0 _ | exact ObjLe.rfl' _ | refine ObjLe_same ?_ | refine ObjLe_upd ?_ ?_ | refine ObjLe_new rfl ?_)) <;> rfl)))
                · intro j hj
                  simp only [go_sem, init_env', Nat.reduceEqDiff, Nat.reduceAdd, Nat.reduceMul, reduceIte, Nat.reduceLeDiff, Nat.reduceLT, Nat.reduceBEq, reduceCtorEq]
                  (repeat ((first | refine WV_seq_ ?_ | refine WV_block ?_ | refine WV_ops ?_ | refine WV_skip ?_ | refine WV_exit ?_); (try simp only [go_sem, init_env', Nat.reduceEqDiff, Nat.reduceAdd, Nat.reduceMul, reduceIte, Nat.reduceLeDiff, Nat.reduceLT, Nat.reduceBEq, reduceCtorEq, hP, sidesC, egd, hI, List.length_map, Int.natCast_nonneg]); (repeat (refine And.intro (by first | omega | (intros; simp_all; done) | (intros; simp_all; omega)) ?_))))
                  (refine WV_cond rfl (fun h => ?_) (fun h => ?_))
                  · have hjl : j < ps.length := by simpa using h
                    have hJ : (j : Int) < (ps.length : Int) := by omega
                    have hw3 := w64 (n := (j : Int) + 1) (by omega) (by omega)
                    have hft := stL_succ L2 a b w hjl
                    (repeat ((first | refine WV_seq_ ?_ | refine WV_block ?_ | refine WV_ops ?_ | refine WV_skip ?_ | refine WV_exit ?_); (try simp only [go_sem, init_env', Nat.reduceEqDiff, Nat.reduceAdd, Nat.reduceMul, reduceIte, Nat.reduceLeDiff, Nat.reduceLT, Nat.reduceBEq, reduceCtorEq, hP, sidesC, egd, hI, hJ, List.length_map, Int.natCast_nonneg, map_getD hjl, Part.cds]); (repeat (refine And.intro (by first | omega | (intros; simp_all; done) | (intros; simp_all; omega)) ?_))))
                    have hst : ((ps[j].who == (w : Int) && (w : Int) != a) && (w : Int) != b) = stays a b w ps[j] := by unfold stays; rw [Bool.and_assoc]
                    rw [hst]
                    cases hs9 : stays a b w ps[j]
                    · rw [hs9] at hft
                      simp only [Bool.false_eq_true, if_false, List.append_nil] at hft
                      (refine WV_cond rfl (fun h => ?_) (fun h => ?_))
                      · simp at h
                      · (repeat ((first | refine WV_seq_ ?_ | refine WV_block ?_ | refine WV_ops ?_ | refine WV_skip ?_ | refine WV_exit ?_); (try simp only [go_sem, init_env', Nat.reduceEqDiff, Nat.reduceAdd, Nat.reduceMul, reduceIte, Nat.reduceLeDiff, Nat.reduceLT, Nat.reduceBEq, reduceCtorEq, hP, hw3]); (repeat (refine And.intro (by first | omega | (intros; simp_all; done) | (intros; simp_all; omega)) ?_))))
                        refine ⟨j + 1, by omega, by omega, ?_⟩
                        rw [hft]
                        (refine Sub_of (by simp only [go_sem, init_env', Nat.reduceEqDiff, Nat.reduceAdd, Nat.reduceMul, reduceIte, Nat.reduceLeDiff, Nat.reduceLT, Nat.reduceBEq, reduceCtorEq]; ((repeat' (first | exact EnvLe_e0 _ _ | refine EnvLe_upd ?_ ?_)) <;> ((try simp only [upd_app, e0_app, o0_app, Nat.reduceEqDiff, reduceIte]); first | exact AWk.refl _ _ | exact AWk.int (by omega) | exact AWk.int (by rw [w64 (by omega) (by omega)]; omega) | exact AWk.grow rfl | exact AWk.nil _ | exact AWk.of (by simp)))) (by simp only [go_sem, init_env', Nat.reduceEqDiff, Nat.reduceAdd, Nat.reduceMul, reduceIte, Nat.reduceLeDiff, Nat.reduceLT, Nat.reduceBEq, reduceCtorEq]; ((repeat' (first | exact ObjLe_o0 _ | exact ObjLe.rfl' _ | refine ObjLe_same ?_ | refine ObjLe_upd ?_ ?_ | refine ObjLe_new rfl ?_)) <;> rfl)))
                    · rw [hs9] at hft
                      simp only [if_true] at hft
                      have hl4 := stL_len L2 a b w ps j
                      have e9 : (stL L2 a b w ps j).map Part.cds ++ [[CD.int .i64 ps[j].who, CD.int .i64 ps[j].pc]] = (stL L2 a b w ps (j + 1)).map Part.cds := by rw [hft, List.map_append]; rfl
                      (refine WV_cond rfl (fun h => ?_) (fun h => ?_))
                      · (refine WV_ops ?_; simp only [go_sem, init_env', Nat.reduceEqDiff, Nat.reduceAdd, Nat.reduceMul, reduceIte, Nat.reduceLeDiff, Nat.reduceLT, Nat.reduceBEq, reduceCtorEq, hP, parts_two, List.length_map]; (repeat (refine And.intro (by first | omega | (intros; simp_all; done) | (intros; simp_all; omega)) ?_)))
                        refine WV_move' 116 90 (by decide) (by decide) rfl ?_
                        simp only [go_sem, init_env', Nat.reduceEqDiff, Nat.reduceAdd, Nat.reduceMul, reduceIte, Nat.reduceLeDiff, Nat.reduceLT, Nat.reduceBEq, reduceCtorEq]
                        rw [e9]
                        (repeat ((first | refine WV_seq_ ?_ | refine WV_block ?_ | refine WV_ops ?_ | refine WV_skip ?_ | refine WV_exit ?_); (try simp only [go_sem, init_env', Nat.reduceEqDiff, Nat.reduceAdd, Nat.reduceMul, reduceIte, Nat.reduceLeDiff, Nat.reduceLT, Nat.reduceBEq, reduceCtorEq, hP, hw3]); (repeat (refine And.intro (by first | omega | (intros; simp_all; done) | (intros; simp_all; omega)) ?_))))
                        refine ⟨j + 1, by omega, by omega, ?_⟩
                        (refine Sub_of (by simp only [go_sem, init_env', Nat.reduceEqDiff, Nat.reduceAdd, Nat.reduceMul, reduceIte, Nat.reduceLeDiff, Nat.reduceLT, Nat.reduceBEq, reduceCtorEq]; ((repeat' (first | exact EnvLe_e0 _ _ | refine EnvLe_upd ?_ ?_)) <;> ((try simp only [upd_app, e0_app, o0_app, Nat.reduceEqDiff, reduceIte]); first | exact AWk.refl _ _ | exact AWk.int (by omega) | exact AWk.int (by rw [w64 (by omega) (by omega)]; omega) | exact AWk.grow rfl | exact AWk.nil _ | exact AWk.of (by simp)))) (by simp only [go_sem, init_env', Nat.reduceEqDiff, Nat.reduceAdd, Nat.reduceMul, reduceIte, Nat.reduceLeDiff, Nat.reduceLT, Nat.reduceBEq, reduceCtorEq]; ((repeat' (first | exact ObjLe_o0 _ | exact ObjLe.rfl' _ | refine ObjLe_same ?_ | refine ObjLe_upd ?_ ?_ | refine ObjLe_new rfl ?_)) <;> rfl)))
                      · simp at h
                  · have h : j = ps.length := by simp at h; omega
                    subst h
                    rw [stL_all, ← hjs]
                    (repeat ((first | refine WV_seq_ ?_ | refine WV_block ?_ | refine WV_ops ?_ | refine WV_skip ?_ | refine WV_exit ?_); (try simp only [go_sem, init_env', Nat.reduceEqDiff, Nat.reduceAdd, Nat.reduceMul, reduceIte, Nat.reduceLeDiff, Nat.reduceLT, Nat.reduceBEq, reduceCtorEq, hP, hw5]); (repeat (refine And.intro (by first | omega | (intros; simp_all; done) | (intros; simp_all; omega)) ?_))))
                    refine ⟨w + 1, by omega, by omega, ?_⟩
                    (refine Sub_of (by simp only [go_sem, init_env', Nat.reduceEqDiff, Nat.reduceAdd, Nat.reduceMul, reduceIte, Nat.reduceLeDiff, Nat.reduceLT, Nat.reduceBEq, reduceCtorEq]; ((repeat' (first | exact EnvLe_e0 _ _ | refine EnvLe_upd ?_ ?_)) <;> ((try simp only [upd_app, e0_app, o0_app, Nat.reduceEqDiff, reduceIte]); first | exact AWk.refl _ _ | exact AWk.int (by omega) | exact AWk.int (by rw [w64 (by omega) (by omega)]; omega) | exact AWk.grow rfl | exact AWk.nil _ | exact AWk.of (by simp)))) (by simp only [go_sem, init_env', Nat.reduceEqDiff, Nat.reduceAdd, Nat.reduceMul, reduceIte, Nat.reduceLeDiff, Nat.reduceLT, Nat.reduceBEq, reduceCtorEq]; ((repeat' (first | exact ObjLe_o0 _ | exact ObjLe.rfl' _ | refine ObjLe_same ?_ | refine ObjLe_upd ?_ ?_ | refine ObjLe_new rfl ?_)) <;> rfl)))
            · have h : w = r.n := by simp at h; omega
              subst h
              refine WV_weak1 12 (.c (partsC (joinL a b ps r.n))) (AWk.grow rfl) ?_
              refine WV_drop 90 ?_
              (repeat ((first | refine WV_seq_ ?_ | refine WV_block ?_ | refine WV_ops ?_ | refine WV_skip ?_ | refine WV_exit ?_); (try simp only [go_sem, init_env', Nat.reduceEqDiff, Nat.reduceAdd, Nat.reduceMul, reduceIte, Nat.reduceLeDiff, Nat.reduceLT, Nat.reduceBEq, reduceCtorEq, hP, hcl, hcl2, hI, Int.natCast_nonneg, hs0, hw2]); (repeat (refine And.intro (by first | omega | (intros; simp_all; done) | (intros; simp_all; omega)) ?_))))
              refine ⟨k + 1, by omega, by omega, ?_⟩
              rw [hSK1]
              (refine Sub_of (by simp only [go_sem, init_env', Nat.reduceEqDiff, Nat.reduceAdd, Nat.reduceMul, reduceIte, Nat.reduceLeDiff, Nat.reduceLT, Nat.reduceBEq, reduceCtorEq]; ((repeat' (first | exact EnvLe_e0 _ _ | refine EnvLe_upd ?_ ?_)) <;> ((try simp only [upd_app, e0_app, o0_app, Nat.reduceEqDiff, reduceIte]); first | exact AWk.refl _ _ | exact AWk.int (by omega) | exact AWk.int (by rw [w64 (by omega) (by omega)]; omega) | exact AWk.grow rfl | exact AWk.nil _ | exact AWk.of (by simp)))) (by simp only [go_sem, init_env', Nat.reduceEqDiff, Nat.reduceAdd, Nat.reduceMul, reduceIte, Nat.reduceLeDiff, Nat.reduceLT, Nat.reduceBEq, reduceCtorEq]; ((repeat' (first | exact ObjLe_o0 _ | exact ObjLe.rfl' _ | refine ObjLe_same ?_ | refine ObjLe_upd ?_ ?_ | refine ObjLe_new rfl ?_)) <;> rfl)))
    · have h : k = r.sides.length := by simp at h; omega
      subst h
      rw [mapK_all]
      (refine WV_exit ?_; simp only [go_sem, init_env', Nat.reduceEqDiff, Nat.reduceAdd, Nat.reduceMul, reduceIte, Nat.reduceLeDiff, Nat.reduceLT, Nat.reduceBEq, reduceCtorEq])
      have hSl : (r.sides.map (joinSd a b r.n)).length = r.sides.length := by simp
      have hgr := sides_grp (r.sides.map (joinSd a b r.n))
      have hfl := sides_fit (r.sides.map (joinSd a b r.n))
      rw [hSl] at hgr hfl
      refine WV_freezeJ 900 (ds := flatG Side.cds (r.sides.map (joinSd a b r.n))) (junk := List.replicate J .non) rfl ?_
      simp only [go_sem, init_env', Nat.reduceEqDiff, Nat.reduceAdd, Nat.reduceMul, reduceIte, Nat.reduceLeDiff, Nat.reduceLT, Nat.reduceBEq, reduceCtorEq, hfl, hgr]
      (repeat ((first | refine WV_seq_ ?_ | refine WV_block ?_ | refine WV_ops ?_ | refine WV_skip ?_ | refine WV_exit ?_); (try simp only [go_sem, init_env', Nat.reduceEqDiff, Nat.reduceAdd, Nat.reduceMul, reduceIte, Nat.reduceLeDiff, Nat.reduceLT, Nat.reduceBEq, reduceCtorEq, hP, ]); (repeat (refine And.intro (by first | omega | (intros; simp_all; done) | (intros; simp_all; omega)) ?_))))
      (refine WV_ret ?_; simp only [thenQ, inQ, RetQ, RetOk, resAll, resA]; simp only [go_sem, init_env', Nat.reduceEqDiff, Nat.reduceAdd, Nat.reduceMul, reduceIte, Nat.reduceLeDiff, Nat.reduceLT, Nat.reduceBEq, reduceCtorEq, tupA, AV.port, AV.portL, exists_eq_left', ]; (first | exact AVle.of rfl | refine AVle.of ?_ | skip))
end Go.Proofs.Ytnmchaemhjnkgaa

namespace Go.Proofs.Ytnmchaemhjnkgaa
open Go Go.V
@[reducible] def o4_0 : List Ins := [⟨(some 3), .box 3 (.t 0), none, true⟩,
  ⟨(some 6), .mv (.k (.c (.bool false))), none, true⟩]
@[reducible] def o4_1 : List Ins := [⟨(some 24), .ld false 3 (.t 3), none, true⟩,
  ⟨(some 25), .call (.k (.fn 13 [])) [(.t 24)], none, true⟩,
  ⟨(some 26), .un .not (.t 25), none, true⟩,
  ⟨(some 27), .mv (.t 26), none, true⟩,
  ⟨(some 28), .mv (.t 1), (some (27, false)), true⟩,
  ⟨(some 29), .mv (.t 2), (some (27, false)), true⟩,
  ⟨(some 30), .bin .eql (.t 28) (.t 29), (some (27, false)), true⟩,
  ⟨(some 31), .pick (.t 27) (.k (.c (.bool true))) (.t 30), none, true⟩,
  ⟨(some 32), .mv (.t 31), none, true⟩,
  ⟨(some 33), .ld false 3 (.t 3), (some (32, false)), true⟩,
  ⟨(some 34), .mv (.t 1), (some (32, false)), true⟩,
  ⟨(some 35), .call (.k (.fn 19 [])) [(.t 33), (.t 34)], (some (32, false)), true⟩,
  ⟨(some 36), .un .not (.t 35), (some (32, false)), true⟩,
  ⟨(some 37), .pick (.t 32) (.k (.c (.bool true))) (.t 36), none, true⟩,
  ⟨(some 38), .mv (.t 37), none, true⟩,
  ⟨(some 39), .ld false 3 (.t 3), (some (38, false)), true⟩,
  ⟨(some 40), .mv (.t 2), (some (38, false)), true⟩,
  ⟨(some 41), .call (.k (.fn 19 [])) [(.t 39), (.t 40)], (some (38, false)), true⟩,
  ⟨(some 42), .un .not (.t 41), (some (38, false)), true⟩,
  ⟨(some 43), .pick (.t 38) (.k (.c (.bool true))) (.t 42), none, true⟩]
@[reducible] def o4_2 : List Ins := [⟨(some 44), .call (.k (.fn 14 [])) [], none, true⟩,
  ⟨(some 6), .mv (.t 44), none, true⟩]
@[reducible] def v4_3 : VC := (.seq (.ops o4_2) .ret)
@[reducible] def v4_4 : VC := (.cond (.t 43) v4_3 .skip)
@[reducible] def o4_5 : List Ins := [⟨(some 45), .ld false 3 (.t 3), none, true⟩,
  ⟨(some 46), .mv (.t 1), none, true⟩,
  ⟨(some 47), .mv (.t 2), none, true⟩,
  ⟨(some 48), .call (.k (.fn 20 [])) [(.t 45), (.t 46), (.t 47)], none, true⟩,
  ⟨(some 7), .alloc [(.c (.int .i64 0)), (.c (.raw (.slice none 0 0))), (.c (.raw (.slice none 0 0)))], none, true⟩,
  ⟨none, .st 3 (.t 7) (.t 48), none, true⟩]
@[reducible] def o4_6 : List Ins := [⟨(some 49), .ld false 3 (.t 3), none, true⟩,
  ⟨(some 50), .call (.k (.fn 21 [])) [(.t 49)], none, true⟩,
  ⟨(some 51), .bin .mul (.k (.c (.int .i64 100))) (.t 50), none, true⟩,
  ⟨(some 8), .mv (.t 51), none, true⟩]
@[reducible] def o4_7 : List Ins := [⟨(some 9), .mv (.k (.c (.int .i64 0))), none, true⟩]
@[reducible] def o4_8 : List Ins := [⟨(some 52), .mv (.t 9), none, true⟩,
  ⟨(some 53), .fa 2 (.t 3), none, true⟩,
  ⟨(some 54), .ld true 1 (.t 53), none, true⟩,
  ⟨(some 55), .len (.t 54), none, true⟩,
  ⟨(some 56), .bin .lss (.t 52) (.t 55), none, true⟩]
@[reducible] def v4_9 : VC := (.cond (.t 56) .skip (.exit 0))
@[reducible] def o4_10 : List Ins := [⟨(some 60), .ld false 3 (.t 7), none, true⟩,
  ⟨(some 61), .mv (.t 9), none, true⟩,
  ⟨(some 62), .call (.k (.fn 22 [])) [(.t 60), (.t 61)], none, true⟩,
  ⟨(some 59), .mv (.t 62), none, true⟩,
  ⟨(some 63), .ext (.t 59) 0, none, true⟩,
  ⟨(some 64), .ext (.t 59) 1, none, true⟩,
  ⟨(some 65), .ext (.t 59) 2, none, true⟩,
  ⟨(some 10), .mv (.t 63), none, true⟩,
  ⟨(some 11), .mv (.t 64), none, true⟩,
  ⟨(some 12), .mv (.t 65), none, true⟩]
@[reducible] def o4_11 : List Ins := [⟨(some 66), .ld false 3 (.t 3), none, true⟩,
  ⟨(some 67), .mv (.t 12), none, true⟩,
  ⟨(some 68), .call (.k (.fn 16 [])) [(.t 66), (.t 67)], none, true⟩,
  ⟨(some 69), .un .not (.t 68), none, true⟩]
@[reducible] def o4_12 : List Ins := [⟨(some 6), .mv (.k (.c (.bool false))), none, true⟩]
@[reducible] def v4_13 : VC := (.seq (.ops o4_12) .ret)
@[reducible] def v4_14 : VC := (.cond (.t 69) v4_13 .skip)
@[reducible] def o4_15 : List Ins := [⟨(some 70), .mv (.t 12), none, true⟩,
  ⟨(some 71), .bin .neq (.t 70) (.k (.c (.int .i64 0))), none, true⟩]
@[reducible] def v4_16 : VC := (.cond (.t 71) (.exit 1) .skip)
@[reducible] def o4_17 : List Ins := [⟨(some 73), .ld false 3 (.t 3), none, true⟩,
  ⟨(some 74), .mv (.t 9), none, true⟩,
  ⟨(some 75), .call (.k (.fn 22 [])) [(.t 73), (.t 74)], none, true⟩,
  ⟨(some 72), .mv (.t 75), none, true⟩,
  ⟨(some 76), .ext (.t 72) 0, none, true⟩,
  ⟨(some 77), .ext (.t 72) 1, none, true⟩,
  ⟨(some 78), .ext (.t 72) 2, none, true⟩,
  ⟨(some 13), .mv (.t 76), none, true⟩,
  ⟨(some 14), .mv (.t 77), none, true⟩,
  ⟨(some 15), .mv (.t 78), none, true⟩]
@[reducible] def o4_18 : List Ins := [⟨(some 80), .ld false 3 (.t 3), none, true⟩,
  ⟨(some 81), .mv (.t 2), none, true⟩,
  ⟨(some 82), .call (.k (.fn 22 [])) [(.t 80), (.t 81)], none, true⟩,
  ⟨(some 79), .mv (.t 82), none, true⟩,
  ⟨(some 83), .ext (.t 79) 0, none, true⟩,
  ⟨(some 84), .ext (.t 79) 1, none, true⟩,
  ⟨(some 85), .ext (.t 79) 2, none, true⟩,
  ⟨(some 16), .mv (.t 83), none, true⟩,
  ⟨(some 17), .mv (.t 84), none, true⟩,
  ⟨(some 18), .mv (.t 85), none, true⟩]
@[reducible] def o4_19 : List Ins := [⟨(some 86), .mv (.t 15), none, true⟩,
  ⟨(some 87), .bin .neq (.t 86) (.k (.c (.int .i64 0))), none, true⟩,
  ⟨(some 88), .mv (.t 87), none, true⟩,
  ⟨(some 89), .mv (.t 18), (some (88, false)), true⟩,
  ⟨(some 90), .bin .neq (.t 89) (.k (.c (.int .i64 0))), (some (88, false)), true⟩,
  ⟨(some 91), .pick (.t 88) (.k (.c (.bool true))) (.t 90), none, true⟩,
  ⟨(some 92), .mv (.t 91), none, true⟩,
  ⟨(some 93), .mv (.t 10), (some (92, false)), true⟩,
  ⟨(some 94), .mv (.t 11), (some (92, false)), true⟩,
  ⟨(some 95), .call (.k (.fn 23 [])) [(.t 93), (.t 94)], (some (92, false)), true⟩,
  ⟨(some 96), .un .not (.t 95), (some (92, false)), true⟩,
  ⟨(some 97), .pick (.t 92) (.k (.c (.bool true))) (.t 96), none, true⟩,
  ⟨(some 98), .mv (.t 97), none, true⟩,
  ⟨(some 99), .mv (.t 13), (some (98, false)), true⟩,
  ⟨(some 100), .mv (.t 14), (some (98, false)), true⟩,
  ⟨(some 101), .call (.k (.fn 23 [])) [(.t 99), (.t 100)], (some (98, false)), true⟩,
  ⟨(some 102), .un .not (.t 101), (some (98, false)), true⟩,
  ⟨(some 103), .pick (.t 98) (.k (.c (.bool true))) (.t 102), none, true⟩,
  ⟨(some 104), .mv (.t 103), none, true⟩,
  ⟨(some 105), .mv (.t 16), (some (104, false)), true⟩,
  ⟨(some 106), .mv (.t 17), (some (104, false)), true⟩,
  ⟨(some 107), .call (.k (.fn 23 [])) [(.t 105), (.t 106)], (some (104, false)), true⟩,
  ⟨(some 108), .un .not (.t 107), (some (104, false)), true⟩,
  ⟨(some 109), .pick (.t 104) (.k (.c (.bool true))) (.t 108), none, true⟩,
  ⟨(some 110), .mv (.t 109), none, true⟩,
  ⟨(some 111), .mv (.t 8), (some (110, false)), true⟩,
  ⟨(some 112), .mv (.t 11), (some (110, false)), true⟩,
  ⟨(some 113), .bin .rem (.t 111) (.t 112), (some (110, false)), true⟩,
  ⟨(some 114), .bin .neq (.t 113) (.k (.c (.int .i64 0))), (some (110, false)), true⟩,
  ⟨(some 115), .pick (.t 110) (.k (.c (.bool true))) (.t 114), none, true⟩,
  ⟨(some 116), .mv (.t 115), none, true⟩,
  ⟨(some 117), .mv (.t 8), (some (116, false)), true⟩,
  ⟨(some 118), .mv (.t 14), (some (116, false)), true⟩,
  ⟨(some 119), .bin .rem (.t 117) (.t 118), (some (116, false)), true⟩,
  ⟨(some 120), .bin .neq (.t 119) (.k (.c (.int .i64 0))), (some (116, false)), true⟩,
  ⟨(some 121), .pick (.t 116) (.k (.c (.bool true))) (.t 120), none, true⟩,
  ⟨(some 122), .mv (.t 121), none, true⟩,
  ⟨(some 123), .mv (.t 8), (some (122, false)), true⟩,
  ⟨(some 124), .mv (.t 17), (some (122, false)), true⟩,
  ⟨(some 125), .bin .rem (.t 123) (.t 124), (some (122, false)), true⟩,
  ⟨(some 126), .bin .neq (.t 125) (.k (.c (.int .i64 0))), (some (122, false)), true⟩,
  ⟨(some 127), .pick (.t 122) (.k (.c (.bool true))) (.t 126), none, true⟩]
@[reducible] def o4_20 : List Ins := [⟨(some 6), .mv (.k (.c (.bool false))), none, true⟩]
@[reducible] def v4_21 : VC := (.seq (.ops o4_20) .ret)
@[reducible] def v4_22 : VC := (.cond (.t 127) v4_21 .skip)
@[reducible] def o4_23 : List Ins := [⟨(some 128), .mv (.t 13), none, true⟩,
  ⟨(some 129), .mv (.t 8), none, true⟩,
  ⟨(some 130), .mv (.t 14), none, true⟩,
  ⟨(some 131), .bin .quo (.t 129) (.t 130), none, true⟩,
  ⟨(some 132), .bin .mul (.t 128) (.t 131), none, true⟩,
  ⟨(some 19), .mv (.t 132), none, true⟩]
@[reducible] def o4_24 : List Ins := [⟨(some 133), .mv (.t 9), none, true⟩,
  ⟨(some 134), .mv (.t 1), none, true⟩,
  ⟨(some 135), .bin .eql (.t 133) (.t 134), none, true⟩]
@[reducible] def o4_25 : List Ins := [⟨(some 136), .mv (.t 19), none, true⟩,
  ⟨(some 137), .mv (.t 16), none, true⟩,
  ⟨(some 138), .mv (.t 8), none, true⟩,
  ⟨(some 139), .mv (.t 17), none, true⟩,
  ⟨(some 140), .bin .quo (.t 138) (.t 139), none, true⟩,
  ⟨(some 141), .bin .mul (.t 137) (.t 140), none, true⟩,
  ⟨(some 142), .bin .add (.t 136) (.t 141), none, true⟩,
  ⟨(some 19), .mv (.t 142), none, true⟩]
@[reducible] def v4_26 : VC := (.cond (.t 135) (.ops o4_25) .skip)
@[reducible] def o4_27 : List Ins := [⟨(some 143), .mv (.t 9), none, true⟩,
  ⟨(some 144), .mv (.t 2), none, true⟩,
  ⟨(some 145), .bin .eql (.t 143) (.t 144), none, true⟩]
@[reducible] def o4_28 : List Ins := [⟨(some 19), .mv (.k (.c (.int .i64 0))), none, true⟩]
@[reducible] def v4_29 : VC := (.cond (.t 145) (.ops o4_28) .skip)
@[reducible] def o4_30 : List Ins := [⟨(some 146), .mv (.t 10), none, true⟩,
  ⟨(some 147), .mv (.t 8), none, true⟩,
  ⟨(some 148), .mv (.t 11), none, true⟩,
  ⟨(some 149), .bin .quo (.t 147) (.t 148), none, true⟩,
  ⟨(some 150), .bin .mul (.t 146) (.t 149), none, true⟩,
  ⟨(some 151), .mv (.t 19), none, true⟩,
  ⟨(some 152), .bin .neq (.t 150) (.t 151), none, true⟩]
@[reducible] def o4_31 : List Ins := [⟨(some 6), .mv (.k (.c (.bool false))), none, true⟩]
@[reducible] def v4_32 : VC := (.seq (.ops o4_31) .ret)
@[reducible] def v4_33 : VC := (.cond (.t 152) v4_32 .skip)
@[reducible] def v4_34 : VC := (.seq (.ops o4_30) v4_33)
@[reducible] def v4_35 : VC := (.seq (.seq (.ops o4_27) v4_29) v4_34)
@[reducible] def v4_36 : VC := (.seq (.seq (.ops o4_24) v4_26) v4_35)
@[reducible] def v4_37 : VC := (.seq (.ops o4_23) v4_36)
@[reducible] def v4_38 : VC := (.seq (.seq (.ops o4_19) v4_22) v4_37)
@[reducible] def v4_39 : VC := (.seq (.ops o4_18) v4_38)
@[reducible] def v4_40 : VC := (.seq (.ops o4_17) v4_39)
@[reducible] def v4_41 : VC := (.seq (.seq (.ops o4_15) v4_16) v4_40)
@[reducible] def v4_42 : VC := (.seq (.seq (.ops o4_11) v4_14) v4_41)
@[reducible] def v4_43 : VC := (.seq (.ops o4_10) v4_42)
@[reducible] def o4_44 : List Ins := [⟨(some 57), .mv (.t 9), none, true⟩,
  ⟨(some 58), .bin .add (.t 57) (.k (.c (.int .i64 1))), none, true⟩,
  ⟨(some 9), .mv (.t 58), none, true⟩]
@[reducible] def v4_45 : VC := (.seq (.block 1 v4_43) (.ops o4_44))
@[reducible] def v4_46 : VC := (.seq (.seq (.ops o4_8) v4_9) v4_45)
-- K4_1: changed and kept: [9]
@[reducible] def K4_1 : List Nat := [1, 2, 3, 7, 8]
@[reducible] def v4_47 : VC := (.loop v4_46)
@[reducible] def v4_48 : VC := (.block 0 v4_47)
@[reducible] def o4_49 : List Ins := [⟨(some 154), .ld false 3 (.t 7), none, true⟩,
  ⟨(some 155), .call (.k (.fn 15 [])) [(.t 154)], none, true⟩,
  ⟨(some 153), .mv (.t 155), none, true⟩,
  ⟨(some 156), .ext (.t 153) 0, none, true⟩,
  ⟨(some 157), .ext (.t 153) 1, none, true⟩,
  ⟨(some 20), .mv (.t 156), none, true⟩,
  ⟨(some 21), .mv (.t 157), none, true⟩]
@[reducible] def o4_50 : List Ins := [⟨(some 158), .ld false 3 (.t 3), none, true⟩,
  ⟨(some 159), .mv (.t 21), none, true⟩,
  ⟨(some 160), .call (.k (.fn 16 [])) [(.t 158), (.t 159)], none, true⟩,
  ⟨(some 161), .un .not (.t 160), none, true⟩,
  ⟨(some 162), .mv (.t 161), none, true⟩,
  ⟨(some 163), .mv (.t 21), (some (162, false)), true⟩,
  ⟨(some 164), .bin .eql (.t 163) (.k (.c (.int .i64 0))), (some (162, false)), true⟩,
  ⟨(some 165), .mv (.t 164), (some (162, false)), true⟩,
  ⟨(some 166), .ld false 3 (.t 3), (some (165, true)), true⟩,
  ⟨(some 167), .mv (.t 20), (some (165, true)), true⟩,
  ⟨(some 168), .call (.k (.fn 17 [])) [(.t 166), (.t 167), (.k (.c (.int .i64 9999)))], (some (165, true)), true⟩,
  ⟨(some 169), .un .not (.t 168), (some (165, true)), true⟩,
  ⟨(some 170), .pick (.t 165) (.t 169) (.k (.c (.bool false))), (some (162, false)), true⟩,
  ⟨(some 171), .pick (.t 162) (.k (.c (.bool true))) (.t 170), none, true⟩]
@[reducible] def o4_51 : List Ins := [⟨(some 6), .mv (.k (.c (.bool false))), none, true⟩]
@[reducible] def v4_52 : VC := (.seq (.ops o4_51) .ret)
@[reducible] def v4_53 : VC := (.cond (.t 171) v4_52 .skip)
@[reducible] def o4_54 : List Ins := [⟨(some 22), .mv (.k (.c (.int .i64 0))), none, true⟩]
@[reducible] def o4_55 : List Ins := [⟨(some 23), .mv (.k (.c (.int .i64 0))), none, true⟩]
@[reducible] def o4_56 : List Ins := [⟨(some 172), .mv (.t 23), none, true⟩,
  ⟨(some 173), .mv (.t 20), none, true⟩,
  ⟨(some 174), .len (.t 173), none, true⟩,
  ⟨(some 175), .bin .lss (.t 172) (.t 174), none, true⟩]
@[reducible] def v4_57 : VC := (.cond (.t 175) .skip (.exit 2))
@[reducible] def o4_58 : List Ins := [⟨(some 178), .mv (.t 22), none, true⟩,
  ⟨(some 179), .mv (.t 20), none, true⟩,
  ⟨(some 180), .mv (.t 23), none, true⟩,
  ⟨(some 181), .ia 1 (.t 179) (.t 180), none, true⟩,
  ⟨(some 182), .ld true 1 (.t 181), none, true⟩,
  ⟨(some 183), .bin .add (.t 178) (.t 182), none, true⟩,
  ⟨(some 22), .mv (.t 183), none, true⟩]
@[reducible] def o4_59 : List Ins := [⟨(some 176), .mv (.t 23), none, true⟩,
  ⟨(some 177), .bin .add (.t 176) (.k (.c (.int .i64 1))), none, true⟩,
  ⟨(some 23), .mv (.t 177), none, true⟩]
@[reducible] def v4_60 : VC := (.seq (.block 3 (.ops o4_58)) (.ops o4_59))
@[reducible] def v4_61 : VC := (.seq (.seq (.ops o4_56) v4_57) v4_60)
-- K4_2: changed and kept: [23, 22]
@[reducible] def K4_2 : List Nat := [3, 20, 21]
@[reducible] def v4_62 : VC := (.loop v4_61)
@[reducible] def v4_63 : VC := (.block 2 v4_62)
@[reducible] def o4_64 : List Ins := [⟨(some 184), .mv (.t 21), none, true⟩,
  ⟨(some 185), .bin .neq (.t 184) (.k (.c (.int .i64 0))), none, true⟩,
  ⟨(some 186), .mv (.t 185), none, true⟩,
  ⟨(some 187), .mv (.t 22), (some (186, false)), true⟩,
  ⟨(some 188), .fa 0 (.t 3), (some (186, false)), true⟩,
  ⟨(some 189), .ld true 1 (.t 188), (some (186, false)), true⟩,
  ⟨(some 190), .bin .eql (.t 187) (.t 189), (some (186, false)), true⟩,
  ⟨(some 191), .pick (.t 186) (.k (.c (.bool true))) (.t 190), none, true⟩,
  ⟨(some 192), .mv (.t 191), none, true⟩,
  ⟨(some 193), .call (.k (.fn 14 [])) [], (some (192, true)), true⟩,
  ⟨(some 194), .pick (.t 192) (.t 193) (.k (.c (.bool false))), none, true⟩,
  ⟨(some 6), .mv (.t 194), none, true⟩]
@[reducible] def v4_65 : VC := (.seq (.ops o4_64) .ret)
@[reducible] def v4_66 : VC := (.seq (.seq (.ops o4_55) v4_63) v4_65)
@[reducible] def v4_67 : VC := (.seq (.ops o4_54) v4_66)
@[reducible] def v4_68 : VC := (.seq (.seq (.ops o4_50) v4_53) v4_67)
@[reducible] def v4_69 : VC := (.seq (.ops o4_49) v4_68)
@[reducible] def v4_70 : VC := (.seq (.seq (.ops o4_7) v4_48) v4_69)
@[reducible] def v4_71 : VC := (.seq (.ops o4_6) v4_70)
@[reducible] def v4_72 : VC := (.seq (.ops o4_5) v4_71)
@[reducible] def v4_73 : VC := (.seq (.seq (.ops o4_1) v4_4) v4_72)
def ir4 : FC := ⟨3, 195, [.t 6], (.seq (.ops o4_0) v4_73)⟩
theorem c4 : compM Try.prog [] 4 = some ir4 := by kernel_rfl



structure GcdF (r : Royal) (i : Nat) : Prop where
  rem : (allW r).tmod (allW r / gcdOf r i) = 0
  quo : (allW r).tdiv (allW r / gcdOf r i) = gcdOf r i
  mul : numOf r i / gcdOf r i * gcdOf r i = numOf r i
  ne : allW r / gcdOf r i ≠ 0
  le : 0 < gcdOf r i ∧ gcdOf r i ≤ 5999400
theorem gcd_f {r : Royal} (hW : Weighed r) (i : Nat) : GcdF r i := by
  have hg := gcd_ok hW i
  have hl := hW.le
  have hp := hW.pos
  have h1 := hg.pos
  have hle := Int.le_of_dvd hp hg.a
  obtain ⟨y, hy⟩ := hg.a
  have hd := hg.den
  have e1 : allW r / gcdOf r i = y := by rw [hy, Int.mul_ediv_cancel_left _ (by omega)]
  rw [e1] at hd
  refine ⟨?_, ?_, Int.ediv_mul_cancel hg.n, by rw [e1]; omega, h1, by omega⟩
  · rw [Int.tmod_eq_emod_of_nonneg (by omega), e1, hy]
    exact Int.mul_emod_left _ _
  · rw [Int.tdiv_eq_ediv_of_nonneg (by omega), e1]
    have : allW r / y = gcdOf r i := by rw [hy]; exact Int.mul_ediv_cancel _ (by omega)
    exact this
theorem num_join {r : Royal} {a b : Nat} (hr : RoyalOk r) (ho : RoyalOk (joinR r a b)) (hab : (a : Int) ≠ b) {w : Nat} (hw : w < r.n) :
    numOf (joinR r a b) w = if w = a then numOf r a + numOf r b else if w = b then 0 else numOf r w := by
  have h := wts_join hr ho hab hw (by omega) (by omega)
  unfold numOf
  rw [Int.toNat_natCast, h]
  show r.pool * _ = _
  unfold joinW
  by_cases h1 : w = a
  · rw [if_pos h1, if_pos (by omega), Int.mul_add]
  · rw [if_neg h1, if_neg (by omega)]
    by_cases h2 : w = b
    · rw [if_pos h2, if_pos (by omega), Int.mul_zero]
    · rw [if_neg h2, if_neg (by omega)]
      show r.pool * (wts r).getD ((w : Int)).toNat 0 = _
      rw [Int.toNat_natCast]
theorem sum_take {l : List Int} {k : Nat} (h : k < l.length) : (l.take (k + 1)).sum = (l.take k).sum + l[k] := by
  rw [List.take_succ_eq_append_getElem h, List.sum_append]; simp
theorem sum_take_bd {l : List Int} (h : ∀ x ∈ l, 0 ≤ x ∧ x ≤ 9999) : ∀ k, k ≤ l.length → 0 ≤ (l.take k).sum ∧ (l.take k).sum ≤ 9999 * (k : Int)
  | 0, _ => by simp
  | k + 1, hk => by
    have ih := sum_take_bd h k (by omega)
    have := h _ (List.getElem_mem (show k < l.length from hk))
    rw [sum_take hk]
    omega

set_option maxRecDepth 20000 in
set_option maxHeartbeats 16000000 in
theorem tail4 {C : Ctx} (hP : C.P = Try.prog) {r : Royal} (hr : RoyalOk r) (hok : r.ok = true) {a b : Nat} (hab : (a : Int) ≠ b) (ha : a < r.n) (hb : b < r.n) :
    WV C v4_71 (RetQ [.t 6] (.c (.bool true))) ⟨upd (upd (upd (upd e0 1 (iv a)) 2 (iv b)) 3 (.bp 3 0)) 7 (.bp 7 0), upd (upd o0 3 (.box [iv r.pool, .c (sidesC r.sides), .c (ints r.owed)])) 7 (.box [iv r.pool, .c (sidesC (joinR r a b).sides), .c (ints r.owed)])⟩ := by
  have hoav : (joinR r a b).av = .agg [iv r.pool, .c (sidesC (joinR r a b).sides), .c (ints r.owed)] := rfl
  have hn6 := hr.n6
  have hnl : r.owed.length = r.n := rfl
  have hok' := join_ok hok hab (by omega) (by omega)
  have hor := Royal.ok_spec hok'
  have hao : allW (joinR r a b) = allW r := allW_join
  have hpl := plays21 hr
  have hap := allW_plays r
  have hab2 := allW_bd hr
  have hwp : IntKind.i64.wrap (100 * playsOf r) = allW r := by rw [w64 (by omega) (by omega)]; omega
  have c1 := fun w : Nat => exact22 (joinR r a b) w
  have c2 := fun w : Nat => exact22 r w
  have c4 := shares15 (joinR r a b)
  rw [hoav] at c4
  simp only [hoav] at c1
  (repeat ((first | refine WV_seq_ ?_ | refine WV_block ?_ | refine WV_ops ?_ | refine WV_skip ?_ | refine WV_exit ?_); (try simp only [go_sem, init_env', Nat.reduceEqDiff, Nat.reduceAdd, Nat.reduceMul, reduceIte, Nat.reduceLeDiff, Nat.reduceLT, Nat.reduceBEq, reduceCtorEq, hP, ]); (repeat (refine And.intro (by first | omega | (intros; simp_all; done) | (intros; simp_all; omega)) ?_))))
  (refine AS_pure (hpl) rfl rfl rfl rfl rfl ?_; simp only [go_sem, init_env', Nat.reduceEqDiff, Nat.reduceAdd, Nat.reduceMul, reduceIte, Nat.reduceLeDiff, Nat.reduceLT, Nat.reduceBEq, reduceCtorEq, hP, Royal.av, hwp]; (repeat (refine And.intro (by first | omega | (intros; simp_all; done) | (intros; simp_all; omega)) ?_)); (repeat ((first | refine WV_seq_ ?_ | refine WV_block ?_ | refine WV_ops ?_ | refine WV_skip ?_ | refine WV_exit ?_); (try simp only [go_sem, init_env', Nat.reduceEqDiff, Nat.reduceAdd, Nat.reduceMul, reduceIte, Nat.reduceLeDiff, Nat.reduceLT, Nat.reduceBEq, reduceCtorEq, hP, Royal.av, hwp]); (repeat (refine And.intro (by first | omega | (intros; simp_all; done) | (intros; simp_all; omega)) ?_)))))
  by_cases h0 : allW r = 0
  · have hp0 : playsOf r = 0 := by omega
    have hx1 : ∀ w : Nat, w < r.n → exactS (joinR r a b) w = (0, 0, 3) := fun w hw => by
      have hw' : isW (joinR r a b) w = true := by unfold isW within; rw [join_n]; simp; omega
      unfold exactS weighE
      rw [hw', if_pos hok', hao, if_pos h0]; rfl
    have hx2 : sharesS (joinR r a b) = ([], 3) := by
      unfold sharesS weighE
      rw [if_pos hok', hao, if_pos h0]; rfl
    have hpl3 := plain16 hr 3
    rw [show plainB r 3 = true by simp [plainB, hp0]] at hpl3
    rw [hx2] at c4
    refine WV_loopK K4_1 [] (fun w : Nat => w ≤ r.n) (fun w => r.n - w) (fun w => [(9, iv w)]) (fun _ => []) 0 (Nat.zero_le _) ?_ ?_
    · (refine Sub_of (by simp only [go_sem, init_env', Nat.reduceEqDiff, Nat.reduceAdd, Nat.reduceMul, reduceIte, Nat.reduceLeDiff, Nat.reduceLT, Nat.reduceBEq, reduceCtorEq]; ((repeat' (first | exact EnvLe_e0 _ _ | refine EnvLe_upd ?_ ?_)) <;> ((try simp only [upd_app, e0_app, o0_app, Nat.reduceEqDiff, reduceIte]); first | exact AWk.refl _ _ | exact AWk.int (by omega) | exact AWk.int (by rw [w64 (by omega) (by omega)]; omega) | exact AWk.grow rfl | exact AWk.nil _ | exact AWk.of (by simp)))) (by simp only [go_sem, init_env', Nat.reduceEqDiff, Nat.reduceAdd, Nat.reduceMul, reduceIte, Nat.reduceLeDiff, Nat.reduceLT, Nat.reduceBEq, reduceCtorEq]; ((repeat' (first | exact ObjLe_o0 _ | exact ObjLe.rfl' _ | refine ObjLe_same ?_ | refine ObjLe_upd ?_ ?_ | refine ObjLe_new rfl ?_)) <;> rfl)))
    · intro w hw
      simp only [go_sem, init_env', Nat.reduceEqDiff, Nat.reduceAdd, Nat.reduceMul, reduceIte, Nat.reduceLeDiff, Nat.reduceLT, Nat.reduceBEq, reduceCtorEq]
      (repeat ((first | refine WV_seq_ ?_ | refine WV_block ?_ | refine WV_ops ?_ | refine WV_skip ?_ | refine WV_exit ?_); (try simp only [go_sem, init_env', Nat.reduceEqDiff, Nat.reduceAdd, Nat.reduceMul, reduceIte, Nat.reduceLeDiff, Nat.reduceLT, Nat.reduceBEq, reduceCtorEq, hP, ints, List.length_map, hnl]); (repeat (refine And.intro (by first | omega | (intros; simp_all; done) | (intros; simp_all; omega)) ?_))))
      (refine WV_cond rfl (fun h => ?_) (fun h => ?_))
      · have hwl : w < r.n := by simpa using h
        have hw5 := w64 (n := (w : Int) + 1) (by omega) (by omega)
        have c1 := c1 w
        rw [hx1 w hwl] at c1
        (repeat ((first | refine WV_seq_ ?_ | refine WV_block ?_ | refine WV_ops ?_ | refine WV_skip ?_ | refine WV_exit ?_); (try simp only [go_sem, init_env', Nat.reduceEqDiff, Nat.reduceAdd, Nat.reduceMul, reduceIte, Nat.reduceLeDiff, Nat.reduceLT, Nat.reduceBEq, reduceCtorEq, hP, ]); (repeat (refine And.intro (by first | omega | (intros; simp_all; done) | (intros; simp_all; omega)) ?_))))
        (refine AS_pure (c1) rfl rfl rfl rfl rfl ?_; simp only [go_sem, init_env', Nat.reduceEqDiff, Nat.reduceAdd, Nat.reduceMul, reduceIte, Nat.reduceLeDiff, Nat.reduceLT, Nat.reduceBEq, reduceCtorEq, hP, ]; (repeat (refine And.intro (by first | omega | (intros; simp_all; done) | (intros; simp_all; omega)) ?_)); (repeat ((first | refine WV_seq_ ?_ | refine WV_block ?_ | refine WV_ops ?_ | refine WV_skip ?_ | refine WV_exit ?_); (try simp only [go_sem, init_env', Nat.reduceEqDiff, Nat.reduceAdd, Nat.reduceMul, reduceIte, Nat.reduceLeDiff, Nat.reduceLT, Nat.reduceBEq, reduceCtorEq, hP, ]); (repeat (refine And.intro (by first | omega | (intros; simp_all; done) | (intros; simp_all; omega)) ?_)))))
        (refine AS_pure (hpl3) rfl rfl rfl rfl rfl ?_; simp only [go_sem, init_env', Nat.reduceEqDiff, Nat.reduceAdd, Nat.reduceMul, reduceIte, Nat.reduceLeDiff, Nat.reduceLT, Nat.reduceBEq, reduceCtorEq, hP, Royal.av]; (repeat (refine And.intro (by first | omega | (intros; simp_all; done) | (intros; simp_all; omega)) ?_)); (repeat ((first | refine WV_seq_ ?_ | refine WV_block ?_ | refine WV_ops ?_ | refine WV_skip ?_ | refine WV_exit ?_); (try simp only [go_sem, init_env', Nat.reduceEqDiff, Nat.reduceAdd, Nat.reduceMul, reduceIte, Nat.reduceLeDiff, Nat.reduceLT, Nat.reduceBEq, reduceCtorEq, hP, Royal.av]); (repeat (refine And.intro (by first | omega | (intros; simp_all; done) | (intros; simp_all; omega)) ?_)))))
        (refine WV_cond rfl (fun h => ?_) (fun h => ?_))
        · simp at h
        (repeat ((first | refine WV_seq_ ?_ | refine WV_block ?_ | refine WV_ops ?_ | refine WV_skip ?_ | refine WV_exit ?_); (try simp only [go_sem, init_env', Nat.reduceEqDiff, Nat.reduceAdd, Nat.reduceMul, reduceIte, Nat.reduceLeDiff, Nat.reduceLT, Nat.reduceBEq, reduceCtorEq, hP, ]); (repeat (refine And.intro (by first | omega | (intros; simp_all; done) | (intros; simp_all; omega)) ?_))))
        (refine WV_cond rfl (fun h => ?_) (fun h => ?_))
        · (repeat ((first | refine WV_seq_ ?_ | refine WV_block ?_ | refine WV_ops ?_ | refine WV_skip ?_ | refine WV_exit ?_); (try simp only [go_sem, init_env', Nat.reduceEqDiff, Nat.reduceAdd, Nat.reduceMul, reduceIte, Nat.reduceLeDiff, Nat.reduceLT, Nat.reduceBEq, reduceCtorEq, hP, hw5]); (repeat (refine And.intro (by first | omega | (intros; simp_all; done) | (intros; simp_all; omega)) ?_))))
          refine ⟨w + 1, by omega, by omega, ?_⟩
          (refine Sub_of (by simp only [go_sem, init_env', Nat.reduceEqDiff, Nat.reduceAdd, Nat.reduceMul, reduceIte, Nat.reduceLeDiff, Nat.reduceLT, Nat.reduceBEq, reduceCtorEq]; ((repeat' (first | exact EnvLe_e0 _ _ | refine EnvLe_upd ?_ ?_)) <;> ((try simp only [upd_app, e0_app, o0_app, Nat.reduceEqDiff, reduceIte]); first | exact AWk.refl _ _ | exact AWk.int (by omega) | exact AWk.int (by rw [w64 (by omega) (by omega)]; omega) | exact AWk.grow rfl | exact AWk.nil _ | exact AWk.of (by simp)))) (by simp only [go_sem, init_env', Nat.reduceEqDiff, Nat.reduceAdd, Nat.reduceMul, reduceIte, Nat.reduceLeDiff, Nat.reduceLT, Nat.reduceBEq, reduceCtorEq]; ((repeat' (first | exact ObjLe_o0 _ | exact ObjLe.rfl' _ | refine ObjLe_same ?_ | refine ObjLe_upd ?_ ?_ | refine ObjLe_new rfl ?_)) <;> rfl)))
        · simp at h
      · (refine WV_exit ?_; simp only [go_sem, init_env', Nat.reduceEqDiff, Nat.reduceAdd, Nat.reduceMul, reduceIte, Nat.reduceLeDiff, Nat.reduceLT, Nat.reduceBEq, reduceCtorEq])
        (repeat ((first | refine WV_seq_ ?_ | refine WV_block ?_ | refine WV_ops ?_ | refine WV_skip ?_ | refine WV_exit ?_); (try simp only [go_sem, init_env', Nat.reduceEqDiff, Nat.reduceAdd, Nat.reduceMul, reduceIte, Nat.reduceLeDiff, Nat.reduceLT, Nat.reduceBEq, reduceCtorEq, hP, ]); (repeat (refine And.intro (by first | omega | (intros; simp_all; done) | (intros; simp_all; omega)) ?_))))
        (refine AS_pure (c4) rfl rfl rfl rfl rfl ?_; simp only [go_sem, init_env', Nat.reduceEqDiff, Nat.reduceAdd, Nat.reduceMul, reduceIte, Nat.reduceLeDiff, Nat.reduceLT, Nat.reduceBEq, reduceCtorEq, hP, ]; (repeat (refine And.intro (by first | omega | (intros; simp_all; done) | (intros; simp_all; omega)) ?_)); (repeat ((first | refine WV_seq_ ?_ | refine WV_block ?_ | refine WV_ops ?_ | refine WV_skip ?_ | refine WV_exit ?_); (try simp only [go_sem, init_env', Nat.reduceEqDiff, Nat.reduceAdd, Nat.reduceMul, reduceIte, Nat.reduceLeDiff, Nat.reduceLT, Nat.reduceBEq, reduceCtorEq, hP, ]); (repeat (refine And.intro (by first | omega | (intros; simp_all; done) | (intros; simp_all; omega)) ?_)))))
        (refine AS_pure (hpl3) rfl rfl rfl rfl rfl ?_; simp only [go_sem, init_env', Nat.reduceEqDiff, Nat.reduceAdd, Nat.reduceMul, reduceIte, Nat.reduceLeDiff, Nat.reduceLT, Nat.reduceBEq, reduceCtorEq, hP, Royal.av]; (repeat (refine And.intro (by first | omega | (intros; simp_all; done) | (intros; simp_all; omega)) ?_)); (repeat ((first | refine WV_seq_ ?_ | refine WV_block ?_ | refine WV_ops ?_ | refine WV_skip ?_ | refine WV_exit ?_); (try simp only [go_sem, init_env', Nat.reduceEqDiff, Nat.reduceAdd, Nat.reduceMul, reduceIte, Nat.reduceLeDiff, Nat.reduceLT, Nat.reduceBEq, reduceCtorEq, hP, Royal.av]); (repeat (refine And.intro (by first | omega | (intros; simp_all; done) | (intros; simp_all; omega)) ?_)))))
        (refine AG_skip ?_; simp only [go_sem, init_env', Nat.reduceEqDiff, Nat.reduceAdd, Nat.reduceMul, reduceIte, Nat.reduceLeDiff, Nat.reduceLT, Nat.reduceBEq, reduceCtorEq, hP, ]; (repeat (refine And.intro (by first | omega | (intros; simp_all; done) | (intros; simp_all; omega)) ?_)); (repeat ((first | refine WV_seq_ ?_ | refine WV_block ?_ | refine WV_ops ?_ | refine WV_skip ?_ | refine WV_exit ?_); (try simp only [go_sem, init_env', Nat.reduceEqDiff, Nat.reduceAdd, Nat.reduceMul, reduceIte, Nat.reduceLeDiff, Nat.reduceLT, Nat.reduceBEq, reduceCtorEq, hP, ]); (repeat (refine And.intro (by first | omega | (intros; simp_all; done) | (intros; simp_all; omega)) ?_)))))
        (refine WV_cond rfl (fun h => ?_) (fun h => ?_))
        · simp at h
        (repeat ((first | refine WV_seq_ ?_ | refine WV_block ?_ | refine WV_ops ?_ | refine WV_skip ?_ | refine WV_exit ?_); (try simp only [go_sem, init_env', Nat.reduceEqDiff, Nat.reduceAdd, Nat.reduceMul, reduceIte, Nat.reduceLeDiff, Nat.reduceLT, Nat.reduceBEq, reduceCtorEq, hP, ]); (repeat (refine And.intro (by first | omega | (intros; simp_all; done) | (intros; simp_all; omega)) ?_))))
        refine WV_loopK K4_2 [] (fun _ : Unit => True) (fun _ => 0) (fun _ => [(23, iv 0), (22, iv 0)]) (fun _ => []) () trivial ?_ ?_
        · (refine Sub_of (by simp only [go_sem, init_env', Nat.reduceEqDiff, Nat.reduceAdd, Nat.reduceMul, reduceIte, Nat.reduceLeDiff, Nat.reduceLT, Nat.reduceBEq, reduceCtorEq]; ((repeat' (first | exact EnvLe_e0 _ _ | refine EnvLe_upd ?_ ?_)) <;> ((try simp only [upd_app, e0_app, o0_app, Nat.reduceEqDiff, reduceIte]); first | exact AWk.refl _ _ | exact AWk.int (by omega) | exact AWk.int (by rw [w64 (by omega) (by omega)]; omega) | exact AWk.grow rfl | exact AWk.nil _ | exact AWk.of (by simp)))) (by simp only [go_sem, init_env', Nat.reduceEqDiff, Nat.reduceAdd, Nat.reduceMul, reduceIte, Nat.reduceLeDiff, Nat.reduceLT, Nat.reduceBEq, reduceCtorEq]; ((repeat' (first | exact ObjLe_o0 _ | exact ObjLe.rfl' _ | refine ObjLe_same ?_ | refine ObjLe_upd ?_ ?_ | refine ObjLe_new rfl ?_)) <;> rfl)))
        · rintro - -
          simp only [go_sem, init_env', Nat.reduceEqDiff, Nat.reduceAdd, Nat.reduceMul, reduceIte, Nat.reduceLeDiff, Nat.reduceLT, Nat.reduceBEq, reduceCtorEq]
          (repeat ((first | refine WV_seq_ ?_ | refine WV_block ?_ | refine WV_ops ?_ | refine WV_skip ?_ | refine WV_exit ?_); (try simp only [go_sem, init_env', Nat.reduceEqDiff, Nat.reduceAdd, Nat.reduceMul, reduceIte, Nat.reduceLeDiff, Nat.reduceLT, Nat.reduceBEq, reduceCtorEq, hP, ints, List.map_nil, List.length_nil, Int.natCast_zero]); (repeat (refine And.intro (by first | omega | (intros; simp_all; done) | (intros; simp_all; omega)) ?_))))
          (refine WV_cond rfl (fun h => ?_) (fun h => ?_))
          · simp at h
          · (refine WV_exit ?_; simp only [go_sem, init_env', Nat.reduceEqDiff, Nat.reduceAdd, Nat.reduceMul, reduceIte, Nat.reduceLeDiff, Nat.reduceLT, Nat.reduceBEq, reduceCtorEq])
            (repeat ((first | refine WV_seq_ ?_ | refine WV_block ?_ | refine WV_ops ?_ | refine WV_skip ?_ | refine WV_exit ?_); (try simp only [go_sem, init_env', Nat.reduceEqDiff, Nat.reduceAdd, Nat.reduceMul, reduceIte, Nat.reduceLeDiff, Nat.reduceLT, Nat.reduceBEq, reduceCtorEq, hP, ]); (repeat (refine And.intro (by first | omega | (intros; simp_all; done) | (intros; simp_all; omega)) ?_))))
            (refine AG_pure (fun hG => works14) rfl (fun hG => by first | (simp only [go_sem, init_env', Nat.reduceEqDiff, Nat.reduceAdd, Nat.reduceMul, reduceIte, Nat.reduceLeDiff, Nat.reduceLT, Nat.reduceBEq, reduceCtorEq, hG]; done) | (simp only [go_sem, init_env', Nat.reduceEqDiff, Nat.reduceAdd, Nat.reduceMul, reduceIte, Nat.reduceLeDiff, Nat.reduceLT, Nat.reduceBEq, reduceCtorEq]; revert hG; simp; done) | (simp only [go_sem, init_env', Nat.reduceEqDiff, Nat.reduceAdd, Nat.reduceMul, reduceIte, Nat.reduceLeDiff, Nat.reduceLT, Nat.reduceBEq, reduceCtorEq, hG]; simp_all; done) | (revert hG; simp; done) | simp_all) rfl rfl rfl ?_; simp only [go_sem, init_env', Nat.reduceEqDiff, Nat.reduceAdd, Nat.reduceMul, reduceIte, Nat.reduceLeDiff, Nat.reduceLT, Nat.reduceBEq, reduceCtorEq, hP, ]; (repeat (refine And.intro (by first | omega | (intros; simp_all; done) | (intros; simp_all; omega)) ?_)); (repeat ((first | refine WV_seq_ ?_ | refine WV_block ?_ | refine WV_ops ?_ | refine WV_skip ?_ | refine WV_exit ?_); (try simp only [go_sem, init_env', Nat.reduceEqDiff, Nat.reduceAdd, Nat.reduceMul, reduceIte, Nat.reduceLeDiff, Nat.reduceLT, Nat.reduceBEq, reduceCtorEq, hP, ]); (repeat (refine And.intro (by first | omega | (intros; simp_all; done) | (intros; simp_all; omega)) ?_)))))
            (refine WV_ret ?_; simp only [thenQ, inQ, RetQ, RetOk, resAll, resA]; simp only [go_sem, init_env', Nat.reduceEqDiff, Nat.reduceAdd, Nat.reduceMul, reduceIte, Nat.reduceLeDiff, Nat.reduceLT, Nat.reduceBEq, reduceCtorEq, tupA, AV.port, AV.portL, exists_eq_left', ]; (first | exact AVle.of rfl | refine AVle.of ?_ | skip))
  · have hW : Weighed r := ⟨hok, hr, by omega, hab2.2, wts_len r, wts_bd hr, wts_sum hr⟩
    have hWo : Weighed (joinR r a b) := ⟨hok', hor, by omega, by omega, wts_len _, wts_bd hor, wts_sum hor⟩
    have hp0 : playsOf r ≠ 0 := by omega
    have hpl3 := plain16 hr 0
    rw [show plainB r 0 = true by simp [plainB, hp0]] at hpl3
    have hfb := frac23 (numOf r b / gcdOf r b) (allW r / gcdOf r b)
    rw [frac_ok (gcd_ok hW b)] at hfb
    have gb := gcd_f hW b
    have hnb := numOf_bd (who := b) hW
    have hbb := (gcd_ok hW b).num
    have c2b := c2 b
    rw [exact_ok hW hb] at c2b
    refine WV_loopK K4_1 [] (fun w : Nat => w ≤ r.n) (fun w => r.n - w) (fun w => [(9, iv w)]) (fun _ => []) 0 (Nat.zero_le _) ?_ ?_
    · (refine Sub_of (by simp only [go_sem, init_env', Nat.reduceEqDiff, Nat.reduceAdd, Nat.reduceMul, reduceIte, Nat.reduceLeDiff, Nat.reduceLT, Nat.reduceBEq, reduceCtorEq]; ((repeat' (first | exact EnvLe_e0 _ _ | refine EnvLe_upd ?_ ?_)) <;> ((try simp only [upd_app, e0_app, o0_app, Nat.reduceEqDiff, reduceIte]); first | exact AWk.refl _ _ | exact AWk.int (by omega) | exact AWk.int (by rw [w64 (by omega) (by omega)]; omega) | exact AWk.grow rfl | exact AWk.nil _ | exact AWk.of (by simp)))) (by simp only [go_sem, init_env', Nat.reduceEqDiff, Nat.reduceAdd, Nat.reduceMul, reduceIte, Nat.reduceLeDiff, Nat.reduceLT, Nat.reduceBEq, reduceCtorEq]; ((repeat' (first | exact ObjLe_o0 _ | exact ObjLe.rfl' _ | refine ObjLe_same ?_ | refine ObjLe_upd ?_ ?_ | refine ObjLe_new rfl ?_)) <;> rfl)))
    · intro w hw
      simp only [go_sem, init_env', Nat.reduceEqDiff, Nat.reduceAdd, Nat.reduceMul, reduceIte, Nat.reduceLeDiff, Nat.reduceLT, Nat.reduceBEq, reduceCtorEq]
      (repeat ((first | refine WV_seq_ ?_ | refine WV_block ?_ | refine WV_ops ?_ | refine WV_skip ?_ | refine WV_exit ?_); (try simp only [go_sem, init_env', Nat.reduceEqDiff, Nat.reduceAdd, Nat.reduceMul, reduceIte, Nat.reduceLeDiff, Nat.reduceLT, Nat.reduceBEq, reduceCtorEq, hP, ints, List.length_map, hnl]); (repeat (refine And.intro (by first | omega | (intros; simp_all; done) | (intros; simp_all; omega)) ?_))))
      (refine WV_cond rfl (fun h => ?_) (fun h => ?_))
      · have hwl : w < r.n := by simpa using h
        have hw5 := w64 (n := (w : Int) + 1) (by omega) (by omega)
        have c1 := c1 w
        have c2 := c2 w
        rw [exact_ok hWo hwl] at c1
        rw [exact_ok hW hwl] at c2
        have hfo := frac23 (numOf (joinR r a b) w / gcdOf (joinR r a b) w) (allW (joinR r a b) / gcdOf (joinR r a b) w)
        rw [frac_ok (gcd_ok hWo w)] at hfo
        have hfw := frac23 (numOf r w / gcdOf r w) (allW r / gcdOf r w)
        rw [frac_ok (gcd_ok hW w)] at hfw
        have go := gcd_f hWo w
        have gw := gcd_f hW w
        have hnw := numOf_bd (who := w) hW
        have hno := numOf_bd (who := w) hWo
        have hbw := (gcd_ok hW w).num
        have hbo := (gcd_ok hWo w).num
        have hj := num_join hr hor hab hwl
        rw [hao] at c1 hfo
        obtain ⟨o1, o2, o3, o4, o5, o6⟩ := go
        obtain ⟨x1, x2, x3, x4, x5, x6⟩ := gw
        obtain ⟨y1, y2, y3, y4, y5, y6⟩ := gb
        rw [hao] at o1 o2 o4
        generalize numOf (joinR r a b) w = No at *
        generalize gcdOf (joinR r a b) w = Go at *
        generalize hNw : numOf r w = Nw at *
        generalize hGw : gcdOf r w = Gw at *
        generalize hNb : numOf r b = Nb at *
        generalize hGb : gcdOf r b = Gb at *
        generalize allW r / Go = Do at *
        generalize allW r / Gw = Dw at *
        generalize allW r / Gb = Db at *
        generalize No / Go = Qo at *
        generalize Nw / Gw = Qw at *
        generalize Nb / Gb = Qb at *
        have wo := w64 (n := Go) (by omega) (by omega)
        have ww := w64 (n := Gw) (by omega) (by omega)
        have wb := w64 (n := Gb) (by omega) (by omega)
        have wno := w64 (n := No) (by omega) (by omega)
        have wnw := w64 (n := Nw) (by omega) (by omega)
        have wnb := w64 (n := Nb) (by omega) (by omega)
        have wns := w64 (n := Nw + Nb) (by omega) (by omega)
        have wz : IntKind.i64.wrap 0 = 0 := by decide
        (repeat ((first | refine WV_seq_ ?_ | refine WV_block ?_ | refine WV_ops ?_ | refine WV_skip ?_ | refine WV_exit ?_); (try simp only [go_sem, init_env', Nat.reduceEqDiff, Nat.reduceAdd, Nat.reduceMul, reduceIte, Nat.reduceLeDiff, Nat.reduceLT, Nat.reduceBEq, reduceCtorEq, hP, ]); (repeat (refine And.intro (by first | omega | (intros; simp_all; done) | (intros; simp_all; omega)) ?_))))
        (refine AS_pure (c1) rfl rfl rfl rfl rfl ?_; simp only [go_sem, init_env', Nat.reduceEqDiff, Nat.reduceAdd, Nat.reduceMul, reduceIte, Nat.reduceLeDiff, Nat.reduceLT, Nat.reduceBEq, reduceCtorEq, hP, ]; (repeat (refine And.intro (by first | omega | (intros; simp_all; done) | (intros; simp_all; omega)) ?_)); (repeat ((first | refine WV_seq_ ?_ | refine WV_block ?_ | refine WV_ops ?_ | refine WV_skip ?_ | refine WV_exit ?_); (try simp only [go_sem, init_env', Nat.reduceEqDiff, Nat.reduceAdd, Nat.reduceMul, reduceIte, Nat.reduceLeDiff, Nat.reduceLT, Nat.reduceBEq, reduceCtorEq, hP, ]); (repeat (refine And.intro (by first | omega | (intros; simp_all; done) | (intros; simp_all; omega)) ?_)))))
        (refine AS_pure (hpl3) rfl rfl rfl rfl rfl ?_; simp only [go_sem, init_env', Nat.reduceEqDiff, Nat.reduceAdd, Nat.reduceMul, reduceIte, Nat.reduceLeDiff, Nat.reduceLT, Nat.reduceBEq, reduceCtorEq, hP, Royal.av]; (repeat (refine And.intro (by first | omega | (intros; simp_all; done) | (intros; simp_all; omega)) ?_)); (repeat ((first | refine WV_seq_ ?_ | refine WV_block ?_ | refine WV_ops ?_ | refine WV_skip ?_ | refine WV_exit ?_); (try simp only [go_sem, init_env', Nat.reduceEqDiff, Nat.reduceAdd, Nat.reduceMul, reduceIte, Nat.reduceLeDiff, Nat.reduceLT, Nat.reduceBEq, reduceCtorEq, hP, Royal.av]); (repeat (refine And.intro (by first | omega | (intros; simp_all; done) | (intros; simp_all; omega)) ?_)))))
        (refine WV_cond rfl (fun h => ?_) (fun h => ?_))
        · simp at h
        (repeat ((first | refine WV_seq_ ?_ | refine WV_block ?_ | refine WV_ops ?_ | refine WV_skip ?_ | refine WV_exit ?_); (try simp only [go_sem, init_env', Nat.reduceEqDiff, Nat.reduceAdd, Nat.reduceMul, reduceIte, Nat.reduceLeDiff, Nat.reduceLT, Nat.reduceBEq, reduceCtorEq, hP, ]); (repeat (refine And.intro (by first | omega | (intros; simp_all; done) | (intros; simp_all; omega)) ?_))))
        (refine WV_cond rfl (fun h => ?_) (fun h => ?_))
        · simp at h
        (repeat ((first | refine WV_seq_ ?_ | refine WV_block ?_ | refine WV_ops ?_ | refine WV_skip ?_ | refine WV_exit ?_); (try simp only [go_sem, init_env', Nat.reduceEqDiff, Nat.reduceAdd, Nat.reduceMul, reduceIte, Nat.reduceLeDiff, Nat.reduceLT, Nat.reduceBEq, reduceCtorEq, hP, ]); (repeat (refine And.intro (by first | omega | (intros; simp_all; done) | (intros; simp_all; omega)) ?_))))
        (refine AS_pure (c2) rfl rfl rfl rfl rfl ?_; simp only [go_sem, init_env', Nat.reduceEqDiff, Nat.reduceAdd, Nat.reduceMul, reduceIte, Nat.reduceLeDiff, Nat.reduceLT, Nat.reduceBEq, reduceCtorEq, hP, Royal.av]; (repeat (refine And.intro (by first | omega | (intros; simp_all; done) | (intros; simp_all; omega)) ?_)); (repeat ((first | refine WV_seq_ ?_ | refine WV_block ?_ | refine WV_ops ?_ | refine WV_skip ?_ | refine WV_exit ?_); (try simp only [go_sem, init_env', Nat.reduceEqDiff, Nat.reduceAdd, Nat.reduceMul, reduceIte, Nat.reduceLeDiff, Nat.reduceLT, Nat.reduceBEq, reduceCtorEq, hP, Royal.av]); (repeat (refine And.intro (by first | omega | (intros; simp_all; done) | (intros; simp_all; omega)) ?_)))))
        (refine AS_pure (c2b) rfl rfl rfl rfl rfl ?_; simp only [go_sem, init_env', Nat.reduceEqDiff, Nat.reduceAdd, Nat.reduceMul, reduceIte, Nat.reduceLeDiff, Nat.reduceLT, Nat.reduceBEq, reduceCtorEq, hP, Royal.av, bne_self_eq_false]; (repeat (refine And.intro (by first | omega | (intros; simp_all; done) | (intros; simp_all; omega)) ?_)); (repeat ((first | refine WV_seq_ ?_ | refine WV_block ?_ | refine WV_ops ?_ | refine WV_skip ?_ | refine WV_exit ?_); (try simp only [go_sem, init_env', Nat.reduceEqDiff, Nat.reduceAdd, Nat.reduceMul, reduceIte, Nat.reduceLeDiff, Nat.reduceLT, Nat.reduceBEq, reduceCtorEq, hP, Royal.av, bne_self_eq_false]); (repeat (refine And.intro (by first | omega | (intros; simp_all; done) | (intros; simp_all; omega)) ?_)))))
        (refine AG_pure (fun hG => hfo) rfl (fun hG => by first | (simp only [go_sem, init_env', Nat.reduceEqDiff, Nat.reduceAdd, Nat.reduceMul, reduceIte, Nat.reduceLeDiff, Nat.reduceLT, Nat.reduceBEq, reduceCtorEq, hG]; done) | (simp only [go_sem, init_env', Nat.reduceEqDiff, Nat.reduceAdd, Nat.reduceMul, reduceIte, Nat.reduceLeDiff, Nat.reduceLT, Nat.reduceBEq, reduceCtorEq]; revert hG; simp; done) | (simp only [go_sem, init_env', Nat.reduceEqDiff, Nat.reduceAdd, Nat.reduceMul, reduceIte, Nat.reduceLeDiff, Nat.reduceLT, Nat.reduceBEq, reduceCtorEq, hG]; simp_all; done) | (revert hG; simp; done) | simp_all) rfl rfl rfl ?_; simp only [go_sem, init_env', Nat.reduceEqDiff, Nat.reduceAdd, Nat.reduceMul, reduceIte, Nat.reduceLeDiff, Nat.reduceLT, Nat.reduceBEq, reduceCtorEq, hP, ]; (repeat (refine And.intro (by first | omega | (intros; simp_all; done) | (intros; simp_all; omega)) ?_)); (repeat ((first | refine WV_seq_ ?_ | refine WV_block ?_ | refine WV_ops ?_ | refine WV_skip ?_ | refine WV_exit ?_); (try simp only [go_sem, init_env', Nat.reduceEqDiff, Nat.reduceAdd, Nat.reduceMul, reduceIte, Nat.reduceLeDiff, Nat.reduceLT, Nat.reduceBEq, reduceCtorEq, hP, ]); (repeat (refine And.intro (by first | omega | (intros; simp_all; done) | (intros; simp_all; omega)) ?_)))))
        (refine AG_pure (fun hG => hfw) rfl (fun hG => by first | (simp only [go_sem, init_env', Nat.reduceEqDiff, Nat.reduceAdd, Nat.reduceMul, reduceIte, Nat.reduceLeDiff, Nat.reduceLT, Nat.reduceBEq, reduceCtorEq, hG]; done) | (simp only [go_sem, init_env', Nat.reduceEqDiff, Nat.reduceAdd, Nat.reduceMul, reduceIte, Nat.reduceLeDiff, Nat.reduceLT, Nat.reduceBEq, reduceCtorEq]; revert hG; simp; done) | (simp only [go_sem, init_env', Nat.reduceEqDiff, Nat.reduceAdd, Nat.reduceMul, reduceIte, Nat.reduceLeDiff, Nat.reduceLT, Nat.reduceBEq, reduceCtorEq, hG]; simp_all; done) | (revert hG; simp; done) | simp_all) rfl rfl rfl ?_; simp only [go_sem, init_env', Nat.reduceEqDiff, Nat.reduceAdd, Nat.reduceMul, reduceIte, Nat.reduceLeDiff, Nat.reduceLT, Nat.reduceBEq, reduceCtorEq, hP, ]; (repeat (refine And.intro (by first | omega | (intros; simp_all; done) | (intros; simp_all; omega)) ?_)); (repeat ((first | refine WV_seq_ ?_ | refine WV_block ?_ | refine WV_ops ?_ | refine WV_skip ?_ | refine WV_exit ?_); (try simp only [go_sem, init_env', Nat.reduceEqDiff, Nat.reduceAdd, Nat.reduceMul, reduceIte, Nat.reduceLeDiff, Nat.reduceLT, Nat.reduceBEq, reduceCtorEq, hP, ]); (repeat (refine And.intro (by first | omega | (intros; simp_all; done) | (intros; simp_all; omega)) ?_)))))
        (refine AG_pure (fun hG => hfb) rfl (fun hG => by first | (simp only [go_sem, init_env', Nat.reduceEqDiff, Nat.reduceAdd, Nat.reduceMul, reduceIte, Nat.reduceLeDiff, Nat.reduceLT, Nat.reduceBEq, reduceCtorEq, hG]; done) | (simp only [go_sem, init_env', Nat.reduceEqDiff, Nat.reduceAdd, Nat.reduceMul, reduceIte, Nat.reduceLeDiff, Nat.reduceLT, Nat.reduceBEq, reduceCtorEq]; revert hG; simp; done) | (simp only [go_sem, init_env', Nat.reduceEqDiff, Nat.reduceAdd, Nat.reduceMul, reduceIte, Nat.reduceLeDiff, Nat.reduceLT, Nat.reduceBEq, reduceCtorEq, hG]; simp_all; done) | (revert hG; simp; done) | simp_all) rfl rfl rfl ?_; simp only [go_sem, init_env', Nat.reduceEqDiff, Nat.reduceAdd, Nat.reduceMul, reduceIte, Nat.reduceLeDiff, Nat.reduceLT, Nat.reduceBEq, reduceCtorEq, hP, o1, x1, y1, wz, bne_self_eq_false]; (repeat (refine And.intro (by first | omega | (intros; simp_all; done) | (intros; simp_all; omega)) ?_)); (repeat ((first | refine WV_seq_ ?_ | refine WV_block ?_ | refine WV_ops ?_ | refine WV_skip ?_ | refine WV_exit ?_); (try simp only [go_sem, init_env', Nat.reduceEqDiff, Nat.reduceAdd, Nat.reduceMul, reduceIte, Nat.reduceLeDiff, Nat.reduceLT, Nat.reduceBEq, reduceCtorEq, hP, o1, x1, y1, wz, bne_self_eq_false]); (repeat (refine And.intro (by first | omega | (intros; simp_all; done) | (intros; simp_all; omega)) ?_)))))
        (refine WV_cond rfl (fun h => ?_) (fun h => ?_))
        · simp at h
        (repeat ((first | refine WV_seq_ ?_ | refine WV_block ?_ | refine WV_ops ?_ | refine WV_skip ?_ | refine WV_exit ?_); (try simp only [go_sem, init_env', Nat.reduceEqDiff, Nat.reduceAdd, Nat.reduceMul, reduceIte, Nat.reduceLeDiff, Nat.reduceLT, Nat.reduceBEq, reduceCtorEq, hP, x2, ww, x3, wnw]); (repeat (refine And.intro (by first | omega | (intros; simp_all; done) | (intros; simp_all; omega)) ?_))))
        by_cases h1 : w = a
        · have e1 : ((w : Int) == (a : Int)) = true := by simp [h1]
          have e2 : ((w : Int) == (b : Int)) = false := by simp; omega
          rw [if_pos h1] at hj
          rw [← h1, hNw] at hj
          rw [e1]
          (refine WV_cond rfl (fun h => ?_) (fun h => ?_))
          rotate_left
          · simp at h
          (repeat ((first | refine WV_seq_ ?_ | refine WV_block ?_ | refine WV_ops ?_ | refine WV_skip ?_ | refine WV_exit ?_); (try simp only [go_sem, init_env', Nat.reduceEqDiff, Nat.reduceAdd, Nat.reduceMul, reduceIte, Nat.reduceLeDiff, Nat.reduceLT, Nat.reduceBEq, reduceCtorEq, hP, y2, wb, y3, wnb, wns, e2]); (repeat (refine And.intro (by first | omega | (intros; simp_all; done) | (intros; simp_all; omega)) ?_))))
          (refine WV_cond rfl (fun h => ?_) (fun h => ?_))
          · simp at h
          (repeat ((first | refine WV_seq_ ?_ | refine WV_block ?_ | refine WV_ops ?_ | refine WV_skip ?_ | refine WV_exit ?_); (try simp only [go_sem, init_env', Nat.reduceEqDiff, Nat.reduceAdd, Nat.reduceMul, reduceIte, Nat.reduceLeDiff, Nat.reduceLT, Nat.reduceBEq, reduceCtorEq, hP, o2, wo, o3, wno, wns, hj, bne_self_eq_false]); (repeat (refine And.intro (by first | omega | (intros; simp_all; done) | (intros; simp_all; omega)) ?_))))
          (refine WV_cond rfl (fun h => ?_) (fun h => ?_))
          · simp at h
          · (repeat ((first | refine WV_seq_ ?_ | refine WV_block ?_ | refine WV_ops ?_ | refine WV_skip ?_ | refine WV_exit ?_); (try simp only [go_sem, init_env', Nat.reduceEqDiff, Nat.reduceAdd, Nat.reduceMul, reduceIte, Nat.reduceLeDiff, Nat.reduceLT, Nat.reduceBEq, reduceCtorEq, hP, hw5]); (repeat (refine And.intro (by first | omega | (intros; simp_all; done) | (intros; simp_all; omega)) ?_))))
            refine ⟨w + 1, by omega, by omega, ?_⟩
            (refine Sub_of (by simp only [go_sem, init_env', Nat.reduceEqDiff, Nat.reduceAdd, Nat.reduceMul, reduceIte, Nat.reduceLeDiff, Nat.reduceLT, Nat.reduceBEq, reduceCtorEq]; ((repeat' (first | exact EnvLe_e0 _ _ | refine EnvLe_upd ?_ ?_)) <;> ((try simp only [upd_app, e0_app, o0_app, Nat.reduceEqDiff, reduceIte]); first | exact AWk.refl _ _ | exact AWk.int (by omega) | exact AWk.int (by rw [w64 (by omega) (by omega)]; omega) | exact AWk.grow rfl | exact AWk.nil _ | exact AWk.of (by simp)))) (by simp only [go_sem, init_env', Nat.reduceEqDiff, Nat.reduceAdd, Nat.reduceMul, reduceIte, Nat.reduceLeDiff, Nat.reduceLT, Nat.reduceBEq, reduceCtorEq]; ((repeat' (first | exact ObjLe_o0 _ | exact ObjLe.rfl' _ | refine ObjLe_same ?_ | refine ObjLe_upd ?_ ?_ | refine ObjLe_new rfl ?_)) <;> rfl)))
        · have e1 : ((w : Int) == (a : Int)) = false := by simp; omega
          rw [if_neg h1] at hj
          rw [e1]
          (refine WV_cond rfl (fun h => ?_) (fun h => ?_))
          · simp at h
          by_cases h2 : w = b
          · have e2 : ((w : Int) == (b : Int)) = true := by simp [h2]
            rw [if_pos h2] at hj
            (repeat ((first | refine WV_seq_ ?_ | refine WV_block ?_ | refine WV_ops ?_ | refine WV_skip ?_ | refine WV_exit ?_); (try simp only [go_sem, init_env', Nat.reduceEqDiff, Nat.reduceAdd, Nat.reduceMul, reduceIte, Nat.reduceLeDiff, Nat.reduceLT, Nat.reduceBEq, reduceCtorEq, hP, e2]); (repeat (refine And.intro (by first | omega | (intros; simp_all; done) | (intros; simp_all; omega)) ?_))))
            (refine WV_cond rfl (fun h => ?_) (fun h => ?_))
            rotate_left
            · simp at h
            (repeat ((first | refine WV_seq_ ?_ | refine WV_block ?_ | refine WV_ops ?_ | refine WV_skip ?_ | refine WV_exit ?_); (try simp only [go_sem, init_env', Nat.reduceEqDiff, Nat.reduceAdd, Nat.reduceMul, reduceIte, Nat.reduceLeDiff, Nat.reduceLT, Nat.reduceBEq, reduceCtorEq, hP, o2, wo, o3, wno, hj, wz, bne_self_eq_false]); (repeat (refine And.intro (by first | omega | (intros; simp_all; done) | (intros; simp_all; omega)) ?_))))
            (refine WV_cond rfl (fun h => ?_) (fun h => ?_))
            · simp at h
            · (repeat ((first | refine WV_seq_ ?_ | refine WV_block ?_ | refine WV_ops ?_ | refine WV_skip ?_ | refine WV_exit ?_); (try simp only [go_sem, init_env', Nat.reduceEqDiff, Nat.reduceAdd, Nat.reduceMul, reduceIte, Nat.reduceLeDiff, Nat.reduceLT, Nat.reduceBEq, reduceCtorEq, hP, hw5]); (repeat (refine And.intro (by first | omega | (intros; simp_all; done) | (intros; simp_all; omega)) ?_))))
              refine ⟨w + 1, by omega, by omega, ?_⟩
              (refine Sub_of (by simp only [go_sem, init_env', Nat.reduceEqDiff, Nat.reduceAdd, Nat.reduceMul, reduceIte, Nat.reduceLeDiff, Nat.reduceLT, Nat.reduceBEq, reduceCtorEq]; ((repeat' (first | exact EnvLe_e0 _ _ | refine EnvLe_upd ?_ ?_)) <;> ((try simp only [upd_app, e0_app, o0_app, Nat.reduceEqDiff, reduceIte]); first | exact AWk.refl _ _ | exact AWk.int (by omega) | exact AWk.int (by rw [w64 (by omega) (by omega)]; omega) | exact AWk.grow rfl | exact AWk.nil _ | exact AWk.of (by simp)))) (by simp only [go_sem, init_env', Nat.reduceEqDiff, Nat.reduceAdd, Nat.reduceMul, reduceIte, Nat.reduceLeDiff, Nat.reduceLT, Nat.reduceBEq, reduceCtorEq]; ((repeat' (first | exact ObjLe_o0 _ | exact ObjLe.rfl' _ | refine ObjLe_same ?_ | refine ObjLe_upd ?_ ?_ | refine ObjLe_new rfl ?_)) <;> rfl)))
          · have e2 : ((w : Int) == (b : Int)) = false := by simp; omega
            rw [if_neg h2] at hj
            (repeat ((first | refine WV_seq_ ?_ | refine WV_block ?_ | refine WV_ops ?_ | refine WV_skip ?_ | refine WV_exit ?_); (try simp only [go_sem, init_env', Nat.reduceEqDiff, Nat.reduceAdd, Nat.reduceMul, reduceIte, Nat.reduceLeDiff, Nat.reduceLT, Nat.reduceBEq, reduceCtorEq, hP, e2]); (repeat (refine And.intro (by first | omega | (intros; simp_all; done) | (intros; simp_all; omega)) ?_))))
            (refine WV_cond rfl (fun h => ?_) (fun h => ?_))
            · simp at h
            (repeat ((first | refine WV_seq_ ?_ | refine WV_block ?_ | refine WV_ops ?_ | refine WV_skip ?_ | refine WV_exit ?_); (try simp only [go_sem, init_env', Nat.reduceEqDiff, Nat.reduceAdd, Nat.reduceMul, reduceIte, Nat.reduceLeDiff, Nat.reduceLT, Nat.reduceBEq, reduceCtorEq, hP, o2, wo, o3, wno, hj, wnw, bne_self_eq_false]); (repeat (refine And.intro (by first | omega | (intros; simp_all; done) | (intros; simp_all; omega)) ?_))))
            (refine WV_cond rfl (fun h => ?_) (fun h => ?_))
            · simp at h
            · (repeat ((first | refine WV_seq_ ?_ | refine WV_block ?_ | refine WV_ops ?_ | refine WV_skip ?_ | refine WV_exit ?_); (try simp only [go_sem, init_env', Nat.reduceEqDiff, Nat.reduceAdd, Nat.reduceMul, reduceIte, Nat.reduceLeDiff, Nat.reduceLT, Nat.reduceBEq, reduceCtorEq, hP, hw5]); (repeat (refine And.intro (by first | omega | (intros; simp_all; done) | (intros; simp_all; omega)) ?_))))
              refine ⟨w + 1, by omega, by omega, ?_⟩
              (refine Sub_of (by simp only [go_sem, init_env', Nat.reduceEqDiff, Nat.reduceAdd, Nat.reduceMul, reduceIte, Nat.reduceLeDiff, Nat.reduceLT, Nat.reduceBEq, reduceCtorEq]; ((repeat' (first | exact EnvLe_e0 _ _ | refine EnvLe_upd ?_ ?_)) <;> ((try simp only [upd_app, e0_app, o0_app, Nat.reduceEqDiff, reduceIte]); first | exact AWk.refl _ _ | exact AWk.int (by omega) | exact AWk.int (by rw [w64 (by omega) (by omega)]; omega) | exact AWk.grow rfl | exact AWk.nil _ | exact AWk.of (by simp)))) (by simp only [go_sem, init_env', Nat.reduceEqDiff, Nat.reduceAdd, Nat.reduceMul, reduceIte, Nat.reduceLeDiff, Nat.reduceLT, Nat.reduceBEq, reduceCtorEq]; ((repeat' (first | exact ObjLe_o0 _ | exact ObjLe.rfl' _ | refine ObjLe_same ?_ | refine ObjLe_upd ?_ ?_ | refine ObjLe_new rfl ?_)) <;> rfl)))
      · have hx2 : sharesS (joinR r a b) = (sharesL r.pool (allW r) (wts (joinR r a b)), 0) := by
          unfold sharesS weighE
          rw [if_pos hok', hao, if_neg h0]; rfl
        rw [hx2] at c4
        have hsn := sane17 r (sharesL r.pool (allW r) (wts (joinR r a b))) 9999
        have hss := shares_sane hWo
        have hsum := sharesL_sum (pool := r.pool) hWo.pos hWo.sum
        rw [hao] at hss hsum
        rw [show saneB r (sharesL r.pool (allW r) (wts (joinR r a b))) 9999 = true from hss] at hsn
        have hbd : ∀ x ∈ sharesL r.pool (allW r) (wts (joinR r a b)), 0 ≤ x ∧ x ≤ 9999 := fun x hx => by
          have h1 : saneB r (sharesL r.pool (allW r) (wts (joinR r a b))) 9999 = true := hss
          simp only [saneB, Bool.and_eq_true, List.all_eq_true, within, decide_eq_true_eq] at h1
          exact h1.2 x hx
        have hlen : (sharesL r.pool (allW r) (wts (joinR r a b))).length = r.n := by rw [sharesL_len, wts_len]; rfl
        clear hss hx2
        generalize sharesL r.pool (allW r) (wts (joinR r a b)) = S at *
        (refine WV_exit ?_; simp only [go_sem, init_env', Nat.reduceEqDiff, Nat.reduceAdd, Nat.reduceMul, reduceIte, Nat.reduceLeDiff, Nat.reduceLT, Nat.reduceBEq, reduceCtorEq])
        (repeat ((first | refine WV_seq_ ?_ | refine WV_block ?_ | refine WV_ops ?_ | refine WV_skip ?_ | refine WV_exit ?_); (try simp only [go_sem, init_env', Nat.reduceEqDiff, Nat.reduceAdd, Nat.reduceMul, reduceIte, Nat.reduceLeDiff, Nat.reduceLT, Nat.reduceBEq, reduceCtorEq, hP, ]); (repeat (refine And.intro (by first | omega | (intros; simp_all; done) | (intros; simp_all; omega)) ?_))))
        (refine AS_pure (c4) rfl rfl rfl rfl rfl ?_; simp only [go_sem, init_env', Nat.reduceEqDiff, Nat.reduceAdd, Nat.reduceMul, reduceIte, Nat.reduceLeDiff, Nat.reduceLT, Nat.reduceBEq, reduceCtorEq, hP, ]; (repeat (refine And.intro (by first | omega | (intros; simp_all; done) | (intros; simp_all; omega)) ?_)); (repeat ((first | refine WV_seq_ ?_ | refine WV_block ?_ | refine WV_ops ?_ | refine WV_skip ?_ | refine WV_exit ?_); (try simp only [go_sem, init_env', Nat.reduceEqDiff, Nat.reduceAdd, Nat.reduceMul, reduceIte, Nat.reduceLeDiff, Nat.reduceLT, Nat.reduceBEq, reduceCtorEq, hP, ]); (repeat (refine And.intro (by first | omega | (intros; simp_all; done) | (intros; simp_all; omega)) ?_)))))
        (refine AS_pure (hpl3) rfl rfl rfl rfl rfl ?_; simp only [go_sem, init_env', Nat.reduceEqDiff, Nat.reduceAdd, Nat.reduceMul, reduceIte, Nat.reduceLeDiff, Nat.reduceLT, Nat.reduceBEq, reduceCtorEq, hP, Royal.av]; (repeat (refine And.intro (by first | omega | (intros; simp_all; done) | (intros; simp_all; omega)) ?_)); (repeat ((first | refine WV_seq_ ?_ | refine WV_block ?_ | refine WV_ops ?_ | refine WV_skip ?_ | refine WV_exit ?_); (try simp only [go_sem, init_env', Nat.reduceEqDiff, Nat.reduceAdd, Nat.reduceMul, reduceIte, Nat.reduceLeDiff, Nat.reduceLT, Nat.reduceBEq, reduceCtorEq, hP, Royal.av]); (repeat (refine And.intro (by first | omega | (intros; simp_all; done) | (intros; simp_all; omega)) ?_)))))
        (refine AG_pure (fun hG => hsn) rfl (fun hG => by first | (simp only [go_sem, init_env', Nat.reduceEqDiff, Nat.reduceAdd, Nat.reduceMul, reduceIte, Nat.reduceLeDiff, Nat.reduceLT, Nat.reduceBEq, reduceCtorEq, hG]; done) | (simp only [go_sem, init_env', Nat.reduceEqDiff, Nat.reduceAdd, Nat.reduceMul, reduceIte, Nat.reduceLeDiff, Nat.reduceLT, Nat.reduceBEq, reduceCtorEq]; revert hG; simp; done) | (simp only [go_sem, init_env', Nat.reduceEqDiff, Nat.reduceAdd, Nat.reduceMul, reduceIte, Nat.reduceLeDiff, Nat.reduceLT, Nat.reduceBEq, reduceCtorEq, hG]; simp_all; done) | (revert hG; simp; done) | simp_all) rfl rfl rfl ?_; simp only [go_sem, init_env', Nat.reduceEqDiff, Nat.reduceAdd, Nat.reduceMul, reduceIte, Nat.reduceLeDiff, Nat.reduceLT, Nat.reduceBEq, reduceCtorEq, hP, Royal.av]; (repeat (refine And.intro (by first | omega | (intros; simp_all; done) | (intros; simp_all; omega)) ?_)); (repeat ((first | refine WV_seq_ ?_ | refine WV_block ?_ | refine WV_ops ?_ | refine WV_skip ?_ | refine WV_exit ?_); (try simp only [go_sem, init_env', Nat.reduceEqDiff, Nat.reduceAdd, Nat.reduceMul, reduceIte, Nat.reduceLeDiff, Nat.reduceLT, Nat.reduceBEq, reduceCtorEq, hP, Royal.av]); (repeat (refine And.intro (by first | omega | (intros; simp_all; done) | (intros; simp_all; omega)) ?_)))))
        (refine WV_cond rfl (fun h => ?_) (fun h => ?_))
        · simp at h
        (repeat ((first | refine WV_seq_ ?_ | refine WV_block ?_ | refine WV_ops ?_ | refine WV_skip ?_ | refine WV_exit ?_); (try simp only [go_sem, init_env', Nat.reduceEqDiff, Nat.reduceAdd, Nat.reduceMul, reduceIte, Nat.reduceLeDiff, Nat.reduceLT, Nat.reduceBEq, reduceCtorEq, hP, ]); (repeat (refine And.intro (by first | omega | (intros; simp_all; done) | (intros; simp_all; omega)) ?_))))
        refine WV_loopK K4_2 [] (fun k : Nat => k ≤ S.length) (fun k => S.length - k) (fun k => [(23, iv k), (22, iv (S.take k).sum)]) (fun _ => []) 0 (Nat.zero_le _) ?_ ?_
        · (refine Sub_of (by simp only [go_sem, init_env', Nat.reduceEqDiff, Nat.reduceAdd, Nat.reduceMul, reduceIte, Nat.reduceLeDiff, Nat.reduceLT, Nat.reduceBEq, reduceCtorEq]; ((repeat' (first | exact EnvLe_e0 _ _ | refine EnvLe_upd ?_ ?_)) <;> ((try simp only [upd_app, e0_app, o0_app, Nat.reduceEqDiff, reduceIte]); first | exact AWk.refl _ _ | exact AWk.int (by omega) | exact AWk.int (by rw [w64 (by omega) (by omega)]; omega) | exact AWk.grow rfl | exact AWk.nil _ | exact AWk.of (by simp)))) (by simp only [go_sem, init_env', Nat.reduceEqDiff, Nat.reduceAdd, Nat.reduceMul, reduceIte, Nat.reduceLeDiff, Nat.reduceLT, Nat.reduceBEq, reduceCtorEq]; ((repeat' (first | exact ObjLe_o0 _ | exact ObjLe.rfl' _ | refine ObjLe_same ?_ | refine ObjLe_upd ?_ ?_ | refine ObjLe_new rfl ?_)) <;> rfl)))
        · intro k hk
          simp only [go_sem, init_env', Nat.reduceEqDiff, Nat.reduceAdd, Nat.reduceMul, reduceIte, Nat.reduceLeDiff, Nat.reduceLT, Nat.reduceBEq, reduceCtorEq]
          (repeat ((first | refine WV_seq_ ?_ | refine WV_block ?_ | refine WV_ops ?_ | refine WV_skip ?_ | refine WV_exit ?_); (try simp only [go_sem, init_env', Nat.reduceEqDiff, Nat.reduceAdd, Nat.reduceMul, reduceIte, Nat.reduceLeDiff, Nat.reduceLT, Nat.reduceBEq, reduceCtorEq, hP, ints, List.length_map]); (repeat (refine And.intro (by first | omega | (intros; simp_all; done) | (intros; simp_all; omega)) ?_))))
          (refine WV_cond rfl (fun h => ?_) (fun h => ?_))
          · have hkl : k < S.length := by simpa using h
            have hI : (k : Int) < (S.length : Int) := by omega
            have hw7 := w64 (n := (k : Int) + 1) (by omega) (by omega)
            have ht := sum_take hkl
            have hb1 := sum_take_bd hbd k (by omega)
            have hb2 := hbd _ (List.getElem_mem hkl)
            have hw8 := w64 (n := (S.take k).sum + S[k]) (by omega) (by omega)
            (repeat ((first | refine WV_seq_ ?_ | refine WV_block ?_ | refine WV_ops ?_ | refine WV_skip ?_ | refine WV_exit ?_); (try simp only [go_sem, init_env', Nat.reduceEqDiff, Nat.reduceAdd, Nat.reduceMul, reduceIte, Nat.reduceLeDiff, Nat.reduceLT, Nat.reduceBEq, reduceCtorEq, hP, ints, List.length_map, map_getD hkl, hI, Int.natCast_nonneg, hw7, hw8]); (repeat (refine And.intro (by first | omega | (intros; simp_all; done) | (intros; simp_all; omega)) ?_))))
            refine ⟨k + 1, by omega, by omega, ?_⟩
            rw [ht]
            (refine Sub_of (by simp only [go_sem, init_env', Nat.reduceEqDiff, Nat.reduceAdd, Nat.reduceMul, reduceIte, Nat.reduceLeDiff, Nat.reduceLT, Nat.reduceBEq, reduceCtorEq]; ((repeat' (first | exact EnvLe_e0 _ _ | refine EnvLe_upd ?_ ?_)) <;> ((try simp only [upd_app, e0_app, o0_app, Nat.reduceEqDiff, reduceIte]); first | exact AWk.refl _ _ | exact AWk.int (by omega) | exact AWk.int (by rw [w64 (by omega) (by omega)]; omega) | exact AWk.grow rfl | exact AWk.nil _ | exact AWk.of (by simp)))) (by simp only [go_sem, init_env', Nat.reduceEqDiff, Nat.reduceAdd, Nat.reduceMul, reduceIte, Nat.reduceLeDiff, Nat.reduceLT, Nat.reduceBEq, reduceCtorEq]; ((repeat' (first | exact ObjLe_o0 _ | exact ObjLe.rfl' _ | refine ObjLe_same ?_ | refine ObjLe_upd ?_ ?_ | refine ObjLe_new rfl ?_)) <;> rfl)))
          · have h : k = S.length := by simp at h; omega
            subst h
            rw [List.take_length, hsum]
            (refine WV_exit ?_; simp only [go_sem, init_env', Nat.reduceEqDiff, Nat.reduceAdd, Nat.reduceMul, reduceIte, Nat.reduceLeDiff, Nat.reduceLT, Nat.reduceBEq, reduceCtorEq])
            (repeat ((first | refine WV_seq_ ?_ | refine WV_block ?_ | refine WV_ops ?_ | refine WV_skip ?_ | refine WV_exit ?_); (try simp only [go_sem, init_env', Nat.reduceEqDiff, Nat.reduceAdd, Nat.reduceMul, reduceIte, Nat.reduceLeDiff, Nat.reduceLT, Nat.reduceBEq, reduceCtorEq, hP, bne_self_eq_false, beq_self_eq_true]); (repeat (refine And.intro (by first | omega | (intros; simp_all; done) | (intros; simp_all; omega)) ?_))))
            (refine AG_pure (fun hG => works14) rfl (fun hG => by first | (simp only [go_sem, init_env', Nat.reduceEqDiff, Nat.reduceAdd, Nat.reduceMul, reduceIte, Nat.reduceLeDiff, Nat.reduceLT, Nat.reduceBEq, reduceCtorEq, hG]; done) | (simp only [go_sem, init_env', Nat.reduceEqDiff, Nat.reduceAdd, Nat.reduceMul, reduceIte, Nat.reduceLeDiff, Nat.reduceLT, Nat.reduceBEq, reduceCtorEq]; revert hG; simp; done) | (simp only [go_sem, init_env', Nat.reduceEqDiff, Nat.reduceAdd, Nat.reduceMul, reduceIte, Nat.reduceLeDiff, Nat.reduceLT, Nat.reduceBEq, reduceCtorEq, hG]; simp_all; done) | (revert hG; simp; done) | simp_all) rfl rfl rfl ?_; simp only [go_sem, init_env', Nat.reduceEqDiff, Nat.reduceAdd, Nat.reduceMul, reduceIte, Nat.reduceLeDiff, Nat.reduceLT, Nat.reduceBEq, reduceCtorEq, hP, ]; (repeat (refine And.intro (by first | omega | (intros; simp_all; done) | (intros; simp_all; omega)) ?_)); (repeat ((first | refine WV_seq_ ?_ | refine WV_block ?_ | refine WV_ops ?_ | refine WV_skip ?_ | refine WV_exit ?_); (try simp only [go_sem, init_env', Nat.reduceEqDiff, Nat.reduceAdd, Nat.reduceMul, reduceIte, Nat.reduceLeDiff, Nat.reduceLT, Nat.reduceBEq, reduceCtorEq, hP, ]); (repeat (refine And.intro (by first | omega | (intros; simp_all; done) | (intros; simp_all; omega)) ?_)))))
            (refine WV_ret ?_; simp only [thenQ, inQ, RetQ, RetOk, resAll, resA]; simp only [go_sem, init_env', Nat.reduceEqDiff, Nat.reduceAdd, Nat.reduceMul, reduceIte, Nat.reduceLeDiff, Nat.reduceLT, Nat.reduceBEq, reduceCtorEq, tupA, AV.port, AV.portL, exists_eq_left', ]; (first | exact AVle.of rfl | refine AVle.of ?_ | skip))

set_option maxRecDepth 20000 in
set_option maxHeartbeats 16000000 in
theorem law4 (r : Royal) (a b : Int) : FSpec Try.prog 4 [r.av, iv a, iv b] (.c (.bool true)) := by
  have hready := ready13 r
  by_cases hgo : r.ok = true ∧ a ≠ b ∧ isW r a = true ∧ isW r b = true
  rotate_left
  · have hb : (((!r.ok || (a == b)) || !isW r a) || !isW r b) = true := by
      cases h1 : r.ok
      · simp
      · by_cases h2 : a = b
        · simp [h2]
        · cases h3 : isW r a
          · simp
          · cases h4 : isW r b
            · simp
            · exact absurd ⟨h1, h2, h3, h4⟩ hgo
    refine FSpec_of c4 (Nat.le_refl _) (by decide) fun C hP hN hC hL => ?_
    simp only [ir4, Royal.av]
    (repeat ((first | refine WV_seq_ ?_ | refine WV_block ?_ | refine WV_ops ?_ | refine WV_skip ?_ | refine WV_exit ?_); (try simp only [go_sem, init_env', Nat.reduceEqDiff, Nat.reduceAdd, Nat.reduceMul, reduceIte, Nat.reduceLeDiff, Nat.reduceLT, Nat.reduceBEq, reduceCtorEq, hP, ]); (repeat (refine And.intro (by first | omega | (intros; simp_all; done) | (intros; simp_all; omega)) ?_))))
    (refine AS_pure (hready) rfl rfl rfl rfl rfl ?_; simp only [go_sem, init_env', Nat.reduceEqDiff, Nat.reduceAdd, Nat.reduceMul, reduceIte, Nat.reduceLeDiff, Nat.reduceLT, Nat.reduceBEq, reduceCtorEq, hP, Royal.av]; (repeat (refine And.intro (by first | omega | (intros; simp_all; done) | (intros; simp_all; omega)) ?_)); (repeat ((first | refine WV_seq_ ?_ | refine WV_block ?_ | refine WV_ops ?_ | refine WV_skip ?_ | refine WV_exit ?_); (try simp only [go_sem, init_env', Nat.reduceEqDiff, Nat.reduceAdd, Nat.reduceMul, reduceIte, Nat.reduceLeDiff, Nat.reduceLT, Nat.reduceBEq, reduceCtorEq, hP, Royal.av]); (repeat (refine And.intro (by first | omega | (intros; simp_all; done) | (intros; simp_all; omega)) ?_)))))
    (refine AG_pure (fun hG => isw19 r a) rfl (fun hG => by first | (simp only [go_sem, init_env', Nat.reduceEqDiff, Nat.reduceAdd, Nat.reduceMul, reduceIte, Nat.reduceLeDiff, Nat.reduceLT, Nat.reduceBEq, reduceCtorEq, hG]; done) | (simp only [go_sem, init_env', Nat.reduceEqDiff, Nat.reduceAdd, Nat.reduceMul, reduceIte, Nat.reduceLeDiff, Nat.reduceLT, Nat.reduceBEq, reduceCtorEq]; revert hG; simp; done) | (simp only [go_sem, init_env', Nat.reduceEqDiff, Nat.reduceAdd, Nat.reduceMul, reduceIte, Nat.reduceLeDiff, Nat.reduceLT, Nat.reduceBEq, reduceCtorEq, hG]; simp_all; done) | (revert hG; simp; done) | simp_all) rfl rfl rfl ?_; simp only [go_sem, init_env', Nat.reduceEqDiff, Nat.reduceAdd, Nat.reduceMul, reduceIte, Nat.reduceLeDiff, Nat.reduceLT, Nat.reduceBEq, reduceCtorEq, hP, Royal.av]; (repeat (refine And.intro (by first | omega | (intros; simp_all; done) | (intros; simp_all; omega)) ?_)); (repeat ((first | refine WV_seq_ ?_ | refine WV_block ?_ | refine WV_ops ?_ | refine WV_skip ?_ | refine WV_exit ?_); (try simp only [go_sem, init_env', Nat.reduceEqDiff, Nat.reduceAdd, Nat.reduceMul, reduceIte, Nat.reduceLeDiff, Nat.reduceLT, Nat.reduceBEq, reduceCtorEq, hP, Royal.av]); (repeat (refine And.intro (by first | omega | (intros; simp_all; done) | (intros; simp_all; omega)) ?_)))))
    (refine AG_pure (fun hG => isw19 r b) rfl (fun hG => by first | (simp only [go_sem, init_env', Nat.reduceEqDiff, Nat.reduceAdd, Nat.reduceMul, reduceIte, Nat.reduceLeDiff, Nat.reduceLT, Nat.reduceBEq, reduceCtorEq, hG]; done) | (simp only [go_sem, init_env', Nat.reduceEqDiff, Nat.reduceAdd, Nat.reduceMul, reduceIte, Nat.reduceLeDiff, Nat.reduceLT, Nat.reduceBEq, reduceCtorEq]; revert hG; simp; done) | (simp only [go_sem, init_env', Nat.reduceEqDiff, Nat.reduceAdd, Nat.reduceMul, reduceIte, Nat.reduceLeDiff, Nat.reduceLT, Nat.reduceBEq, reduceCtorEq, hG]; simp_all; done) | (revert hG; simp; done) | simp_all) rfl rfl rfl ?_; simp only [go_sem, init_env', Nat.reduceEqDiff, Nat.reduceAdd, Nat.reduceMul, reduceIte, Nat.reduceLeDiff, Nat.reduceLT, Nat.reduceBEq, reduceCtorEq, hP, Royal.av]; (repeat (refine And.intro (by first | omega | (intros; simp_all; done) | (intros; simp_all; omega)) ?_)); (repeat ((first | refine WV_seq_ ?_ | refine WV_block ?_ | refine WV_ops ?_ | refine WV_skip ?_ | refine WV_exit ?_); (try simp only [go_sem, init_env', Nat.reduceEqDiff, Nat.reduceAdd, Nat.reduceMul, reduceIte, Nat.reduceLeDiff, Nat.reduceLT, Nat.reduceBEq, reduceCtorEq, hP, Royal.av]); (repeat (refine And.intro (by first | omega | (intros; simp_all; done) | (intros; simp_all; omega)) ?_)))))
    rw [hb]
    (refine WV_cond rfl (fun h => ?_) (fun h => ?_))
    · (repeat ((first | refine WV_seq_ ?_ | refine WV_block ?_ | refine WV_ops ?_ | refine WV_skip ?_ | refine WV_exit ?_); (try simp only [go_sem, init_env', Nat.reduceEqDiff, Nat.reduceAdd, Nat.reduceMul, reduceIte, Nat.reduceLeDiff, Nat.reduceLT, Nat.reduceBEq, reduceCtorEq, hP, ]); (repeat (refine And.intro (by first | omega | (intros; simp_all; done) | (intros; simp_all; omega)) ?_))))
      (refine AS_pure (works14) rfl rfl rfl rfl rfl ?_; simp only [go_sem, init_env', Nat.reduceEqDiff, Nat.reduceAdd, Nat.reduceMul, reduceIte, Nat.reduceLeDiff, Nat.reduceLT, Nat.reduceBEq, reduceCtorEq, hP, ]; (repeat (refine And.intro (by first | omega | (intros; simp_all; done) | (intros; simp_all; omega)) ?_)); (repeat ((first | refine WV_seq_ ?_ | refine WV_block ?_ | refine WV_ops ?_ | refine WV_skip ?_ | refine WV_exit ?_); (try simp only [go_sem, init_env', Nat.reduceEqDiff, Nat.reduceAdd, Nat.reduceMul, reduceIte, Nat.reduceLeDiff, Nat.reduceLT, Nat.reduceBEq, reduceCtorEq, hP, ]); (repeat (refine And.intro (by first | omega | (intros; simp_all; done) | (intros; simp_all; omega)) ?_)))))
      (refine WV_ret ?_; simp only [thenQ, inQ, RetQ, RetOk, resAll, resA]; simp only [go_sem, init_env', Nat.reduceEqDiff, Nat.reduceAdd, Nat.reduceMul, reduceIte, Nat.reduceLeDiff, Nat.reduceLT, Nat.reduceBEq, reduceCtorEq, tupA, AV.port, AV.portL, exists_eq_left', ]; (first | exact AVle.of rfl | refine AVle.of ?_ | skip))
    · simp at h
  obtain ⟨hok, hab, hwa, hwb⟩ := hgo
  have hb : (((!r.ok || (a == b)) || !isW r a) || !isW r b) = false := by rw [hok, hwa, hwb]; simp [hab]
  have hr := Royal.ok_spec hok
  have ha := isW_spec hwa
  have hbb := isW_spec hwb
  obtain ⟨a, rfl⟩ := Int.eq_ofNat_of_zero_le ha.1
  obtain ⟨b, rfl⟩ := Int.eq_ofNat_of_zero_le hbb.1
  have hjo : (joinR r a b).av = .agg [iv r.pool, .c (sidesC (joinR r a b).sides), .c (ints r.owed)] := rfl
  have hjoin := joined20 hr a b
  rw [hjo] at hjoin
  refine FSpec_of c4 (Nat.le_refl _) (by decide) fun C hP hN hC hL => ?_
  have ht := tail4 hP hr hok hab (by omega) (by omega)
  simp only [ir4, Royal.av]
  (repeat ((first | refine WV_seq_ ?_ | refine WV_block ?_ | refine WV_ops ?_ | refine WV_skip ?_ | refine WV_exit ?_); (try simp only [go_sem, init_env', Nat.reduceEqDiff, Nat.reduceAdd, Nat.reduceMul, reduceIte, Nat.reduceLeDiff, Nat.reduceLT, Nat.reduceBEq, reduceCtorEq, hP, ]); (repeat (refine And.intro (by first | omega | (intros; simp_all; done) | (intros; simp_all; omega)) ?_))))
  (refine AS_pure (hready) rfl rfl rfl rfl rfl ?_; simp only [go_sem, init_env', Nat.reduceEqDiff, Nat.reduceAdd, Nat.reduceMul, reduceIte, Nat.reduceLeDiff, Nat.reduceLT, Nat.reduceBEq, reduceCtorEq, hP, Royal.av]; (repeat (refine And.intro (by first | omega | (intros; simp_all; done) | (intros; simp_all; omega)) ?_)); (repeat ((first | refine WV_seq_ ?_ | refine WV_block ?_ | refine WV_ops ?_ | refine WV_skip ?_ | refine WV_exit ?_); (try simp only [go_sem, init_env', Nat.reduceEqDiff, Nat.reduceAdd, Nat.reduceMul, reduceIte, Nat.reduceLeDiff, Nat.reduceLT, Nat.reduceBEq, reduceCtorEq, hP, Royal.av]); (repeat (refine And.intro (by first | omega | (intros; simp_all; done) | (intros; simp_all; omega)) ?_)))))
  (refine AG_pure (fun hG => isw19 r a) rfl (fun hG => by first | (simp only [go_sem, init_env', Nat.reduceEqDiff, Nat.reduceAdd, Nat.reduceMul, reduceIte, Nat.reduceLeDiff, Nat.reduceLT, Nat.reduceBEq, reduceCtorEq, hG]; done) | (simp only [go_sem, init_env', Nat.reduceEqDiff, Nat.reduceAdd, Nat.reduceMul, reduceIte, Nat.reduceLeDiff, Nat.reduceLT, Nat.reduceBEq, reduceCtorEq]; revert hG; simp; done) | (simp only [go_sem, init_env', Nat.reduceEqDiff, Nat.reduceAdd, Nat.reduceMul, reduceIte, Nat.reduceLeDiff, Nat.reduceLT, Nat.reduceBEq, reduceCtorEq, hG]; simp_all; done) | (revert hG; simp; done) | simp_all) rfl rfl rfl ?_; simp only [go_sem, init_env', Nat.reduceEqDiff, Nat.reduceAdd, Nat.reduceMul, reduceIte, Nat.reduceLeDiff, Nat.reduceLT, Nat.reduceBEq, reduceCtorEq, hP, Royal.av]; (repeat (refine And.intro (by first | omega | (intros; simp_all; done) | (intros; simp_all; omega)) ?_)); (repeat ((first | refine WV_seq_ ?_ | refine WV_block ?_ | refine WV_ops ?_ | refine WV_skip ?_ | refine WV_exit ?_); (try simp only [go_sem, init_env', Nat.reduceEqDiff, Nat.reduceAdd, Nat.reduceMul, reduceIte, Nat.reduceLeDiff, Nat.reduceLT, Nat.reduceBEq, reduceCtorEq, hP, Royal.av]); (repeat (refine And.intro (by first | omega | (intros; simp_all; done) | (intros; simp_all; omega)) ?_)))))
  (refine AG_pure (fun hG => isw19 r b) rfl (fun hG => by first | (simp only [go_sem, init_env', Nat.reduceEqDiff, Nat.reduceAdd, Nat.reduceMul, reduceIte, Nat.reduceLeDiff, Nat.reduceLT, Nat.reduceBEq, reduceCtorEq, hG]; done) | (simp only [go_sem, init_env', Nat.reduceEqDiff, Nat.reduceAdd, Nat.reduceMul, reduceIte, Nat.reduceLeDiff, Nat.reduceLT, Nat.reduceBEq, reduceCtorEq]; revert hG; simp; done) | (simp only [go_sem, init_env', Nat.reduceEqDiff, Nat.reduceAdd, Nat.reduceMul, reduceIte, Nat.reduceLeDiff, Nat.reduceLT, Nat.reduceBEq, reduceCtorEq, hG]; simp_all; done) | (revert hG; simp; done) | simp_all) rfl rfl rfl ?_; simp only [go_sem, init_env', Nat.reduceEqDiff, Nat.reduceAdd, Nat.reduceMul, reduceIte, Nat.reduceLeDiff, Nat.reduceLT, Nat.reduceBEq, reduceCtorEq, hP, Royal.av]; (repeat (refine And.intro (by first | omega | (intros; simp_all; done) | (intros; simp_all; omega)) ?_)); (repeat ((first | refine WV_seq_ ?_ | refine WV_block ?_ | refine WV_ops ?_ | refine WV_skip ?_ | refine WV_exit ?_); (try simp only [go_sem, init_env', Nat.reduceEqDiff, Nat.reduceAdd, Nat.reduceMul, reduceIte, Nat.reduceLeDiff, Nat.reduceLT, Nat.reduceBEq, reduceCtorEq, hP, Royal.av]); (repeat (refine And.intro (by first | omega | (intros; simp_all; done) | (intros; simp_all; omega)) ?_)))))
  rw [hb]
  (refine WV_cond rfl (fun h => ?_) (fun h => ?_))
  · simp at h
  clear h
  generalize (joinR r a b).sides = S2 at *
  refine WV_skip ?_
  simp only [go_sem, init_env', Nat.reduceEqDiff, Nat.reduceAdd, Nat.reduceMul, reduceIte, Nat.reduceLeDiff, Nat.reduceLT, Nat.reduceBEq, reduceCtorEq]
  refine WV_seq_ (WV_ops ?_)
  simp only [go_sem, init_env', Nat.reduceEqDiff, Nat.reduceAdd, Nat.reduceMul, reduceIte, Nat.reduceLeDiff, Nat.reduceLT, Nat.reduceBEq, reduceCtorEq, hP]
  refine AS_pure hjoin rfl rfl rfl rfl rfl ?_
  simp only [go_sem, init_env', Nat.reduceEqDiff, Nat.reduceAdd, Nat.reduceMul, reduceIte, Nat.reduceLeDiff, Nat.reduceLT, Nat.reduceBEq, reduceCtorEq, hP]
  (repeat (refine And.intro (by first | omega | (intros; simp_all; done) | (intros; simp_all; omega)) ?_))
  exact WV_sub (Sub_of (by simp only [go_sem, init_env', Nat.reduceEqDiff, Nat.reduceAdd, Nat.reduceMul, reduceIte, Nat.reduceLeDiff, Nat.reduceLT, Nat.reduceBEq, reduceCtorEq]; ((repeat' (first | exact EnvLe_e0 _ _ | refine EnvLe_upd ?_ ?_)) <;> ((try simp only [upd_app, e0_app, o0_app, Nat.reduceEqDiff, reduceIte]); first | exact AWk.refl _ _ | exact AWk.int (by omega) | exact AWk.int (by rw [w64 (by omega) (by omega)]; omega) | exact AWk.grow rfl | exact AWk.nil _ | exact AWk.of (by simp)))) (by simp only [go_sem, init_env', Nat.reduceEqDiff, Nat.reduceAdd, Nat.reduceMul, reduceIte, Nat.reduceLeDiff, Nat.reduceLT, Nat.reduceBEq, reduceCtorEq]; ((repeat' (first | exact ObjLe_o0 _ | exact ObjLe.rfl' _ | refine ObjLe_same ?_ | refine ObjLe_upd ?_ ?_ | refine ObjLe_new rfl ?_)) <;> rfl))) ht
end Go.Proofs.Ytnmchaemhjnkgaa
