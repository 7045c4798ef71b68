/-
  Contracts of functions of package route, of its reference and of the law RouteTimes; conditions: as each theorem states.
-/
import Derived.Test.YtbejgfpaokcnpaaU5
set_option linter.unusedVariables false
set_option linter.unusedSimpArgs false
/-
  The program's tours are the reference's: plain.
-/
namespace Go.Proofs.Ytbejgfpaokcnpaa
open Go Go.V

theorem toursR_begin {n : Nat} : ∀ (f : Nat) (t p : List Nat), p ∈ toursR n f t → ∃ l, p = t ++ l
  | 0, t, p, h => by simp only [toursR, List.mem_singleton] at h; exact ⟨[], by simp [h]⟩
  | f + 1, t, p, h => by
    simp only [toursR, List.mem_cons, List.mem_flatMap, List.mem_range] at h
    rcases h with rfl | ⟨k, _, h⟩
    · exact ⟨[], by simp⟩
    · split at h
      · cases h
      · obtain ⟨l, rfl⟩ := toursR_begin f _ p h
        exact ⟨k :: l, by simp⟩
/-- Behind a stop that is missed no tour is good. -/
theorem toursR_bad {r : Route} (f : Nat) (t : List Nat) (h : (ride r (leave r) t).2.1 ≠ none) : (toursR r.n f t).filter (ridden r) = [] := by
  rw [List.filter_eq_nil_iff]
  intro p hp
  obtain ⟨l, rfl⟩ := toursR_begin f t p hp
  unfold ridden
  rw [ride_stop r t _ l h]
  cases hx : (ride r (leave r) t).2.1 with
  | none => exact absurd hx h
  | some k => simp
theorem ext_eq {r : Route} : ∀ (f : Nat) (t : List Nat), (ride r (leave r) t).2.1 = none → (ext r f t (ride r (leave r) t).2.2).map (·.1) = (toursR r.n f t).filter (ridden r)
  | 0, t, h => by simp [ext, toursR, ridden, h]
  | f + 1, t, h => by
    have hr : ridden r t = true := by simp [ridden, h]
    simp only [ext, toursR, List.map_cons, List.filter_cons, hr, if_true, List.map_flatMap, List.filter_flatMap]
    congr 1
    congr 1
    funext k
    by_cases hk : k ∈ t
    · simp [hk]
    · rw [if_neg hk, if_neg hk]
      have hs := ride_snoc r t (leave r) k h
      by_cases hv : (visit r (ride r (leave r) t).2.2 k).2.2 = true
      · rw [if_pos hv] at hs ⊢
        have := ext_eq f (t ++ [k]) (by rw [hs])
        rw [hs] at this
        exact this
      · rw [if_neg hv] at hs ⊢
        rw [toursR_bad f (t ++ [k]) (by rw [hs]; simp)]
        rfl
theorem goods_eq (r : Route) : (goods r).map (·.1) = goodR r false := by
  have := ext_eq (r := r) (r.n + 1) [] rfl
  have e : goodP r false = ridden r := by funext t; simp [goodP]
  unfold goodR allR
  rw [e]
  exact this
theorem wholes_eq (r : Route) : (wholes r).map (·.1) = goodR r true := by
  have h1 : (wholes r).map (·.1) = ((goods r).map (·.1)).filter fun t => !decide (t.length < r.n) := by
    unfold wholes
    rw [List.filter_map]
    rfl
  rw [h1, goods_eq]
  unfold goodR
  rw [List.filter_filter]
  refine List.filter_congr fun t ht => ?_
  have := allR_len ht
  simp only [goodP, Bool.not_false, Bool.true_or, Bool.true_and, Bool.not_true, Bool.false_or]
  congr 1
  rw [Bool.eq_iff_iff]
  simp
  omega
/-- The van behind the last stop is that of the ride. -/
theorem ext_ride {r : Route} : ∀ (f : Nat) (t : List Nat), (ride r (leave r) t).2.1 = none → ∀ p ∈ ext r f t (ride r (leave r) t).2.2, (ride r (leave r) p.1).2.1 = none ∧ p.2 = (ride r (leave r) p.1).2.2
  | 0, t, h, p, hp => by simp only [ext, List.mem_singleton] at hp; subst hp; exact ⟨h, rfl⟩
  | f + 1, t, h, p, hp => by
    simp only [ext, List.mem_cons, List.mem_flatMap, List.mem_range] at hp
    rcases hp with rfl | ⟨k, _, hp⟩
    · exact ⟨h, rfl⟩
    · split at hp
      · cases hp
      · split at hp
        · rename_i hv
          have hs := ride_snoc r t (leave r) k h
          rw [if_pos hv] at hs
          have := ext_ride f (t ++ [k]) (by rw [hs]) p
          rw [hs] at this
          exact this hp
        · cases hp
theorem goods_ride {r : Route} : ∀ p ∈ goods r, (ride r (leave r) p.1).2.1 = none ∧ p.2 = (ride r (leave r) p.1).2.2 := ext_ride (r := r) (r.n + 1) [] rfl
end Go.Proofs.Ytbejgfpaokcnpaa

/-
  Least and greatest: the program's answers are the reference's: plain.
-/
namespace Go.Proofs.Ytbejgfpaokcnpaa
open Go Go.V

theorem less_min : ∀ (l : List Int) (b : Int), 0 ≤ b → (∀ n ∈ l, 0 ≤ n) → l.foldl lessS b = l.foldl min b
  | [], b, _, _ => rfl
  | n :: l, b, hb, h => by
    have hn := h n (by simp)
    have e : lessS b n = min b n := by unfold lessS; split <;> omega
    simp only [List.foldl_cons, e]
    exact less_min l _ (by omega) fun m hm => h m (by simp [hm])
theorem least_min (f : List Nat → Int) (L : List (List Nat)) (hL : L ≠ []) (h : ∀ t ∈ L, 0 ≤ f t) : leastS (L.map f) = minS f L L.length := by
  cases L with
  | nil => exact absurd rfl hL
  | cons t L =>
    have ht := h t (by simp)
    unfold leastS minS
    rw [List.take_length]
    simp only [List.map_cons, List.foldl_cons, List.getD_cons_zero]
    have e : lessS (-1) (f t) = f t := by unfold lessS; rw [if_pos (by omega)]
    rw [e, less_min _ _ ht (by
      intro n hn
      obtain ⟨u, hu, rfl⟩ := List.mem_map.1 hn
      exact h u (by simp [hu])), List.foldl_map, Int.min_self]
theorem shortB_one (r : Route) (l : List (List Nat × Van)) : (shortB r l).1 = leastS (l.map fun p => (atHome r p).long) := by
  have h : ∀ (l : List (List Nat × Van)) (s : Int × Option (List Nat)), (l.foldl (fun s p => shortT s (atHome r p).long p.1) s).1 = (l.map fun p => (atHome r p).long).foldl lessS s.1 := by
    intro l
    induction l with
    | nil => intro s; rfl
    | cons p l ih =>
      intro s
      simp only [List.foldl_cons, List.map_cons]
      rw [ih]
      congr 1
      unfold shortT lessS
      split <;> rfl
  exact h l _
theorem someE_eq (r : Route) : someE r = errR r := by
  unfold someE errR
  rw [← wholes_eq]
  cases r.ok
  · rfl
  · by_cases h : wholes r = [] <;> simp [h]
theorem ride_long (r : Route) : ∀ (t : List Nat) (v : Van), (ride r v t).2.1 = none → t.foldl (fun s k => (k, s.2 + r.d s.1 k)) (v.at_, v.long) = ((ride r v t).2.2.at_, (ride r v t).2.2.long)
  | [], v, _ => rfl
  | k :: t, v, h => by
    simp only [ride] at h ⊢
    by_cases hv : (visit r v k).2.2 = true
    · simp only [hv, if_true] at h ⊢
      have ih := ride_long r t (visit r v k).1 h
      rw [List.foldl_cons, ← ih]
      congr 1
      unfold visit at hv ⊢
      split at hv
      · cases hv
      · rename_i hc
        rw [if_neg hc]
        rfl
    · simp [hv] at h
theorem atHome_eq {r : Route} (hr : RouteOk r) {p : List Nat × Van} (hp : p ∈ goods r) : (atHome r p).now = (goS r p.1).2.2 ∧ (atHome r p).long = longS r p.1 := by
  obtain ⟨h1, h2⟩ := goods_ride p hp
  have hl := ride_long r p.1 (leave r) h1
  have hh := home_back hr p.1 (w := (ride r (leave r) p.1).2.2) (ts := (ride r (leave r) p.1).1) (by rw [← h1])
  unfold atHome
  rw [h2]
  refine ⟨?_, ?_⟩
  · rw [hh.1]
    unfold goS
    revert h1
    generalize ride r (leave r) p.1 = x
    obtain ⟨x1, x2, x3⟩ := x
    intro h1
    simp only at h1
    subst h1
    rfl
  · rw [hh.2]
    unfold longS longP
    have e : ((leave r).at_, (leave r).long) = (r.n, (0 : Int)) := rfl
    rw [e] at hl
    rw [hl]
theorem atHome_pos {r : Route} (hr : RouteOk r) {p : List Nat × Van} (hp : p ∈ goods r) : 0 ≤ (atHome r p).now ∧ 0 ≤ (atHome r p).long := by
  have hv := (goods_ok hr p hp).2.2
  have h1 := hv.now
  have h2 := hv.long
  have hc := hr.cell p.2.at_ r.n hv.at_ (Nat.lt_succ_self _)
  unfold atHome home
  split
  · exact ⟨h1.1, h2.1⟩
  · simp only [drv]; omega
theorem wholes_goods {r : Route} {p : List Nat × Van} (hp : p ∈ wholes r) : p ∈ goods r := (List.mem_filter.1 hp).1

theorem soon_eq (r : Route) : soonS r = rsoonS r := by
  unfold soonS rsoonS
  rw [someE_eq]
  by_cases h : errR r = 0
  · rw [if_pos h, if_pos h]
    obtain ⟨hr, _, hlen⟩ := errR_eq h
    have e : ((wholes r).map fun p => (atHome r p).now) = (goodR r true).map fun t => (goS r t).2.2 := by
      rw [← wholes_eq, List.map_map]
      exact List.map_congr_left fun p hp => (atHome_eq hr (wholes_goods hp)).1
    rw [e, least_min _ _ (List.length_pos_iff.1 hlen)]
    intro t ht
    rw [← wholes_eq] at ht
    obtain ⟨p, hp, rfl⟩ := List.mem_map.1 ht
    rw [← (atHome_eq hr (wholes_goods hp)).1]
    exact (atHome_pos hr (wholes_goods hp)).1
  · rw [if_neg h, if_neg h]
theorem shortest_eq (r : Route) : shortestS r = rshortS r := by
  unfold shortestS rshortS
  rw [someE_eq]
  by_cases h : errR r = 0
  · rw [if_pos h, if_pos h]
    obtain ⟨hr, _, hlen⟩ := errR_eq h
    have e : ((wholes r).map fun p => (atHome r p).long) = (goodR r true).map (longS r) := by
      rw [← wholes_eq, List.map_map]
      exact List.map_congr_left fun p hp => (atHome_eq hr (wholes_goods hp)).2
    rw [shortB_one, e, least_min _ _ (List.length_pos_iff.1 hlen)]
    intro t ht
    rw [← wholes_eq] at ht
    obtain ⟨p, hp, rfl⟩ := List.mem_map.1 ht
    rw [← (atHome_eq hr (wholes_goods hp)).2]
    exact (atHome_pos hr (wholes_goods hp)).2
  · rw [if_neg h, if_neg h]
theorem most_eq (r : Route) : mostS r = rmostS r := by
  unfold mostS rmostS
  cases r.ok
  · rfl
  · simp only [if_true, mostB, rmostB]
    rw [← goods_eq, List.foldl_map, List.foldl_map]
end Go.Proofs.Ytbejgfpaokcnpaa

/-
  What Way returns, and Shut: plain.
-/
namespace Go.Proofs.Ytbejgfpaokcnpaa
open Go Go.V

theorem short_way {r : Route} (hr : RouteOk r) : ∀ (l : List (List Nat × Van)) (s : Int × Option (List Nat)), (∀ p ∈ l, p ∈ wholes r) → ((∃ t, s.2 = some t ∧ t ∈ goodR r true ∧ longS r t = s.1) ∨ (s.1 < 0 ∧ l ≠ [])) →
    ∃ t, (l.foldl (fun s p => shortT s (atHome r p).long p.1) s).2 = some t ∧ t ∈ goodR r true ∧ longS r t = (l.foldl (fun s p => shortT s (atHome r p).long p.1) s).1
  | [], s, _, h => by
    rcases h with h | h
    · exact h
    · exact absurd rfl h.2
  | p :: l, s, hl, h => by
    simp only [List.foldl_cons]
    refine short_way hr l _ (fun q hq => hl q (by simp [hq])) (.inl ?_)
    have hp := hl p (by simp)
    have hg : p.1 ∈ goodR r true := by rw [← wholes_eq]; exact List.mem_map_of_mem hp
    have he := (atHome_eq hr (wholes_goods hp)).2
    unfold shortT
    split
    · exact ⟨p.1, rfl, hg, he.symm⟩
    · rename_i hn
      rcases h with h | h
      · exact h
      · exact absurd (.inl h.1) hn
theorem way_ok {r : Route} (h : errR r = 0) : ∃ t, wayS r = (nats t, 0) ∧ t ∈ goodR r true ∧ longS r t = (rshortS r).1 := by
  obtain ⟨hr, _, hlen⟩ := errR_eq h
  have hw : wholes r ≠ [] := by
    intro e
    rw [← wholes_eq, e] at hlen
    simp at hlen
  obtain ⟨t, h1, h2, h3⟩ := short_way hr (wholes r) (-1, none) (fun p hp => hp) (.inr ⟨by decide, hw⟩)
  refine ⟨t, ?_, h2, ?_⟩
  · unfold wayS
    rw [if_pos (by rw [someE_eq]; exact h)]
    show (wayC (shortB r (wholes r)).2, (0 : Int)) = _
    rw [show (shortB r (wholes r)).2 = some t from h1]
    rfl
  · rw [← shortest_eq]
    unfold shortestS
    rw [if_pos (by rw [someE_eq]; exact h)]
    exact h3
theorem way_err {r : Route} (h : errR r ≠ 0) : wayS r = (ints [], errR r) := by
  unfold wayS
  rw [someE_eq, if_neg h]
/-- A whole good tour, as the law asks it. -/
theorem goodR_true {r : Route} {t : List Nat} (h : t ∈ goodR r true) : t.length = r.n ∧ isTour r (t.map fun (k : Nat) => (k : Int)) = true ∧ (goS r t).2.1 < 0 := by
  obtain ⟨h1, h2, h3, h4⟩ := goodR_mem h
  simp only [goodP, Bool.not_true, Bool.false_or, Bool.and_eq_true, beq_iff_eq] at h4
  refine ⟨h4.1, ?_, ?_⟩
  · simp only [isTour, Bool.and_eq_true, List.all_eq_true, decide_eq_true_eq]
    refine ⟨fun n hn => ?_, ?_⟩
    · obtain ⟨k, hk, rfl⟩ := List.mem_map.1 hn
      have := h2 k hk
      omega
    · exact List.pairwise_map.2 (h1.imp fun h e => h (by omega))
  · have := goS_neg r t
    rw [h4.2] at this
    simpa using this
end Go.Proofs.Ytbejgfpaokcnpaa

/-
  The latest start: a tour is good from a start just if this is not above what leavesS says; and Latest is the reference's: plain.
-/
namespace Go.Proofs.Ytbejgfpaokcnpaa
open Go Go.V

/-- Within reach: the first visit begins in time. -/
def inReach (r : Route) (a : Nat) (m : Int) : List Nat → Prop
  | [] => True
  | k :: ks => ∃ b, backL r (k :: ks) = some b ∧ m + r.d a k ≤ b
theorem ride_reach {r : Route} (hr : RouteOk r) : ∀ (t : List Nat) (v : Van), (∀ k ∈ t, k < r.n) → ((ride r v t).2.1 = none ↔ inReach r v.at_ v.now t)
  | [], v, _ => by simp [ride, inReach]
  | [k], v, _ => by
    simp only [ride, inReach, backL, Option.some.injEq, exists_eq_left']
    unfold visit
    by_cases h : (r.s k).cl < (drv r v k).now
    · simp only [h, if_true]
      simp [drv] at h ⊢; omega
    · simp only [h, if_false]
      simp [drv] at h ⊢; omega
  | k :: k' :: ks, v, hk => by
    have ih := ride_reach hr (k' :: ks) (visit r v k).1 (fun j hj => hk j (by simp [hj]))
    have hs := hr.stop k (hk k (by simp))
    simp only [inReach] at ih ⊢
    rw [ride]
    by_cases h : (r.s k).cl < (drv r v k).now
    · have e : (visit r v k).2.2 = false := by unfold visit; rw [if_pos h]
      rw [e]
      simp only [Bool.false_eq_true, if_false, reduceCtorEq, false_iff]
      rintro ⟨b, hb, hle⟩
      simp only [backL] at hb
      split at hb
      · cases hb
      · split at hb
        · cases hb
        · simp only [Option.some.injEq] at hb
          simp only [drv] at h
          omega
    · have e : (visit r v k).2.2 = true := by unfold visit; rw [if_neg h]
      have e1 : (visit r v k).1.at_ = k := by unfold visit; rw [if_neg h]; rfl
      have e2 : (visit r v k).1.now = max (v.now + r.d v.at_ k) (r.s k).op + (r.s k).st := by unfold visit; rw [if_neg h]; rfl
      rw [e1, e2] at ih
      rw [if_pos e]
      refine Iff.trans ?_ (ih.trans ?_)
      · rfl
      simp only [drv] at h
      cases hb : backL r (k' :: ks) with
      | none => simp [backL, hb]
      | some b =>
        simp only [Option.some.injEq, exists_eq_left', backL, hb]
        split
        · simp; omega
        · simp only [Option.some.injEq, exists_eq_left']
          omega

def setS (r : Route) (s : Int) : Route := { r with start := s }
theorem setS_ok {r : Route} (hr : RouteOk r) {s : Int} (h : 0 ≤ s ∧ s ≤ 1440) : RouteOk (setS r s) := ⟨hr.n7, hr.dl, h, hr.stop, hr.row, hr.cell, hr.diag⟩
theorem setS_okb {r : Route} (h : r.ok = true) {s : Int} (hs : 0 ≤ s ∧ s ≤ 1440) : (setS r s).ok = true := by
  unfold Route.ok at h ⊢
  simp only [Bool.and_eq_true] at h ⊢
  have hw : within s 0 1440 = true := by simp only [within, Bool.and_eq_true, decide_eq_true_eq]; omega
  exact ⟨⟨⟨h.1.1.1, hw⟩, h.1.2⟩, h.2⟩
theorem backL_setS (r : Route) (s : Int) : ∀ t, backL (setS r s) t = backL r t
  | [] => rfl
  | [k] => rfl
  | k :: k' :: ks => by simp only [backL]; rw [backL_setS r s (k' :: ks)]; rfl
theorem ridden_setS {r : Route} (hr : RouteOk r) {s : Int} (hs : 0 ≤ s ∧ s ≤ 1440) {t : List Nat} (ht : ∀ k ∈ t, k < r.n) : ridden (setS r s) t = true ↔ s ≤ leavesS r t := by
  have h := ride_reach (setS_ok hr hs) t (leave (setS r s)) ht
  have e : ridden (setS r s) t = true ↔ (ride (setS r s) (leave (setS r s)) t).2.1 = none := by
    unfold ridden
    cases (ride (setS r s) (leave (setS r s)) t).2.1 <;> simp
  rw [e, h]
  unfold leavesS
  cases t with
  | nil => simp [inReach, backL]; omega
  | cons k ks =>
    simp only [inReach]
    rw [backL_setS]
    cases hb : backL r (k :: ks) with
    | none => simp; omega
    | some b =>
      simp only [Option.some.injEq, exists_eq_left']
      have : (leave (setS r s)).now = s := rfl
      have e2 : (setS r s).d (leave (setS r s)).at_ k = r.d r.n k := rfl
      rw [this, e2]
      omega
theorem leavesS_le {r : Route} (hr : RouteOk r) {t : List Nat} (ht : ∀ k ∈ t, k < r.n) : leavesS r t ≤ 1440 := by
  unfold leavesS
  cases hb : backL r t with
  | none => simp
  | some b =>
    have := backL_some hr t b ht hb
    cases t with
    | nil => simp; omega
    | cons k ks => simp only; omega
theorem max_fold : ∀ (l : List Int) (b n : Int), n ≤ l.foldl max b ↔ n ≤ b ∨ ∃ x ∈ l, n ≤ x
  | [], b, n => by simp
  | x :: l, b, n => by
    rw [List.foldl_cons, max_fold l]
    constructor
    · rintro (h | ⟨y, hy, h⟩)
      · by_cases hb : n ≤ b
        · exact .inl hb
        · exact .inr ⟨x, by simp, by omega⟩
      · exact .inr ⟨y, by simp [hy], h⟩
    · rintro (h | ⟨y, hy, h⟩)
      · exact .inl (by omega)
      · rcases List.mem_cons.1 hy with rfl | hy
        · exact .inl (by omega)
        · exact .inr ⟨y, hy, h⟩
/-- There is a whole tour that is good from this start. -/
def hasW (r : Route) (s : Int) : Prop := ∃ t ∈ allR r, t.length = r.n ∧ s ≤ leavesS r t
theorem goodR_setS {r : Route} (hr : RouteOk r) {s : Int} (hs : 0 ≤ s ∧ s ≤ 1440) {t : List Nat} : t ∈ goodR (setS r s) true ↔ t ∈ allR r ∧ t.length = r.n ∧ s ≤ leavesS r t := by
  unfold goodR
  rw [List.mem_filter]
  have e : allR (setS r s) = allR r := rfl
  have en : (setS r s).n = r.n := rfl
  rw [e]
  refine and_congr_right fun ht => ?_
  have := ridden_setS hr hs (allR_ok _ ht).2
  simp only [goodP, Bool.not_true, Bool.false_or, Bool.and_eq_true, beq_iff_eq, en]
  rw [this]
theorem hasW_good {r : Route} (hr : RouteOk r) {s : Int} (hs : 0 ≤ s ∧ s ≤ 1440) : goodR (setS r s) true ≠ [] ↔ hasW r s := by
  unfold hasW
  rw [Ne, List.eq_nil_iff_forall_not_mem]
  simp only [goodR_setS hr hs]
  constructor
  · intro h
    refine Classical.byContradiction fun hn => h fun t ht => hn ⟨t, ht⟩
  · rintro ⟨t, h⟩ hn
    exact hn t h
theorem latestB_has {r : Route} (hr : RouteOk r) {s : Int} (hs : 0 ≤ s) : s ≤ latestB r (wholes (zero r)) ↔ hasW r s := by
  have e : ((wholes (zero r)).map fun p => leavesS r p.1) = (goodR (zero r) true).map (leavesS r) := by
    rw [← wholes_eq, List.map_map]; rfl
  unfold latestB
  rw [e, max_fold]
  have ez : zero r = setS r 0 := rfl
  rw [ez]
  constructor
  · rintro (h | ⟨x, hx, h4⟩)
    · omega
    · obtain ⟨t, ht, rfl⟩ := List.mem_map.1 hx
      obtain ⟨h1, h2, _⟩ := (goodR_setS hr (s := 0) (by omega)).1 ht
      exact ⟨t, h1, h2, h4⟩
  · rintro ⟨t, h1, h2, h4⟩
    exact .inr ⟨_, List.mem_map.2 ⟨t, (goodR_setS hr (s := 0) (by omega)).2 ⟨h1, h2, by omega⟩, rfl⟩, h4⟩
theorem rlatB_has {r : Route} {s : Int} (hs : 0 ≤ s) : s ≤ rlatB r (allR r) ↔ hasW r s := by
  have h : ∀ (l : List (List Nat)) (b : Int), s ≤ l.foldl (lateF r) b ↔ s ≤ b ∨ ∃ t ∈ l, t.length = r.n ∧ s ≤ leavesS r t := by
    intro l
    induction l with
    | nil => intro b; simp
    | cons t l ih =>
      intro b
      rw [List.foldl_cons, ih]
      have e : s ≤ lateF r b t ↔ s ≤ b ∨ (t.length = r.n ∧ s ≤ leavesS r t) := by
        unfold lateF
        split
        · rename_i hl
          simp only [hl, true_and]
          omega
        · rename_i hl
          simp only [hl, false_and, or_false]
      rw [e]
      constructor
      · rintro ((h | h) | ⟨u, hu, h⟩)
        · exact .inl h
        · exact .inr ⟨t, by simp, h⟩
        · exact .inr ⟨u, by simp [hu], h⟩
      · rintro (h | ⟨u, hu, h⟩)
        · exact .inl (.inl h)
        · rcases List.mem_cons.1 hu with rfl | hu
          · exact .inl (.inr h)
          · exact .inr ⟨u, hu, h⟩
  unfold rlatB hasW
  rw [h]
  constructor
  · rintro (h | h)
    · omega
    · exact h
  · exact .inr
theorem fold_low (f : Int → List Nat → Int) (hf : ∀ b t, b ≤ f b t) : ∀ (l : List (List Nat)) (b : Int), b ≤ l.foldl f b
  | [], b => Int.le_refl _
  | t :: l, b => Int.le_trans (hf b t) (fold_low f hf l _)
theorem late_eq {r : Route} (hr : RouteOk r) : latestB r (wholes (zero r)) = rlatB r (allR r) := by
  have h1 : -1 ≤ latestB r (wholes (zero r)) := (max_fold _ _ _).2 (.inl (Int.le_refl _))
  have h2 : -1 ≤ rlatB r (allR r) := fold_low (lateF r) (fun b t => by unfold lateF; split <;> omega) _ _
  refine Int.le_antisymm ?_ ?_
  · by_cases h : latestB r (wholes (zero r)) = -1
    · omega
    · exact (rlatB_has (by omega)).2 ((latestB_has hr (by omega)).1 (Int.le_refl _))
  · by_cases h : rlatB r (allR r) = -1
    · omega
    · exact (latestB_has hr (by omega)).2 ((rlatB_has (by omega)).1 (Int.le_refl _))
theorem latest_eq (r : Route) : latestS r = rlatS r := by
  unfold latestS rlatS
  by_cases h : r.ok = true
  · simp only [h, if_true]
    rw [late_eq (Route.ok_spec h)]
  · simp only [h, if_false]; rfl
theorem latestB_le {r : Route} (hr : RouteOk r) : latestB r (wholes (zero r)) ≤ 1440 := by
  refine Int.le_of_not_gt fun h => ?_
  obtain ⟨t, ht, _, hl⟩ := (latestB_has hr (s := latestB r (wholes (zero r))) (by omega)).1 (Int.le_refl _)
  have := leavesS_le hr (allR_ok _ ht).2
  omega
/-- The error of a route that leaves later. -/
theorem errR_setS {r : Route} (h : r.ok = true) {s : Int} (hs : 0 ≤ s ∧ s ≤ 1440) : errR (setS r s) = if s ≤ latestB r (wholes (zero r)) then 0 else 3 := by
  have hr := Route.ok_spec h
  unfold errR
  rw [if_pos (setS_okb h hs)]
  by_cases hl : s ≤ latestB r (wholes (zero r))
  · rw [if_pos hl, if_neg ((hasW_good hr hs).2 ((latestB_has hr hs.1).1 hl))]
  · rw [if_neg hl, if_pos]
    exact Classical.byContradiction fun hn => hl ((latestB_has hr hs.1).2 ((hasW_good hr hs).1 hn))
end Go.Proofs.Ytbejgfpaokcnpaa

namespace Go.Proofs.Ytbejgfpaokcnpaa
open Go Go.V
@[reducible] def o13_0 : List Ins := [⟨(some 1), .box 3 (.t 0), none, true⟩,
  ⟨(some 2), .mv (.k (.c (.bool false))), none, true⟩]
@[reducible] def o13_1 : List Ins := [⟨(some 3), .ld false 3 (.t 1), none, true⟩,
  ⟨(some 4), .call (.k (.fn 19 [])) [(.t 3)], none, true⟩,
  ⟨(some 5), .un .not (.t 4), none, true⟩,
  ⟨(some 6), .mv (.t 5), none, true⟩,
  ⟨(some 7), .ld false 3 (.t 1), (some (6, true)), true⟩,
  ⟨(some 8), .call (.k (.fn 27 [])) [(.t 7)], (some (6, true)), true⟩,
  ⟨(some 9), .bin .eql (.t 8) (.k (.c (.int .i64 0))), (some (6, true)), true⟩,
  ⟨(some 10), .pick (.t 6) (.t 9) (.k (.c (.bool false))), none, true⟩,
  ⟨(some 2), .mv (.t 10), none, true⟩]
@[reducible] def v13_2 : VC := (.seq (.ops o13_1) .ret)
def ir13 : FC := ⟨1, 11, [.t 2], (.seq (.ops o13_0) v13_2)⟩
@[reducible] def o16_0 : List Ins := [⟨(some 2), .mv (.k (.c (.bool false))), none, true⟩]
@[reducible] def o16_1 : List Ins := [⟨(some 3), .mv (.t 0), none, true⟩,
  ⟨(some 4), .bin .eql (.t 3) (.k (.c (.int .i64 0))), none, true⟩,
  ⟨(some 5), .mv (.t 4), none, true⟩,
  ⟨(some 6), .mv (.t 0), (some (5, false)), true⟩,
  ⟨(some 7), .bin .eql (.t 6) (.k (.c (.int .i64 3))), (some (5, false)), true⟩,
  ⟨(some 8), .pick (.t 5) (.k (.c (.bool true))) (.t 7), none, true⟩,
  ⟨(some 2), .mv (.t 8), none, true⟩]
@[reducible] def v16_2 : VC := (.seq (.ops o16_1) .ret)
def ir16 : FC := ⟨1, 9, [.t 2], (.seq (.ops o16_0) v16_2)⟩
@[reducible] def o3_0 : List Ins := [⟨(some 2), .box 3 (.t 0), none, true⟩,
  ⟨(some 4), .mv (.k (.c (.bool false))), none, true⟩]
@[reducible] def o3_1 : List Ins := [⟨(some 10), .ld false 3 (.t 2), none, true⟩,
  ⟨(some 11), .call (.k (.fn 13 [])) [(.t 10)], none, true⟩,
  ⟨(some 12), .un .not (.t 11), none, true⟩,
  ⟨(some 13), .mv (.t 12), none, true⟩,
  ⟨(some 14), .mv (.t 1), (some (13, false)), true⟩,
  ⟨(some 15), .bin .lss (.t 14) (.k (.c (.int .i64 0))), (some (13, false)), true⟩,
  ⟨(some 16), .pick (.t 13) (.k (.c (.bool true))) (.t 15), none, true⟩,
  ⟨(some 17), .mv (.t 16), none, true⟩,
  ⟨(some 18), .mv (.t 1), (some (17, false)), true⟩,
  ⟨(some 19), .bin .gtr (.t 18) (.k (.c (.int .i64 1440))), (some (17, false)), true⟩,
  ⟨(some 20), .pick (.t 17) (.k (.c (.bool true))) (.t 19), none, true⟩]
@[reducible] def o3_2 : List Ins := [⟨(some 21), .call (.k (.fn 14 [])) [], none, true⟩,
  ⟨(some 4), .mv (.t 21), none, true⟩]
@[reducible] def v3_3 : VC := (.seq (.ops o3_2) .ret)
@[reducible] def v3_4 : VC := (.cond (.t 20) v3_3 .skip)
@[reducible] def o3_5 : List Ins := [⟨(some 23), .ld false 3 (.t 2), none, true⟩,
  ⟨(some 24), .call (.k (.fn 15 [])) [(.t 23)], none, true⟩,
  ⟨(some 22), .mv (.t 24), none, true⟩,
  ⟨(some 25), .ext (.t 22) 0, none, true⟩,
  ⟨(some 26), .ext (.t 22) 1, none, true⟩,
  ⟨(some 5), .mv (.t 25), none, true⟩,
  ⟨(some 6), .mv (.t 26), none, true⟩]
@[reducible] def o3_6 : List Ins := [⟨(some 27), .mv (.t 6), none, true⟩,
  ⟨(some 28), .call (.k (.fn 16 [])) [(.t 27)], none, true⟩,
  ⟨(some 29), .un .not (.t 28), none, true⟩,
  ⟨(some 30), .mv (.t 29), none, true⟩,
  ⟨(some 31), .mv (.t 6), (some (30, false)), true⟩,
  ⟨(some 32), .bin .eql (.t 31) (.k (.c (.int .i64 0))), (some (30, false)), true⟩,
  ⟨(some 33), .mv (.t 32), (some (30, false)), true⟩,
  ⟨(some 34), .mv (.t 5), (some (33, true)), true⟩,
  ⟨(some 35), .bin .lss (.t 34) (.k (.c (.int .i64 0))), (some (33, true)), true⟩,
  ⟨(some 36), .mv (.t 35), (some (33, true)), true⟩,
  ⟨(some 37), .mv (.t 5), (some (36, false)), true⟩,
  ⟨(some 38), .bin .gtr (.t 37) (.k (.c (.int .i64 1440))), (some (36, false)), true⟩,
  ⟨(some 39), .pick (.t 36) (.k (.c (.bool true))) (.t 38), (some (33, true)), true⟩,
  ⟨(some 40), .pick (.t 33) (.t 39) (.k (.c (.bool false))), (some (30, false)), true⟩,
  ⟨(some 41), .pick (.t 30) (.k (.c (.bool true))) (.t 40), none, true⟩]
@[reducible] def o3_7 : List Ins := [⟨(some 4), .mv (.k (.c (.bool false))), none, true⟩]
@[reducible] def v3_8 : VC := (.seq (.ops o3_7) .ret)
@[reducible] def v3_9 : VC := (.cond (.t 41) v3_8 .skip)
@[reducible] def o3_10 : List Ins := [⟨(some 42), .ld false 3 (.t 2), none, true⟩,
  ⟨(some 43), .call (.k (.fn 17 [])) [(.t 42)], none, true⟩,
  ⟨(some 7), .alloc [(.c (.raw (.slice none 0 0))), (.c (.raw (.slice none 0 0))), (.c (.int .i64 0))], none, true⟩,
  ⟨none, .st 3 (.t 7) (.t 43), none, true⟩]
@[reducible] def o3_11 : List Ins := [⟨(some 44), .mv (.t 1), none, true⟩,
  ⟨(some 45), .fa 2 (.t 7), none, true⟩,
  ⟨none, .st 1 (.t 45) (.t 44), none, true⟩]
@[reducible] def o3_12 : List Ins := [⟨(some 47), .ld false 3 (.t 7), none, true⟩,
  ⟨(some 48), .call (.k (.fn 18 [])) [(.t 47)], none, true⟩,
  ⟨(some 46), .mv (.t 48), none, true⟩,
  ⟨(some 49), .ext (.t 46) 0, none, true⟩,
  ⟨(some 50), .ext (.t 46) 1, none, true⟩,
  ⟨(some 8), .mv (.t 49), none, true⟩,
  ⟨(some 9), .mv (.t 50), none, true⟩]
@[reducible] def o3_13 : List Ins := [⟨(some 51), .mv (.t 9), none, true⟩,
  ⟨(some 52), .call (.k (.fn 16 [])) [(.t 51)], none, true⟩,
  ⟨(some 53), .un .not (.t 52), none, true⟩,
  ⟨(some 54), .mv (.t 53), none, true⟩,
  ⟨(some 55), .mv (.t 9), (some (54, false)), true⟩,
  ⟨(some 56), .bin .eql (.t 55) (.k (.c (.int .i64 0))), (some (54, false)), true⟩,
  ⟨(some 57), .mv (.t 6), (some (54, false)), true⟩,
  ⟨(some 58), .bin .eql (.t 57) (.k (.c (.int .i64 0))), (some (54, false)), true⟩,
  ⟨(some 59), .mv (.t 58), (some (54, false)), true⟩,
  ⟨(some 60), .mv (.t 1), (some (59, true)), true⟩,
  ⟨(some 61), .mv (.t 5), (some (59, true)), true⟩,
  ⟨(some 62), .bin .leq (.t 60) (.t 61), (some (59, true)), true⟩,
  ⟨(some 63), .pick (.t 59) (.t 62) (.k (.c (.bool false))), (some (54, false)), true⟩,
  ⟨(some 64), .eqs true (.t 56) (.t 63), (some (54, false)), true⟩,
  ⟨(some 65), .pick (.t 54) (.k (.c (.bool true))) (.t 64), none, true⟩]
@[reducible] def o3_14 : List Ins := [⟨(some 4), .mv (.k (.c (.bool false))), none, true⟩]
@[reducible] def v3_15 : VC := (.seq (.ops o3_14) .ret)
@[reducible] def v3_16 : VC := (.cond (.t 65) v3_15 .skip)
@[reducible] def o3_17 : List Ins := [⟨(some 66), .mv (.t 6), none, true⟩,
  ⟨(some 67), .bin .neq (.t 66) (.k (.c (.int .i64 0))), none, true⟩]
@[reducible] def o3_18 : List Ins := [⟨(some 68), .call (.k (.fn 14 [])) [], none, true⟩,
  ⟨(some 4), .mv (.t 68), none, true⟩]
@[reducible] def v3_19 : VC := (.seq (.ops o3_18) .ret)
@[reducible] def v3_20 : VC := (.cond (.t 67) v3_19 .skip)
@[reducible] def o3_21 : List Ins := [⟨(some 69), .mv (.t 5), none, true⟩,
  ⟨(some 70), .fa 2 (.t 7), none, true⟩,
  ⟨none, .st 1 (.t 70) (.t 69), none, true⟩]
@[reducible] def o3_22 : List Ins := [⟨(some 72), .ld false 3 (.t 7), none, true⟩,
  ⟨(some 73), .call (.k (.fn 18 [])) [(.t 72)], none, true⟩,
  ⟨(some 71), .mv (.t 73), none, true⟩,
  ⟨(some 74), .ext (.t 71) 0, none, true⟩,
  ⟨(some 75), .ext (.t 71) 1, none, true⟩,
  ⟨(some 9), .mv (.t 75), none, true⟩]
@[reducible] def o3_23 : List Ins := [⟨(some 76), .mv (.t 9), none, true⟩,
  ⟨(some 77), .bin .neq (.t 76) (.k (.c (.int .i64 0))), none, true⟩,
  ⟨(some 78), .mv (.t 77), none, true⟩,
  ⟨(some 79), .mv (.t 5), (some (78, false)), true⟩,
  ⟨(some 80), .bin .eql (.t 79) (.k (.c (.int .i64 1440))), (some (78, false)), true⟩,
  ⟨(some 81), .pick (.t 78) (.k (.c (.bool true))) (.t 80), none, true⟩]
@[reducible] def o3_24 : List Ins := [⟨(some 82), .mv (.t 9), none, true⟩,
  ⟨(some 83), .bin .eql (.t 82) (.k (.c (.int .i64 0))), none, true⟩,
  ⟨(some 84), .mv (.t 83), none, true⟩,
  ⟨(some 85), .call (.k (.fn 14 [])) [], (some (84, true)), true⟩,
  ⟨(some 86), .pick (.t 84) (.t 85) (.k (.c (.bool false))), none, true⟩,
  ⟨(some 4), .mv (.t 86), none, true⟩]
@[reducible] def v3_25 : VC := (.seq (.ops o3_24) .ret)
@[reducible] def v3_26 : VC := (.cond (.t 81) v3_25 .skip)
@[reducible] def o3_27 : List Ins := [⟨(some 87), .fa 2 (.t 7), none, true⟩,
  ⟨(some 88), .ld true 1 (.t 87), none, true⟩,
  ⟨(some 89), .bin .add (.t 88) (.k (.c (.int .i64 1))), none, true⟩,
  ⟨(some 90), .fa 2 (.t 7), none, true⟩,
  ⟨none, .st 1 (.t 90) (.t 89), none, true⟩]
@[reducible] def o3_28 : List Ins := [⟨(some 92), .ld false 3 (.t 7), none, true⟩,
  ⟨(some 93), .call (.k (.fn 18 [])) [(.t 92)], none, true⟩,
  ⟨(some 91), .mv (.t 93), none, true⟩,
  ⟨(some 94), .ext (.t 91) 0, none, true⟩,
  ⟨(some 95), .ext (.t 91) 1, none, true⟩,
  ⟨(some 9), .mv (.t 95), none, true⟩]
@[reducible] def o3_29 : List Ins := [⟨(some 96), .mv (.t 9), none, true⟩,
  ⟨(some 97), .bin .eql (.t 96) (.k (.c (.int .i64 3))), none, true⟩,
  ⟨(some 98), .mv (.t 97), none, true⟩,
  ⟨(some 99), .call (.k (.fn 14 [])) [], (some (98, true)), true⟩,
  ⟨(some 100), .pick (.t 98) (.t 99) (.k (.c (.bool false))), none, true⟩,
  ⟨(some 4), .mv (.t 100), none, true⟩]
@[reducible] def v3_30 : VC := (.seq (.ops o3_29) .ret)
@[reducible] def v3_31 : VC := (.seq (.ops o3_28) v3_30)
@[reducible] def v3_32 : VC := (.seq (.ops o3_27) v3_31)
@[reducible] def v3_33 : VC := (.seq (.seq (.ops o3_23) v3_26) v3_32)
@[reducible] def v3_34 : VC := (.seq (.ops o3_22) v3_33)
@[reducible] def v3_35 : VC := (.seq (.ops o3_21) v3_34)
@[reducible] def v3_36 : VC := (.seq (.seq (.ops o3_17) v3_20) v3_35)
@[reducible] def v3_37 : VC := (.seq (.seq (.ops o3_13) v3_16) v3_36)
@[reducible] def v3_38 : VC := (.seq (.ops o3_12) v3_37)
@[reducible] def v3_39 : VC := (.seq (.ops o3_11) v3_38)
@[reducible] def v3_40 : VC := (.seq (.ops o3_10) v3_39)
@[reducible] def v3_41 : VC := (.seq (.seq (.ops o3_6) v3_9) v3_40)
@[reducible] def v3_42 : VC := (.seq (.ops o3_5) v3_41)
@[reducible] def v3_43 : VC := (.seq (.seq (.ops o3_1) v3_4) v3_42)
def ir3 : FC := ⟨2, 101, [.t 4], (.seq (.ops o3_0) v3_43)⟩
theorem c13 : compM Try.prog [] 13 = some ir13 := by kernel_rfl
theorem c16 : compM Try.prog [] 16 = some ir16 := by kernel_rfl
theorem c3 : compM Try.prog [] 3 = some ir3 := by kernel_rfl



def readyS (r : Route) : Bool := !farS r && r.ok
theorem readyS_of {r : Route} (h : readyS r = true) : r.ok = true ∧ near r = true := by
  unfold readyS at h
  simp only [Bool.and_eq_true, Bool.not_eq_true'] at h
  refine ⟨h.2, ?_⟩
  have hf := h.1
  unfold farS at hf
  by_cases hn : near r = true
  · exact hn
  · rw [if_neg hn] at hf; cases hf

set_option maxHeartbeats 2000000 in
theorem ready13 (r : Route) : FSpec Try.prog 13 [r.av] (.c (.bool (readyS r))) := by
  refine FSpec_of c13 (Nat.le_refl _) (by decide) fun C hP hN hC hL => ?_
  simp only [ir13, Route.av]
  (repeat ((first | refine WV_seq_ ?_ | refine WV_block ?_ | refine WV_ops ?_ | refine WV_skip ?_ | refine WV_exit ?_); (try simp only [go_sem, init_env', Nat.reduceEqDiff, Nat.reduceAdd, Nat.reduceMul, reduceIte, Nat.reduceLeDiff, Nat.reduceLT, Nat.reduceBEq, reduceCtorEq, hP, ]); (repeat (refine And.intro (by first | omega | (intros; simp_all; done) | (intros; simp_all; omega)) ?_))))
  (refine AS_pure (far19 r) rfl rfl rfl rfl rfl ?_; simp only [go_sem, init_env', Nat.reduceEqDiff, Nat.reduceAdd, Nat.reduceMul, reduceIte, Nat.reduceLeDiff, Nat.reduceLT, Nat.reduceBEq, reduceCtorEq, hP, Route.av]; (repeat (refine And.intro (by first | omega | (intros; simp_all; done) | (intros; simp_all; omega)) ?_)); (repeat ((first | refine WV_seq_ ?_ | refine WV_block ?_ | refine WV_ops ?_ | refine WV_skip ?_ | refine WV_exit ?_); (try simp only [go_sem, init_env', Nat.reduceEqDiff, Nat.reduceAdd, Nat.reduceMul, reduceIte, Nat.reduceLeDiff, Nat.reduceLT, Nat.reduceBEq, reduceCtorEq, hP, Route.av]); (repeat (refine And.intro (by first | omega | (intros; simp_all; done) | (intros; simp_all; omega)) ?_)))))
  (refine AG_pure (fun hG => check_spec r) rfl (fun hG => by simp only [go_sem, init_env', Nat.reduceEqDiff, Nat.reduceAdd, Nat.reduceMul, reduceIte, Nat.reduceLeDiff, Nat.reduceLT, Nat.reduceBEq, reduceCtorEq, hG]) rfl rfl rfl ?_; simp only [go_sem, init_env', Nat.reduceEqDiff, Nat.reduceAdd, Nat.reduceMul, reduceIte, Nat.reduceLeDiff, Nat.reduceLT, Nat.reduceBEq, reduceCtorEq, hP, Route.av]; (repeat (refine And.intro (by first | omega | (intros; simp_all; done) | (intros; simp_all; omega)) ?_)); (repeat ((first | refine WV_seq_ ?_ | refine WV_block ?_ | refine WV_ops ?_ | refine WV_skip ?_ | refine WV_exit ?_); (try simp only [go_sem, init_env', Nat.reduceEqDiff, Nat.reduceAdd, Nat.reduceMul, reduceIte, Nat.reduceLeDiff, Nat.reduceLT, Nat.reduceBEq, reduceCtorEq, hP, Route.av]); (repeat (refine And.intro (by first | omega | (intros; simp_all; done) | (intros; simp_all; omega)) ?_)))))
  by_cases hok : r.ok = true
  · simp only [hok, if_true, beq_self_eq_true]
    (try refine ⟨fun h => by simpa using h, ?_⟩)
    (repeat ((first | refine WV_seq_ ?_ | refine WV_block ?_ | refine WV_ops ?_ | refine WV_skip ?_ | refine WV_exit ?_); (try simp only [go_sem, init_env', Nat.reduceEqDiff, Nat.reduceAdd, Nat.reduceMul, reduceIte, Nat.reduceLeDiff, Nat.reduceLT, Nat.reduceBEq, reduceCtorEq, hP, ]); (repeat (refine And.intro (by first | omega | (intros; simp_all; done) | (intros; simp_all; omega)) ?_))))
    (refine WV_ret ?_; simp only [thenQ, inQ, RetQ, RetOk, resAll, resA]; simp only [go_sem, init_env', Nat.reduceEqDiff, Nat.reduceAdd, Nat.reduceMul, reduceIte, Nat.reduceLeDiff, Nat.reduceLT, Nat.reduceBEq, reduceCtorEq, tupA, AV.port, AV.portL, exists_eq_left', ]; (first | exact AVle.of rfl | refine AVle.of ?_ | skip))
    simp [readyS, hok]
  · have hok : r.ok = false := by simpa using hok
    simp only [hok, Bool.false_eq_true, if_false]
    (try refine ⟨fun h => by simpa using h, ?_⟩)
    (repeat ((first | refine WV_seq_ ?_ | refine WV_block ?_ | refine WV_ops ?_ | refine WV_skip ?_ | refine WV_exit ?_); (try simp only [go_sem, init_env', Nat.reduceEqDiff, Nat.reduceAdd, Nat.reduceMul, reduceIte, Nat.reduceLeDiff, Nat.reduceLT, Nat.reduceBEq, reduceCtorEq, hP, ]); (repeat (refine And.intro (by first | omega | (intros; simp_all; done) | (intros; simp_all; omega)) ?_))))
    (refine WV_ret ?_; simp only [thenQ, inQ, RetQ, RetOk, resAll, resA]; simp only [go_sem, init_env', Nat.reduceEqDiff, Nat.reduceAdd, Nat.reduceMul, reduceIte, Nat.reduceLeDiff, Nat.reduceLT, Nat.reduceBEq, reduceCtorEq, tupA, AV.port, AV.portL, exists_eq_left', ]; (first | exact AVle.of rfl | refine AVle.of ?_ | skip))
    simp [readyS, hok]

def knownS (e : Int) : Bool := e == 0 || e == 3
theorem known16 (e : Int) : FSpec Try.prog 16 [iv e] (.c (.bool (knownS e))) := by
  refine FSpec_of c16 (Nat.le_refl _) (by decide) fun C hP hN hC hL => ?_
  simp only [ir16]
  (repeat ((first | refine WV_seq_ ?_ | refine WV_block ?_ | refine WV_ops ?_ | refine WV_skip ?_ | refine WV_exit ?_); (try simp only [go_sem, init_env', Nat.reduceEqDiff, Nat.reduceAdd, Nat.reduceMul, reduceIte, Nat.reduceLeDiff, Nat.reduceLT, Nat.reduceBEq, reduceCtorEq, hP, ]); (repeat (refine And.intro (by first | omega | (intros; simp_all; done) | (intros; simp_all; omega)) ?_))))
  (refine WV_ret ?_; simp only [thenQ, inQ, RetQ, RetOk, resAll, resA]; simp only [go_sem, init_env', Nat.reduceEqDiff, Nat.reduceAdd, Nat.reduceMul, reduceIte, Nat.reduceLeDiff, Nat.reduceLT, Nat.reduceBEq, reduceCtorEq, tupA, AV.port, AV.portL, exists_eq_left', ]; (first | exact AVle.of rfl | refine AVle.of ?_ | skip))

set_option maxRecDepth 20000 in
set_option maxHeartbeats 8000000 in
theorem law3 (r : Route) (s : Int) : FSpec Try.prog 3 [r.av, iv s] (.c (.bool true)) := by
  refine FSpec_of c3 (Nat.le_refl _) (by decide) fun C hP hN hC hL => ?_
  simp only [ir3, Route.av]
  (repeat ((first | refine WV_seq_ ?_ | refine WV_block ?_ | refine WV_ops ?_ | refine WV_skip ?_ | refine WV_exit ?_); (try simp only [go_sem, init_env', Nat.reduceEqDiff, Nat.reduceAdd, Nat.reduceMul, reduceIte, Nat.reduceLeDiff, Nat.reduceLT, Nat.reduceBEq, reduceCtorEq, hP, ]); (repeat (refine And.intro (by first | omega | (intros; simp_all; done) | (intros; simp_all; omega)) ?_))))
  (refine AS_pure (ready13 r) rfl rfl rfl rfl rfl ?_; simp only [go_sem, init_env', Nat.reduceEqDiff, Nat.reduceAdd, Nat.reduceMul, reduceIte, Nat.reduceLeDiff, Nat.reduceLT, Nat.reduceBEq, reduceCtorEq, hP, Route.av]; (repeat (refine And.intro (by first | omega | (intros; simp_all; done) | (intros; simp_all; omega)) ?_)); (repeat ((first | refine WV_seq_ ?_ | refine WV_block ?_ | refine WV_ops ?_ | refine WV_skip ?_ | refine WV_exit ?_); (try simp only [go_sem, init_env', Nat.reduceEqDiff, Nat.reduceAdd, Nat.reduceMul, reduceIte, Nat.reduceLeDiff, Nat.reduceLT, Nat.reduceBEq, reduceCtorEq, hP, Route.av]); (repeat (refine And.intro (by first | omega | (intros; simp_all; done) | (intros; simp_all; omega)) ?_)))))
  (refine WV_cond rfl (fun h => ?_) (fun h => ?_))
  · (repeat ((first | refine WV_seq_ ?_ | refine WV_block ?_ | refine WV_ops ?_ | refine WV_skip ?_ | refine WV_exit ?_); (try simp only [go_sem, init_env', Nat.reduceEqDiff, Nat.reduceAdd, Nat.reduceMul, reduceIte, Nat.reduceLeDiff, Nat.reduceLT, Nat.reduceBEq, reduceCtorEq, hP, ]); (repeat (refine And.intro (by first | omega | (intros; simp_all; done) | (intros; simp_all; omega)) ?_))))
    (refine AS_pure (works14) rfl rfl rfl rfl rfl ?_; simp only [go_sem, init_env', Nat.reduceEqDiff, Nat.reduceAdd, Nat.reduceMul, reduceIte, Nat.reduceLeDiff, Nat.reduceLT, Nat.reduceBEq, reduceCtorEq, hP, ]; (repeat (refine And.intro (by first | omega | (intros; simp_all; done) | (intros; simp_all; omega)) ?_)); (repeat ((first | refine WV_seq_ ?_ | refine WV_block ?_ | refine WV_ops ?_ | refine WV_skip ?_ | refine WV_exit ?_); (try simp only [go_sem, init_env', Nat.reduceEqDiff, Nat.reduceAdd, Nat.reduceMul, reduceIte, Nat.reduceLeDiff, Nat.reduceLT, Nat.reduceBEq, reduceCtorEq, hP, ]); (repeat (refine And.intro (by first | omega | (intros; simp_all; done) | (intros; simp_all; omega)) ?_)))))
    (refine WV_ret ?_; simp only [thenQ, inQ, RetQ, RetOk, resAll, resA]; simp only [go_sem, init_env', Nat.reduceEqDiff, Nat.reduceAdd, Nat.reduceMul, reduceIte, Nat.reduceLeDiff, Nat.reduceLT, Nat.reduceBEq, reduceCtorEq, tupA, AV.port, AV.portL, exists_eq_left', ]; (first | exact AVle.of rfl | refine AVle.of ?_ | skip))
  · have h : readyS r = true ∧ 0 ≤ s ∧ s ≤ 1440 := by
      cases hr : readyS r
      · rw [hr] at h; simp at h
      · rw [hr] at h; simp at h; exact ⟨rfl, by omega⟩
    obtain ⟨hrd, hs⟩ := h
    obtain ⟨hok, hnear⟩ := readyS_of hrd
    have hr := Route.ok_spec hok
    have hle := latestB_le hr
    have herr := fun s hs => errR_setS hok (s := s) hs
    have hl := latest15 r
    unfold latestS at hl
    rw [if_pos hok] at hl
    generalize latestB r (wholes (zero r)) = L at *
    have hw1 := way18 (setS r s)
    by_cases hL0 : L < 0
    · rw [if_pos hL0] at hl
      have he1 := herr s hs
      rw [if_neg (by omega)] at he1
      rw [way_err (by rw [he1]; decide), he1] at hw1
      (repeat ((first | refine WV_seq_ ?_ | refine WV_block ?_ | refine WV_ops ?_ | refine WV_skip ?_ | refine WV_exit ?_); (try simp only [go_sem, init_env', Nat.reduceEqDiff, Nat.reduceAdd, Nat.reduceMul, reduceIte, Nat.reduceLeDiff, Nat.reduceLT, Nat.reduceBEq, reduceCtorEq, hP, ]); (repeat (refine And.intro (by first | omega | (intros; simp_all; done) | (intros; simp_all; omega)) ?_))))
      (refine AS_pure (hl) rfl rfl rfl rfl rfl ?_; simp only [go_sem, init_env', Nat.reduceEqDiff, Nat.reduceAdd, Nat.reduceMul, reduceIte, Nat.reduceLeDiff, Nat.reduceLT, Nat.reduceBEq, reduceCtorEq, hP, Route.av]; (repeat (refine And.intro (by first | omega | (intros; simp_all; done) | (intros; simp_all; omega)) ?_)); (repeat ((first | refine WV_seq_ ?_ | refine WV_block ?_ | refine WV_ops ?_ | refine WV_skip ?_ | refine WV_exit ?_); (try simp only [go_sem, init_env', Nat.reduceEqDiff, Nat.reduceAdd, Nat.reduceMul, reduceIte, Nat.reduceLeDiff, Nat.reduceLT, Nat.reduceBEq, reduceCtorEq, hP, Route.av]); (repeat (refine And.intro (by first | omega | (intros; simp_all; done) | (intros; simp_all; omega)) ?_)))))
      (refine AS_pure (known16 3) rfl rfl rfl rfl rfl ?_; simp only [go_sem, init_env', Nat.reduceEqDiff, Nat.reduceAdd, Nat.reduceMul, reduceIte, Nat.reduceLeDiff, Nat.reduceLT, Nat.reduceBEq, reduceCtorEq, hP, knownS]; (repeat (refine And.intro (by first | omega | (intros; simp_all; done) | (intros; simp_all; omega)) ?_)); (repeat ((first | refine WV_seq_ ?_ | refine WV_block ?_ | refine WV_ops ?_ | refine WV_skip ?_ | refine WV_exit ?_); (try simp only [go_sem, init_env', Nat.reduceEqDiff, Nat.reduceAdd, Nat.reduceMul, reduceIte, Nat.reduceLeDiff, Nat.reduceLT, Nat.reduceBEq, reduceCtorEq, hP, knownS]); (repeat (refine And.intro (by first | omega | (intros; simp_all; done) | (intros; simp_all; omega)) ?_)))))
      (refine WV_cond rfl (fun h => ?_) (fun h => ?_))
      · simp [knownS] at h
      · clear h
        (repeat ((first | refine WV_seq_ ?_ | refine WV_block ?_ | refine WV_ops ?_ | refine WV_skip ?_ | refine WV_exit ?_); (try simp only [go_sem, init_env', Nat.reduceEqDiff, Nat.reduceAdd, Nat.reduceMul, reduceIte, Nat.reduceLeDiff, Nat.reduceLT, Nat.reduceBEq, reduceCtorEq, hP, ]); (repeat (refine And.intro (by first | omega | (intros; simp_all; done) | (intros; simp_all; omega)) ?_))))
        (refine AS_pure (copy17 r hnear) rfl rfl rfl rfl rfl ?_; simp only [go_sem, init_env', Nat.reduceEqDiff, Nat.reduceAdd, Nat.reduceMul, reduceIte, Nat.reduceLeDiff, Nat.reduceLT, Nat.reduceBEq, reduceCtorEq, hP, Route.av]; (repeat (refine And.intro (by first | omega | (intros; simp_all; done) | (intros; simp_all; omega)) ?_)); (repeat ((first | refine WV_seq_ ?_ | refine WV_block ?_ | refine WV_ops ?_ | refine WV_skip ?_ | refine WV_exit ?_); (try simp only [go_sem, init_env', Nat.reduceEqDiff, Nat.reduceAdd, Nat.reduceMul, reduceIte, Nat.reduceLeDiff, Nat.reduceLT, Nat.reduceBEq, reduceCtorEq, hP, Route.av]); (repeat (refine And.intro (by first | omega | (intros; simp_all; done) | (intros; simp_all; omega)) ?_)))))
        (refine AS_pure (hw1) rfl rfl rfl rfl rfl ?_; simp only [go_sem, init_env', Nat.reduceEqDiff, Nat.reduceAdd, Nat.reduceMul, reduceIte, Nat.reduceLeDiff, Nat.reduceLT, Nat.reduceBEq, reduceCtorEq, hP, Route.av, setS]; (repeat (refine And.intro (by first | omega | (intros; simp_all; done) | (intros; simp_all; omega)) ?_)); (repeat ((first | refine WV_seq_ ?_ | refine WV_block ?_ | refine WV_ops ?_ | refine WV_skip ?_ | refine WV_exit ?_); (try simp only [go_sem, init_env', Nat.reduceEqDiff, Nat.reduceAdd, Nat.reduceMul, reduceIte, Nat.reduceLeDiff, Nat.reduceLT, Nat.reduceBEq, reduceCtorEq, hP, Route.av, setS]); (repeat (refine And.intro (by first | omega | (intros; simp_all; done) | (intros; simp_all; omega)) ?_)))))
        (refine AS_pure (known16 3) rfl rfl rfl rfl rfl ?_; simp only [go_sem, init_env', Nat.reduceEqDiff, Nat.reduceAdd, Nat.reduceMul, reduceIte, Nat.reduceLeDiff, Nat.reduceLT, Nat.reduceBEq, reduceCtorEq, hP, knownS]; (repeat (refine And.intro (by first | omega | (intros; simp_all; done) | (intros; simp_all; omega)) ?_)); (repeat ((first | refine WV_seq_ ?_ | refine WV_block ?_ | refine WV_ops ?_ | refine WV_skip ?_ | refine WV_exit ?_); (try simp only [go_sem, init_env', Nat.reduceEqDiff, Nat.reduceAdd, Nat.reduceMul, reduceIte, Nat.reduceLeDiff, Nat.reduceLT, Nat.reduceBEq, reduceCtorEq, hP, knownS]); (repeat (refine And.intro (by first | omega | (intros; simp_all; done) | (intros; simp_all; omega)) ?_)))))
        (refine WV_cond rfl (fun h => ?_) (fun h => ?_))
        · simp [knownS] at h
        · clear h
          (repeat ((first | refine WV_seq_ ?_ | refine WV_block ?_ | refine WV_ops ?_ | refine WV_skip ?_ | refine WV_exit ?_); (try simp only [go_sem, init_env', Nat.reduceEqDiff, Nat.reduceAdd, Nat.reduceMul, reduceIte, Nat.reduceLeDiff, Nat.reduceLT, Nat.reduceBEq, reduceCtorEq, hP, ]); (repeat (refine And.intro (by first | omega | (intros; simp_all; done) | (intros; simp_all; omega)) ?_))))
          (refine WV_cond rfl (fun h => ?_) (fun h => ?_))
          · (repeat ((first | refine WV_seq_ ?_ | refine WV_block ?_ | refine WV_ops ?_ | refine WV_skip ?_ | refine WV_exit ?_); (try simp only [go_sem, init_env', Nat.reduceEqDiff, Nat.reduceAdd, Nat.reduceMul, reduceIte, Nat.reduceLeDiff, Nat.reduceLT, Nat.reduceBEq, reduceCtorEq, hP, ]); (repeat (refine And.intro (by first | omega | (intros; simp_all; done) | (intros; simp_all; omega)) ?_))))
            (refine AS_pure (works14) rfl rfl rfl rfl rfl ?_; simp only [go_sem, init_env', Nat.reduceEqDiff, Nat.reduceAdd, Nat.reduceMul, reduceIte, Nat.reduceLeDiff, Nat.reduceLT, Nat.reduceBEq, reduceCtorEq, hP, ]; (repeat (refine And.intro (by first | omega | (intros; simp_all; done) | (intros; simp_all; omega)) ?_)); (repeat ((first | refine WV_seq_ ?_ | refine WV_block ?_ | refine WV_ops ?_ | refine WV_skip ?_ | refine WV_exit ?_); (try simp only [go_sem, init_env', Nat.reduceEqDiff, Nat.reduceAdd, Nat.reduceMul, reduceIte, Nat.reduceLeDiff, Nat.reduceLT, Nat.reduceBEq, reduceCtorEq, hP, ]); (repeat (refine And.intro (by first | omega | (intros; simp_all; done) | (intros; simp_all; omega)) ?_)))))
            (refine WV_ret ?_; simp only [thenQ, inQ, RetQ, RetOk, resAll, resA]; simp only [go_sem, init_env', Nat.reduceEqDiff, Nat.reduceAdd, Nat.reduceMul, reduceIte, Nat.reduceLeDiff, Nat.reduceLT, Nat.reduceBEq, reduceCtorEq, tupA, AV.port, AV.portL, exists_eq_left', ]; (first | exact AVle.of rfl | refine AVle.of ?_ | skip))
          · simp at h
    · rw [if_neg hL0] at hl
      have he1 := herr s hs
      have heL := herr L (by omega)
      rw [if_pos (Int.le_refl _)] at heL
      obtain ⟨tL, htL, _, _⟩ := way_ok heL
      have hwL := way18 (setS r L)
      rw [htL] at hwL
      by_cases hsL : s ≤ L
      · rw [if_pos hsL] at he1
        obtain ⟨t1, ht1, _, _⟩ := way_ok he1
        rw [ht1] at hw1
        have hdl : decide (s ≤ L) = true := by simpa using hsL
        (repeat ((first | refine WV_seq_ ?_ | refine WV_block ?_ | refine WV_ops ?_ | refine WV_skip ?_ | refine WV_exit ?_); (try simp only [go_sem, init_env', Nat.reduceEqDiff, Nat.reduceAdd, Nat.reduceMul, reduceIte, Nat.reduceLeDiff, Nat.reduceLT, Nat.reduceBEq, reduceCtorEq, hP, ]); (repeat (refine And.intro (by first | omega | (intros; simp_all; done) | (intros; simp_all; omega)) ?_))))
        (refine AS_pure (hl) rfl rfl rfl rfl rfl ?_; simp only [go_sem, init_env', Nat.reduceEqDiff, Nat.reduceAdd, Nat.reduceMul, reduceIte, Nat.reduceLeDiff, Nat.reduceLT, Nat.reduceBEq, reduceCtorEq, hP, Route.av]; (repeat (refine And.intro (by first | omega | (intros; simp_all; done) | (intros; simp_all; omega)) ?_)); (repeat ((first | refine WV_seq_ ?_ | refine WV_block ?_ | refine WV_ops ?_ | refine WV_skip ?_ | refine WV_exit ?_); (try simp only [go_sem, init_env', Nat.reduceEqDiff, Nat.reduceAdd, Nat.reduceMul, reduceIte, Nat.reduceLeDiff, Nat.reduceLT, Nat.reduceBEq, reduceCtorEq, hP, Route.av]); (repeat (refine And.intro (by first | omega | (intros; simp_all; done) | (intros; simp_all; omega)) ?_)))))
        (refine AS_pure (known16 0) rfl rfl rfl rfl rfl ?_; simp only [go_sem, init_env', Nat.reduceEqDiff, Nat.reduceAdd, Nat.reduceMul, reduceIte, Nat.reduceLeDiff, Nat.reduceLT, Nat.reduceBEq, reduceCtorEq, hP, knownS]; (repeat (refine And.intro (by first | omega | (intros; simp_all; done) | (intros; simp_all; omega)) ?_)); (repeat ((first | refine WV_seq_ ?_ | refine WV_block ?_ | refine WV_ops ?_ | refine WV_skip ?_ | refine WV_exit ?_); (try simp only [go_sem, init_env', Nat.reduceEqDiff, Nat.reduceAdd, Nat.reduceMul, reduceIte, Nat.reduceLeDiff, Nat.reduceLT, Nat.reduceBEq, reduceCtorEq, hP, knownS]); (repeat (refine And.intro (by first | omega | (intros; simp_all; done) | (intros; simp_all; omega)) ?_)))))
        (refine WV_cond rfl (fun h => ?_) (fun h => ?_))
        · simp [knownS] at h; omega
        · clear h
          (repeat ((first | refine WV_seq_ ?_ | refine WV_block ?_ | refine WV_ops ?_ | refine WV_skip ?_ | refine WV_exit ?_); (try simp only [go_sem, init_env', Nat.reduceEqDiff, Nat.reduceAdd, Nat.reduceMul, reduceIte, Nat.reduceLeDiff, Nat.reduceLT, Nat.reduceBEq, reduceCtorEq, hP, ]); (repeat (refine And.intro (by first | omega | (intros; simp_all; done) | (intros; simp_all; omega)) ?_))))
          (refine AS_pure (copy17 r hnear) rfl rfl rfl rfl rfl ?_; simp only [go_sem, init_env', Nat.reduceEqDiff, Nat.reduceAdd, Nat.reduceMul, reduceIte, Nat.reduceLeDiff, Nat.reduceLT, Nat.reduceBEq, reduceCtorEq, hP, Route.av]; (repeat (refine And.intro (by first | omega | (intros; simp_all; done) | (intros; simp_all; omega)) ?_)); (repeat ((first | refine WV_seq_ ?_ | refine WV_block ?_ | refine WV_ops ?_ | refine WV_skip ?_ | refine WV_exit ?_); (try simp only [go_sem, init_env', Nat.reduceEqDiff, Nat.reduceAdd, Nat.reduceMul, reduceIte, Nat.reduceLeDiff, Nat.reduceLT, Nat.reduceBEq, reduceCtorEq, hP, Route.av]); (repeat (refine And.intro (by first | omega | (intros; simp_all; done) | (intros; simp_all; omega)) ?_)))))
          (refine AS_pure (hw1) rfl rfl rfl rfl rfl ?_; simp only [go_sem, init_env', Nat.reduceEqDiff, Nat.reduceAdd, Nat.reduceMul, reduceIte, Nat.reduceLeDiff, Nat.reduceLT, Nat.reduceBEq, reduceCtorEq, hP, Route.av, setS]; (repeat (refine And.intro (by first | omega | (intros; simp_all; done) | (intros; simp_all; omega)) ?_)); (repeat ((first | refine WV_seq_ ?_ | refine WV_block ?_ | refine WV_ops ?_ | refine WV_skip ?_ | refine WV_exit ?_); (try simp only [go_sem, init_env', Nat.reduceEqDiff, Nat.reduceAdd, Nat.reduceMul, reduceIte, Nat.reduceLeDiff, Nat.reduceLT, Nat.reduceBEq, reduceCtorEq, hP, Route.av, setS]); (repeat (refine And.intro (by first | omega | (intros; simp_all; done) | (intros; simp_all; omega)) ?_)))))
          (refine AS_pure (known16 0) rfl rfl rfl rfl rfl ?_; simp only [go_sem, init_env', Nat.reduceEqDiff, Nat.reduceAdd, Nat.reduceMul, reduceIte, Nat.reduceLeDiff, Nat.reduceLT, Nat.reduceBEq, reduceCtorEq, hP, knownS, hdl]; (repeat (refine And.intro (by first | omega | (intros; simp_all; done) | (intros; simp_all; omega)) ?_)); (repeat ((first | refine WV_seq_ ?_ | refine WV_block ?_ | refine WV_ops ?_ | refine WV_skip ?_ | refine WV_exit ?_); (try simp only [go_sem, init_env', Nat.reduceEqDiff, Nat.reduceAdd, Nat.reduceMul, reduceIte, Nat.reduceLeDiff, Nat.reduceLT, Nat.reduceBEq, reduceCtorEq, hP, knownS, hdl]); (repeat (refine And.intro (by first | omega | (intros; simp_all; done) | (intros; simp_all; omega)) ?_)))))
          (refine WV_cond rfl (fun h => ?_) (fun h => ?_))
          · simp [knownS] at h
          · clear h
            (repeat ((first | refine WV_seq_ ?_ | refine WV_block ?_ | refine WV_ops ?_ | refine WV_skip ?_ | refine WV_exit ?_); (try simp only [go_sem, init_env', Nat.reduceEqDiff, Nat.reduceAdd, Nat.reduceMul, reduceIte, Nat.reduceLeDiff, Nat.reduceLT, Nat.reduceBEq, reduceCtorEq, hP, ]); (repeat (refine And.intro (by first | omega | (intros; simp_all; done) | (intros; simp_all; omega)) ?_))))
            (refine WV_cond rfl (fun h => ?_) (fun h => ?_))
            · simp at h
            · clear h
              (repeat ((first | refine WV_seq_ ?_ | refine WV_block ?_ | refine WV_ops ?_ | refine WV_skip ?_ | refine WV_exit ?_); (try simp only [go_sem, init_env', Nat.reduceEqDiff, Nat.reduceAdd, Nat.reduceMul, reduceIte, Nat.reduceLeDiff, Nat.reduceLT, Nat.reduceBEq, reduceCtorEq, hP, ]); (repeat (refine And.intro (by first | omega | (intros; simp_all; done) | (intros; simp_all; omega)) ?_))))
              (refine AS_pure (hwL) rfl rfl rfl rfl rfl ?_; simp only [go_sem, init_env', Nat.reduceEqDiff, Nat.reduceAdd, Nat.reduceMul, reduceIte, Nat.reduceLeDiff, Nat.reduceLT, Nat.reduceBEq, reduceCtorEq, hP, Route.av, setS]; (repeat (refine And.intro (by first | omega | (intros; simp_all; done) | (intros; simp_all; omega)) ?_)); (repeat ((first | refine WV_seq_ ?_ | refine WV_block ?_ | refine WV_ops ?_ | refine WV_skip ?_ | refine WV_exit ?_); (try simp only [go_sem, init_env', Nat.reduceEqDiff, Nat.reduceAdd, Nat.reduceMul, reduceIte, Nat.reduceLeDiff, Nat.reduceLT, Nat.reduceBEq, reduceCtorEq, hP, Route.av, setS]); (repeat (refine And.intro (by first | omega | (intros; simp_all; done) | (intros; simp_all; omega)) ?_)))))
              (refine WV_cond rfl (fun h => ?_) (fun h => ?_))
              · have h : L = 1440 := by simpa using h
                (repeat ((first | refine WV_seq_ ?_ | refine WV_block ?_ | refine WV_ops ?_ | refine WV_skip ?_ | refine WV_exit ?_); (try simp only [go_sem, init_env', Nat.reduceEqDiff, Nat.reduceAdd, Nat.reduceMul, reduceIte, Nat.reduceLeDiff, Nat.reduceLT, Nat.reduceBEq, reduceCtorEq, hP, beq_self_eq_true]); (repeat (refine And.intro (by first | omega | (intros; simp_all; done) | (intros; simp_all; omega)) ?_))))
                (refine AG_pure (fun hG => works14) rfl (fun hG => by simp only [go_sem, init_env', Nat.reduceEqDiff, Nat.reduceAdd, Nat.reduceMul, reduceIte, Nat.reduceLeDiff, Nat.reduceLT, Nat.reduceBEq, reduceCtorEq, hG]) rfl rfl rfl ?_; simp only [go_sem, init_env', Nat.reduceEqDiff, Nat.reduceAdd, Nat.reduceMul, reduceIte, Nat.reduceLeDiff, Nat.reduceLT, Nat.reduceBEq, reduceCtorEq, hP, ]; (repeat (refine And.intro (by first | omega | (intros; simp_all; done) | (intros; simp_all; omega)) ?_)); (repeat ((first | refine WV_seq_ ?_ | refine WV_block ?_ | refine WV_ops ?_ | refine WV_skip ?_ | refine WV_exit ?_); (try simp only [go_sem, init_env', Nat.reduceEqDiff, Nat.reduceAdd, Nat.reduceMul, reduceIte, Nat.reduceLeDiff, Nat.reduceLT, Nat.reduceBEq, reduceCtorEq, hP, ]); (repeat (refine And.intro (by first | omega | (intros; simp_all; done) | (intros; simp_all; omega)) ?_)))))
                (refine WV_ret ?_; simp only [thenQ, inQ, RetQ, RetOk, resAll, resA]; simp only [go_sem, init_env', Nat.reduceEqDiff, Nat.reduceAdd, Nat.reduceMul, reduceIte, Nat.reduceLeDiff, Nat.reduceLT, Nat.reduceBEq, reduceCtorEq, tupA, AV.port, AV.portL, exists_eq_left', ]; (first | exact AVle.of rfl | refine AVle.of ?_ | skip))
              · have h : L ≠ 1440 := by simpa using h
                have hw := w64 (n := L + 1) (by omega) (by omega)
                have hw2 := way18 (setS r (L + 1))
                have he2 := herr (L + 1) (by omega)
                rw [if_neg (by omega)] at he2
                rw [way_err (by rw [he2]; decide), he2] at hw2
                (repeat ((first | refine WV_seq_ ?_ | refine WV_block ?_ | refine WV_ops ?_ | refine WV_skip ?_ | refine WV_exit ?_); (try simp only [go_sem, init_env', Nat.reduceEqDiff, Nat.reduceAdd, Nat.reduceMul, reduceIte, Nat.reduceLeDiff, Nat.reduceLT, Nat.reduceBEq, reduceCtorEq, hP, hw]); (repeat (refine And.intro (by first | omega | (intros; simp_all; done) | (intros; simp_all; omega)) ?_))))
                (refine AS_pure (hw2) rfl rfl rfl rfl rfl ?_; simp only [go_sem, init_env', Nat.reduceEqDiff, Nat.reduceAdd, Nat.reduceMul, reduceIte, Nat.reduceLeDiff, Nat.reduceLT, Nat.reduceBEq, reduceCtorEq, hP, Route.av, setS, beq_self_eq_true]; (repeat (refine And.intro (by first | omega | (intros; simp_all; done) | (intros; simp_all; omega)) ?_)); (repeat ((first | refine WV_seq_ ?_ | refine WV_block ?_ | refine WV_ops ?_ | refine WV_skip ?_ | refine WV_exit ?_); (try simp only [go_sem, init_env', Nat.reduceEqDiff, Nat.reduceAdd, Nat.reduceMul, reduceIte, Nat.reduceLeDiff, Nat.reduceLT, Nat.reduceBEq, reduceCtorEq, hP, Route.av, setS, beq_self_eq_true]); (repeat (refine And.intro (by first | omega | (intros; simp_all; done) | (intros; simp_all; omega)) ?_)))))
                (refine AG_pure (fun hG => works14) rfl (fun hG => by simp only [go_sem, init_env', Nat.reduceEqDiff, Nat.reduceAdd, Nat.reduceMul, reduceIte, Nat.reduceLeDiff, Nat.reduceLT, Nat.reduceBEq, reduceCtorEq, hG]) rfl rfl rfl ?_; simp only [go_sem, init_env', Nat.reduceEqDiff, Nat.reduceAdd, Nat.reduceMul, reduceIte, Nat.reduceLeDiff, Nat.reduceLT, Nat.reduceBEq, reduceCtorEq, hP, ]; (repeat (refine And.intro (by first | omega | (intros; simp_all; done) | (intros; simp_all; omega)) ?_)); (repeat ((first | refine WV_seq_ ?_ | refine WV_block ?_ | refine WV_ops ?_ | refine WV_skip ?_ | refine WV_exit ?_); (try simp only [go_sem, init_env', Nat.reduceEqDiff, Nat.reduceAdd, Nat.reduceMul, reduceIte, Nat.reduceLeDiff, Nat.reduceLT, Nat.reduceBEq, reduceCtorEq, hP, ]); (repeat (refine And.intro (by first | omega | (intros; simp_all; done) | (intros; simp_all; omega)) ?_)))))
                (refine WV_ret ?_; simp only [thenQ, inQ, RetQ, RetOk, resAll, resA]; simp only [go_sem, init_env', Nat.reduceEqDiff, Nat.reduceAdd, Nat.reduceMul, reduceIte, Nat.reduceLeDiff, Nat.reduceLT, Nat.reduceBEq, reduceCtorEq, tupA, AV.port, AV.portL, exists_eq_left', ]; (first | exact AVle.of rfl | refine AVle.of ?_ | skip))
      · rw [if_neg hsL] at he1
        rw [way_err (by rw [he1]; decide), he1] at hw1
        have hdl : decide (s ≤ L) = false := by simpa using hsL
        (repeat ((first | refine WV_seq_ ?_ | refine WV_block ?_ | refine WV_ops ?_ | refine WV_skip ?_ | refine WV_exit ?_); (try simp only [go_sem, init_env', Nat.reduceEqDiff, Nat.reduceAdd, Nat.reduceMul, reduceIte, Nat.reduceLeDiff, Nat.reduceLT, Nat.reduceBEq, reduceCtorEq, hP, ]); (repeat (refine And.intro (by first | omega | (intros; simp_all; done) | (intros; simp_all; omega)) ?_))))
        (refine AS_pure (hl) rfl rfl rfl rfl rfl ?_; simp only [go_sem, init_env', Nat.reduceEqDiff, Nat.reduceAdd, Nat.reduceMul, reduceIte, Nat.reduceLeDiff, Nat.reduceLT, Nat.reduceBEq, reduceCtorEq, hP, Route.av]; (repeat (refine And.intro (by first | omega | (intros; simp_all; done) | (intros; simp_all; omega)) ?_)); (repeat ((first | refine WV_seq_ ?_ | refine WV_block ?_ | refine WV_ops ?_ | refine WV_skip ?_ | refine WV_exit ?_); (try simp only [go_sem, init_env', Nat.reduceEqDiff, Nat.reduceAdd, Nat.reduceMul, reduceIte, Nat.reduceLeDiff, Nat.reduceLT, Nat.reduceBEq, reduceCtorEq, hP, Route.av]); (repeat (refine And.intro (by first | omega | (intros; simp_all; done) | (intros; simp_all; omega)) ?_)))))
        (refine AS_pure (known16 0) rfl rfl rfl rfl rfl ?_; simp only [go_sem, init_env', Nat.reduceEqDiff, Nat.reduceAdd, Nat.reduceMul, reduceIte, Nat.reduceLeDiff, Nat.reduceLT, Nat.reduceBEq, reduceCtorEq, hP, knownS]; (repeat (refine And.intro (by first | omega | (intros; simp_all; done) | (intros; simp_all; omega)) ?_)); (repeat ((first | refine WV_seq_ ?_ | refine WV_block ?_ | refine WV_ops ?_ | refine WV_skip ?_ | refine WV_exit ?_); (try simp only [go_sem, init_env', Nat.reduceEqDiff, Nat.reduceAdd, Nat.reduceMul, reduceIte, Nat.reduceLeDiff, Nat.reduceLT, Nat.reduceBEq, reduceCtorEq, hP, knownS]); (repeat (refine And.intro (by first | omega | (intros; simp_all; done) | (intros; simp_all; omega)) ?_)))))
        (refine WV_cond rfl (fun h => ?_) (fun h => ?_))
        · simp [knownS] at h; omega
        · clear h
          (repeat ((first | refine WV_seq_ ?_ | refine WV_block ?_ | refine WV_ops ?_ | refine WV_skip ?_ | refine WV_exit ?_); (try simp only [go_sem, init_env', Nat.reduceEqDiff, Nat.reduceAdd, Nat.reduceMul, reduceIte, Nat.reduceLeDiff, Nat.reduceLT, Nat.reduceBEq, reduceCtorEq, hP, ]); (repeat (refine And.intro (by first | omega | (intros; simp_all; done) | (intros; simp_all; omega)) ?_))))
          (refine AS_pure (copy17 r hnear) rfl rfl rfl rfl rfl ?_; simp only [go_sem, init_env', Nat.reduceEqDiff, Nat.reduceAdd, Nat.reduceMul, reduceIte, Nat.reduceLeDiff, Nat.reduceLT, Nat.reduceBEq, reduceCtorEq, hP, Route.av]; (repeat (refine And.intro (by first | omega | (intros; simp_all; done) | (intros; simp_all; omega)) ?_)); (repeat ((first | refine WV_seq_ ?_ | refine WV_block ?_ | refine WV_ops ?_ | refine WV_skip ?_ | refine WV_exit ?_); (try simp only [go_sem, init_env', Nat.reduceEqDiff, Nat.reduceAdd, Nat.reduceMul, reduceIte, Nat.reduceLeDiff, Nat.reduceLT, Nat.reduceBEq, reduceCtorEq, hP, Route.av]); (repeat (refine And.intro (by first | omega | (intros; simp_all; done) | (intros; simp_all; omega)) ?_)))))
          (refine AS_pure (hw1) rfl rfl rfl rfl rfl ?_; simp only [go_sem, init_env', Nat.reduceEqDiff, Nat.reduceAdd, Nat.reduceMul, reduceIte, Nat.reduceLeDiff, Nat.reduceLT, Nat.reduceBEq, reduceCtorEq, hP, Route.av, setS]; (repeat (refine And.intro (by first | omega | (intros; simp_all; done) | (intros; simp_all; omega)) ?_)); (repeat ((first | refine WV_seq_ ?_ | refine WV_block ?_ | refine WV_ops ?_ | refine WV_skip ?_ | refine WV_exit ?_); (try simp only [go_sem, init_env', Nat.reduceEqDiff, Nat.reduceAdd, Nat.reduceMul, reduceIte, Nat.reduceLeDiff, Nat.reduceLT, Nat.reduceBEq, reduceCtorEq, hP, Route.av, setS]); (repeat (refine And.intro (by first | omega | (intros; simp_all; done) | (intros; simp_all; omega)) ?_)))))
          (refine AS_pure (known16 3) rfl rfl rfl rfl rfl ?_; simp only [go_sem, init_env', Nat.reduceEqDiff, Nat.reduceAdd, Nat.reduceMul, reduceIte, Nat.reduceLeDiff, Nat.reduceLT, Nat.reduceBEq, reduceCtorEq, hP, knownS, hdl]; (repeat (refine And.intro (by first | omega | (intros; simp_all; done) | (intros; simp_all; omega)) ?_)); (repeat ((first | refine WV_seq_ ?_ | refine WV_block ?_ | refine WV_ops ?_ | refine WV_skip ?_ | refine WV_exit ?_); (try simp only [go_sem, init_env', Nat.reduceEqDiff, Nat.reduceAdd, Nat.reduceMul, reduceIte, Nat.reduceLeDiff, Nat.reduceLT, Nat.reduceBEq, reduceCtorEq, hP, knownS, hdl]); (repeat (refine And.intro (by first | omega | (intros; simp_all; done) | (intros; simp_all; omega)) ?_)))))
          (refine WV_cond rfl (fun h => ?_) (fun h => ?_))
          · simp [knownS] at h
          · clear h
            (repeat ((first | refine WV_seq_ ?_ | refine WV_block ?_ | refine WV_ops ?_ | refine WV_skip ?_ | refine WV_exit ?_); (try simp only [go_sem, init_env', Nat.reduceEqDiff, Nat.reduceAdd, Nat.reduceMul, reduceIte, Nat.reduceLeDiff, Nat.reduceLT, Nat.reduceBEq, reduceCtorEq, hP, ]); (repeat (refine And.intro (by first | omega | (intros; simp_all; done) | (intros; simp_all; omega)) ?_))))
            (refine WV_cond rfl (fun h => ?_) (fun h => ?_))
            · simp at h
            · clear h
              (repeat ((first | refine WV_seq_ ?_ | refine WV_block ?_ | refine WV_ops ?_ | refine WV_skip ?_ | refine WV_exit ?_); (try simp only [go_sem, init_env', Nat.reduceEqDiff, Nat.reduceAdd, Nat.reduceMul, reduceIte, Nat.reduceLeDiff, Nat.reduceLT, Nat.reduceBEq, reduceCtorEq, hP, ]); (repeat (refine And.intro (by first | omega | (intros; simp_all; done) | (intros; simp_all; omega)) ?_))))
              (refine AS_pure (hwL) rfl rfl rfl rfl rfl ?_; simp only [go_sem, init_env', Nat.reduceEqDiff, Nat.reduceAdd, Nat.reduceMul, reduceIte, Nat.reduceLeDiff, Nat.reduceLT, Nat.reduceBEq, reduceCtorEq, hP, Route.av, setS]; (repeat (refine And.intro (by first | omega | (intros; simp_all; done) | (intros; simp_all; omega)) ?_)); (repeat ((first | refine WV_seq_ ?_ | refine WV_block ?_ | refine WV_ops ?_ | refine WV_skip ?_ | refine WV_exit ?_); (try simp only [go_sem, init_env', Nat.reduceEqDiff, Nat.reduceAdd, Nat.reduceMul, reduceIte, Nat.reduceLeDiff, Nat.reduceLT, Nat.reduceBEq, reduceCtorEq, hP, Route.av, setS]); (repeat (refine And.intro (by first | omega | (intros; simp_all; done) | (intros; simp_all; omega)) ?_)))))
              (refine WV_cond rfl (fun h => ?_) (fun h => ?_))
              · have h : L = 1440 := by simpa using h
                (repeat ((first | refine WV_seq_ ?_ | refine WV_block ?_ | refine WV_ops ?_ | refine WV_skip ?_ | refine WV_exit ?_); (try simp only [go_sem, init_env', Nat.reduceEqDiff, Nat.reduceAdd, Nat.reduceMul, reduceIte, Nat.reduceLeDiff, Nat.reduceLT, Nat.reduceBEq, reduceCtorEq, hP, beq_self_eq_true]); (repeat (refine And.intro (by first | omega | (intros; simp_all; done) | (intros; simp_all; omega)) ?_))))
                (refine AG_pure (fun hG => works14) rfl (fun hG => by simp only [go_sem, init_env', Nat.reduceEqDiff, Nat.reduceAdd, Nat.reduceMul, reduceIte, Nat.reduceLeDiff, Nat.reduceLT, Nat.reduceBEq, reduceCtorEq, hG]) rfl rfl rfl ?_; simp only [go_sem, init_env', Nat.reduceEqDiff, Nat.reduceAdd, Nat.reduceMul, reduceIte, Nat.reduceLeDiff, Nat.reduceLT, Nat.reduceBEq, reduceCtorEq, hP, ]; (repeat (refine And.intro (by first | omega | (intros; simp_all; done) | (intros; simp_all; omega)) ?_)); (repeat ((first | refine WV_seq_ ?_ | refine WV_block ?_ | refine WV_ops ?_ | refine WV_skip ?_ | refine WV_exit ?_); (try simp only [go_sem, init_env', Nat.reduceEqDiff, Nat.reduceAdd, Nat.reduceMul, reduceIte, Nat.reduceLeDiff, Nat.reduceLT, Nat.reduceBEq, reduceCtorEq, hP, ]); (repeat (refine And.intro (by first | omega | (intros; simp_all; done) | (intros; simp_all; omega)) ?_)))))
                (refine WV_ret ?_; simp only [thenQ, inQ, RetQ, RetOk, resAll, resA]; simp only [go_sem, init_env', Nat.reduceEqDiff, Nat.reduceAdd, Nat.reduceMul, reduceIte, Nat.reduceLeDiff, Nat.reduceLT, Nat.reduceBEq, reduceCtorEq, tupA, AV.port, AV.portL, exists_eq_left', ]; (first | exact AVle.of rfl | refine AVle.of ?_ | skip))
              · have h : L ≠ 1440 := by simpa using h
                have hw := w64 (n := L + 1) (by omega) (by omega)
                have hw2 := way18 (setS r (L + 1))
                have he2 := herr (L + 1) (by omega)
                rw [if_neg (by omega)] at he2
                rw [way_err (by rw [he2]; decide), he2] at hw2
                (repeat ((first | refine WV_seq_ ?_ | refine WV_block ?_ | refine WV_ops ?_ | refine WV_skip ?_ | refine WV_exit ?_); (try simp only [go_sem, init_env', Nat.reduceEqDiff, Nat.reduceAdd, Nat.reduceMul, reduceIte, Nat.reduceLeDiff, Nat.reduceLT, Nat.reduceBEq, reduceCtorEq, hP, hw]); (repeat (refine And.intro (by first | omega | (intros; simp_all; done) | (intros; simp_all; omega)) ?_))))
                (refine AS_pure (hw2) rfl rfl rfl rfl rfl ?_; simp only [go_sem, init_env', Nat.reduceEqDiff, Nat.reduceAdd, Nat.reduceMul, reduceIte, Nat.reduceLeDiff, Nat.reduceLT, Nat.reduceBEq, reduceCtorEq, hP, Route.av, setS, beq_self_eq_true]; (repeat (refine And.intro (by first | omega | (intros; simp_all; done) | (intros; simp_all; omega)) ?_)); (repeat ((first | refine WV_seq_ ?_ | refine WV_block ?_ | refine WV_ops ?_ | refine WV_skip ?_ | refine WV_exit ?_); (try simp only [go_sem, init_env', Nat.reduceEqDiff, Nat.reduceAdd, Nat.reduceMul, reduceIte, Nat.reduceLeDiff, Nat.reduceLT, Nat.reduceBEq, reduceCtorEq, hP, Route.av, setS, beq_self_eq_true]); (repeat (refine And.intro (by first | omega | (intros; simp_all; done) | (intros; simp_all; omega)) ?_)))))
                (refine AG_pure (fun hG => works14) rfl (fun hG => by simp only [go_sem, init_env', Nat.reduceEqDiff, Nat.reduceAdd, Nat.reduceMul, reduceIte, Nat.reduceLeDiff, Nat.reduceLT, Nat.reduceBEq, reduceCtorEq, hG]) rfl rfl rfl ?_; simp only [go_sem, init_env', Nat.reduceEqDiff, Nat.reduceAdd, Nat.reduceMul, reduceIte, Nat.reduceLeDiff, Nat.reduceLT, Nat.reduceBEq, reduceCtorEq, hP, ]; (repeat (refine And.intro (by first | omega | (intros; simp_all; done) | (intros; simp_all; omega)) ?_)); (repeat ((first | refine WV_seq_ ?_ | refine WV_block ?_ | refine WV_ops ?_ | refine WV_skip ?_ | refine WV_exit ?_); (try simp only [go_sem, init_env', Nat.reduceEqDiff, Nat.reduceAdd, Nat.reduceMul, reduceIte, Nat.reduceLeDiff, Nat.reduceLT, Nat.reduceBEq, reduceCtorEq, hP, ]); (repeat (refine And.intro (by first | omega | (intros; simp_all; done) | (intros; simp_all; omega)) ?_)))))
                (refine WV_ret ?_; simp only [thenQ, inQ, RetQ, RetOk, resAll, resA]; simp only [go_sem, init_env', Nat.reduceEqDiff, Nat.reduceAdd, Nat.reduceMul, reduceIte, Nat.reduceLeDiff, Nat.reduceLT, Nat.reduceBEq, reduceCtorEq, tupA, AV.port, AV.portL, exists_eq_left', ]; (first | exact AVle.of rfl | refine AVle.of ?_ | skip))
end Go.Proofs.Ytbejgfpaokcnpaa
