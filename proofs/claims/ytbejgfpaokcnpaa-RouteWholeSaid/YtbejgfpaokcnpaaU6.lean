/-
  Contracts of functions of package route, of its reference and of the law RouteTimes; conditions: as each theorem states.
-/
import Derived.Test.YtbejgfpaokcnpaaU5
import Derived.Test.YtbejgfpaokcnpaaU4
set_option linter.unusedVariables false
set_option linter.unusedSimpArgs false
/-
  The program's tours are the reference's: plain.
-/
namespace Go.Proofs.Ytbejgfpaokcnpaa
open Go Go.V

theorem toursR_begin {n : Nat} : ∀ (f : Nat) (t p : List Nat), p ∈ toursR n f t → ∃ l, p = t ++ l
  | 0, t, p, h => by simp only [toursR, List.mem_singleton] at h; exact ⟨[], by simp [h]⟩
  | f + 1, t, p, h => by
    simp only [toursR, List.mem_cons, List.mem_flatMap, List.mem_range] at h
    rcases h with rfl | ⟨k, _, h⟩
    · exact ⟨[], by simp⟩
    · split at h
      · cases h
      · obtain ⟨l, rfl⟩ := toursR_begin f _ p h
        exact ⟨k :: l, by simp⟩
/-- Behind a stop that is missed no tour is good. -/
theorem toursR_bad {r : Route} (f : Nat) (t : List Nat) (h : (ride r (leave r) t).2.1 ≠ none) : (toursR r.n f t).filter (ridden r) = [] := by
  rw [List.filter_eq_nil_iff]
  intro p hp
  obtain ⟨l, rfl⟩ := toursR_begin f t p hp
  unfold ridden
  rw [ride_stop r t _ l h]
  cases hx : (ride r (leave r) t).2.1 with
  | none => exact absurd hx h
  | some k => simp
theorem ext_eq {r : Route} : ∀ (f : Nat) (t : List Nat), (ride r (leave r) t).2.1 = none → (ext r f t (ride r (leave r) t).2.2).map (·.1) = (toursR r.n f t).filter (ridden r)
  | 0, t, h => by simp [ext, toursR, ridden, h]
  | f + 1, t, h => by
    have hr : ridden r t = true := by simp [ridden, h]
    simp only [ext, toursR, List.map_cons, List.filter_cons, hr, if_true, List.map_flatMap, List.filter_flatMap]
    congr 1
    congr 1
    funext k
    by_cases hk : k ∈ t
    · simp [hk]
    · rw [if_neg hk, if_neg hk]
      have hs := ride_snoc r t (leave r) k h
      by_cases hv : (visit r (ride r (leave r) t).2.2 k).2.2 = true
      · rw [if_pos hv] at hs ⊢
        have := ext_eq f (t ++ [k]) (by rw [hs])
        rw [hs] at this
        exact this
      · rw [if_neg hv] at hs ⊢
        rw [toursR_bad f (t ++ [k]) (by rw [hs]; simp)]
        rfl
theorem goods_eq (r : Route) : (goods r).map (·.1) = goodR r false := by
  have := ext_eq (r := r) (r.n + 1) [] rfl
  have e : goodP r false = ridden r := by funext t; simp [goodP]
  unfold goodR allR
  rw [e]
  exact this
theorem wholes_eq (r : Route) : (wholes r).map (·.1) = goodR r true := by
  have h1 : (wholes r).map (·.1) = ((goods r).map (·.1)).filter fun t => !decide (t.length < r.n) := by
    unfold wholes
    rw [List.filter_map]
    rfl
  rw [h1, goods_eq]
  unfold goodR
  rw [List.filter_filter]
  refine List.filter_congr fun t ht => ?_
  have := allR_len ht
  simp only [goodP, Bool.not_false, Bool.true_or, Bool.true_and, Bool.not_true, Bool.false_or]
  congr 1
  rw [Bool.eq_iff_iff]
  simp
  omega
/-- The van behind the last stop is that of the ride. -/
theorem ext_ride {r : Route} : ∀ (f : Nat) (t : List Nat), (ride r (leave r) t).2.1 = none → ∀ p ∈ ext r f t (ride r (leave r) t).2.2, (ride r (leave r) p.1).2.1 = none ∧ p.2 = (ride r (leave r) p.1).2.2
  | 0, t, h, p, hp => by simp only [ext, List.mem_singleton] at hp; subst hp; exact ⟨h, rfl⟩
  | f + 1, t, h, p, hp => by
    simp only [ext, List.mem_cons, List.mem_flatMap, List.mem_range] at hp
    rcases hp with rfl | ⟨k, _, hp⟩
    · exact ⟨h, rfl⟩
    · split at hp
      · cases hp
      · split at hp
        · rename_i hv
          have hs := ride_snoc r t (leave r) k h
          rw [if_pos hv] at hs
          have := ext_ride f (t ++ [k]) (by rw [hs]) p
          rw [hs] at this
          exact this hp
        · cases hp
theorem goods_ride {r : Route} : ∀ p ∈ goods r, (ride r (leave r) p.1).2.1 = none ∧ p.2 = (ride r (leave r) p.1).2.2 := ext_ride (r := r) (r.n + 1) [] rfl
end Go.Proofs.Ytbejgfpaokcnpaa

/-
  Least and greatest: the program's answers are the reference's: plain.
-/
namespace Go.Proofs.Ytbejgfpaokcnpaa
open Go Go.V

theorem less_min : ∀ (l : List Int) (b : Int), 0 ≤ b → (∀ n ∈ l, 0 ≤ n) → l.foldl lessS b = l.foldl min b
  | [], b, _, _ => rfl
  | n :: l, b, hb, h => by
    have hn := h n (by simp)
    have e : lessS b n = min b n := by unfold lessS; split <;> omega
    simp only [List.foldl_cons, e]
    exact less_min l _ (by omega) fun m hm => h m (by simp [hm])
theorem least_min (f : List Nat → Int) (L : List (List Nat)) (hL : L ≠ []) (h : ∀ t ∈ L, 0 ≤ f t) : leastS (L.map f) = minS f L L.length := by
  cases L with
  | nil => exact absurd rfl hL
  | cons t L =>
    have ht := h t (by simp)
    unfold leastS minS
    rw [List.take_length]
    simp only [List.map_cons, List.foldl_cons, List.getD_cons_zero]
    have e : lessS (-1) (f t) = f t := by unfold lessS; rw [if_pos (by omega)]
    rw [e, less_min _ _ ht (by
      intro n hn
      obtain ⟨u, hu, rfl⟩ := List.mem_map.1 hn
      exact h u (by simp [hu])), List.foldl_map, Int.min_self]
theorem shortB_one (r : Route) (l : List (List Nat × Van)) : (shortB r l).1 = leastS (l.map fun p => (atHome r p).long) := by
  have h : ∀ (l : List (List Nat × Van)) (s : Int × Option (List Nat)), (l.foldl (fun s p => shortT s (atHome r p).long p.1) s).1 = (l.map fun p => (atHome r p).long).foldl lessS s.1 := by
    intro l
    induction l with
    | nil => intro s; rfl
    | cons p l ih =>
      intro s
      simp only [List.foldl_cons, List.map_cons]
      rw [ih]
      congr 1
      unfold shortT lessS
      split <;> rfl
  exact h l _
theorem someE_eq (r : Route) : someE r = errR r := by
  unfold someE errR
  rw [← wholes_eq]
  cases r.ok
  · rfl
  · by_cases h : wholes r = [] <;> simp [h]
theorem ride_long (r : Route) : ∀ (t : List Nat) (v : Van), (ride r v t).2.1 = none → t.foldl (fun s k => (k, s.2 + r.d s.1 k)) (v.at_, v.long) = ((ride r v t).2.2.at_, (ride r v t).2.2.long)
  | [], v, _ => rfl
  | k :: t, v, h => by
    simp only [ride] at h ⊢
    by_cases hv : (visit r v k).2.2 = true
    · simp only [hv, if_true] at h ⊢
      have ih := ride_long r t (visit r v k).1 h
      rw [List.foldl_cons, ← ih]
      congr 1
      unfold visit at hv ⊢
      split at hv
      · cases hv
      · rename_i hc
        rw [if_neg hc]
        rfl
    · simp [hv] at h
theorem atHome_eq {r : Route} (hr : RouteOk r) {p : List Nat × Van} (hp : p ∈ goods r) : (atHome r p).now = (goS r p.1).2.2 ∧ (atHome r p).long = longS r p.1 := by
  obtain ⟨h1, h2⟩ := goods_ride p hp
  have hl := ride_long r p.1 (leave r) h1
  have hh := home_back hr p.1 (w := (ride r (leave r) p.1).2.2) (ts := (ride r (leave r) p.1).1) (by rw [← h1])
  unfold atHome
  rw [h2]
  refine ⟨?_, ?_⟩
  · rw [hh.1]
    unfold goS
    revert h1
    generalize ride r (leave r) p.1 = x
    obtain ⟨x1, x2, x3⟩ := x
    intro h1
    simp only at h1
    subst h1
    rfl
  · rw [hh.2]
    unfold longS longP
    have e : ((leave r).at_, (leave r).long) = (r.n, (0 : Int)) := rfl
    rw [e] at hl
    rw [hl]
theorem atHome_pos {r : Route} (hr : RouteOk r) {p : List Nat × Van} (hp : p ∈ goods r) : 0 ≤ (atHome r p).now ∧ 0 ≤ (atHome r p).long := by
  have hv := (goods_ok hr p hp).2.2
  have h1 := hv.now
  have h2 := hv.long
  have hc := hr.cell p.2.at_ r.n hv.at_ (Nat.lt_succ_self _)
  unfold atHome home
  split
  · exact ⟨h1.1, h2.1⟩
  · simp only [drv]; omega
theorem wholes_goods {r : Route} {p : List Nat × Van} (hp : p ∈ wholes r) : p ∈ goods r := (List.mem_filter.1 hp).1

theorem soon_eq (r : Route) : soonS r = rsoonS r := by
  unfold soonS rsoonS
  rw [someE_eq]
  by_cases h : errR r = 0
  · rw [if_pos h, if_pos h]
    obtain ⟨hr, _, hlen⟩ := errR_eq h
    have e : ((wholes r).map fun p => (atHome r p).now) = (goodR r true).map fun t => (goS r t).2.2 := by
      rw [← wholes_eq, List.map_map]
      exact List.map_congr_left fun p hp => (atHome_eq hr (wholes_goods hp)).1
    rw [e, least_min _ _ (List.length_pos_iff.1 hlen)]
    intro t ht
    rw [← wholes_eq] at ht
    obtain ⟨p, hp, rfl⟩ := List.mem_map.1 ht
    rw [← (atHome_eq hr (wholes_goods hp)).1]
    exact (atHome_pos hr (wholes_goods hp)).1
  · rw [if_neg h, if_neg h]
theorem shortest_eq (r : Route) : shortestS r = rshortS r := by
  unfold shortestS rshortS
  rw [someE_eq]
  by_cases h : errR r = 0
  · rw [if_pos h, if_pos h]
    obtain ⟨hr, _, hlen⟩ := errR_eq h
    have e : ((wholes r).map fun p => (atHome r p).long) = (goodR r true).map (longS r) := by
      rw [← wholes_eq, List.map_map]
      exact List.map_congr_left fun p hp => (atHome_eq hr (wholes_goods hp)).2
    rw [shortB_one, e, least_min _ _ (List.length_pos_iff.1 hlen)]
    intro t ht
    rw [← wholes_eq] at ht
    obtain ⟨p, hp, rfl⟩ := List.mem_map.1 ht
    rw [← (atHome_eq hr (wholes_goods hp)).2]
    exact (atHome_pos hr (wholes_goods hp)).2
  · rw [if_neg h, if_neg h]
theorem most_eq (r : Route) : mostS r = rmostS r := by
  unfold mostS rmostS
  cases r.ok
  · rfl
  · simp only [if_true, mostB, rmostB]
    rw [← goods_eq, List.foldl_map, List.foldl_map]
end Go.Proofs.Ytbejgfpaokcnpaa

/-
  What Way returns, and Shut: plain.
-/
namespace Go.Proofs.Ytbejgfpaokcnpaa
open Go Go.V

theorem short_way {r : Route} (hr : RouteOk r) : ∀ (l : List (List Nat × Van)) (s : Int × Option (List Nat)), (∀ p ∈ l, p ∈ wholes r) → ((∃ t, s.2 = some t ∧ t ∈ goodR r true ∧ longS r t = s.1) ∨ (s.1 < 0 ∧ l ≠ [])) →
    ∃ t, (l.foldl (fun s p => shortT s (atHome r p).long p.1) s).2 = some t ∧ t ∈ goodR r true ∧ longS r t = (l.foldl (fun s p => shortT s (atHome r p).long p.1) s).1
  | [], s, _, h => by
    rcases h with h | h
    · exact h
    · exact absurd rfl h.2
  | p :: l, s, hl, h => by
    simp only [List.foldl_cons]
    refine short_way hr l _ (fun q hq => hl q (by simp [hq])) (.inl ?_)
    have hp := hl p (by simp)
    have hg : p.1 ∈ goodR r true := by rw [← wholes_eq]; exact List.mem_map_of_mem hp
    have he := (atHome_eq hr (wholes_goods hp)).2
    unfold shortT
    split
    · exact ⟨p.1, rfl, hg, he.symm⟩
    · rename_i hn
      rcases h with h | h
      · exact h
      · exact absurd (.inl h.1) hn
theorem way_ok {r : Route} (h : errR r = 0) : ∃ t, wayS r = (nats t, 0) ∧ t ∈ goodR r true ∧ longS r t = (rshortS r).1 := by
  obtain ⟨hr, _, hlen⟩ := errR_eq h
  have hw : wholes r ≠ [] := by
    intro e
    rw [← wholes_eq, e] at hlen
    simp at hlen
  obtain ⟨t, h1, h2, h3⟩ := short_way hr (wholes r) (-1, none) (fun p hp => hp) (.inr ⟨by decide, hw⟩)
  refine ⟨t, ?_, h2, ?_⟩
  · unfold wayS
    rw [if_pos (by rw [someE_eq]; exact h)]
    show (wayC (shortB r (wholes r)).2, (0 : Int)) = _
    rw [show (shortB r (wholes r)).2 = some t from h1]
    rfl
  · rw [← shortest_eq]
    unfold shortestS
    rw [if_pos (by rw [someE_eq]; exact h)]
    exact h3
theorem way_err {r : Route} (h : errR r ≠ 0) : wayS r = (ints [], errR r) := by
  unfold wayS
  rw [someE_eq, if_neg h]
/-- A whole good tour, as the law asks it. -/
theorem goodR_true {r : Route} {t : List Nat} (h : t ∈ goodR r true) : t.length = r.n ∧ isTour r (t.map fun (k : Nat) => (k : Int)) = true ∧ (goS r t).2.1 < 0 := by
  obtain ⟨h1, h2, h3, h4⟩ := goodR_mem h
  simp only [goodP, Bool.not_true, Bool.false_or, Bool.and_eq_true, beq_iff_eq] at h4
  refine ⟨h4.1, ?_, ?_⟩
  · simp only [isTour, Bool.and_eq_true, List.all_eq_true, decide_eq_true_eq]
    refine ⟨fun n hn => ?_, ?_⟩
    · obtain ⟨k, hk, rfl⟩ := List.mem_map.1 hn
      have := h2 k hk
      omega
    · exact List.pairwise_map.2 (h1.imp fun h e => h (by omega))
  · have := goS_neg r t
    rw [h4.2] at this
    simpa using this
end Go.Proofs.Ytbejgfpaokcnpaa

/-
  The latest start: a tour is good from a start just if this is not above what leavesS says; and Latest is the reference's: plain.
-/
namespace Go.Proofs.Ytbejgfpaokcnpaa
open Go Go.V

/-- Within reach: the first visit begins in time. -/
def inReach (r : Route) (a : Nat) (m : Int) : List Nat → Prop
  | [] => True
  | k :: ks => ∃ b, backL r (k :: ks) = some b ∧ m + r.d a k ≤ b
theorem ride_reach {r : Route} (hr : RouteOk r) : ∀ (t : List Nat) (v : Van), (∀ k ∈ t, k < r.n) → ((ride r v t).2.1 = none ↔ inReach r v.at_ v.now t)
  | [], v, _ => by simp [ride, inReach]
  | [k], v, _ => by
    simp only [ride, inReach, backL, Option.some.injEq, exists_eq_left']
    unfold visit
    by_cases h : (r.s k).cl < (drv r v k).now
    · simp only [h, if_true]
      simp [drv] at h ⊢; omega
    · simp only [h, if_false]
      simp [drv] at h ⊢; omega
  | k :: k' :: ks, v, hk => by
    have ih := ride_reach hr (k' :: ks) (visit r v k).1 (fun j hj => hk j (by simp [hj]))
    have hs := hr.stop k (hk k (by simp))
    simp only [inReach] at ih ⊢
    rw [ride]
    by_cases h : (r.s k).cl < (drv r v k).now
    · have e : (visit r v k).2.2 = false := by unfold visit; rw [if_pos h]
      rw [e]
      simp only [Bool.false_eq_true, if_false, reduceCtorEq, false_iff]
      rintro ⟨b, hb, hle⟩
      simp only [backL] at hb
      split at hb
      · cases hb
      · split at hb
        · cases hb
        · simp only [Option.some.injEq] at hb
          simp only [drv] at h
          omega
    · have e : (visit r v k).2.2 = true := by unfold visit; rw [if_neg h]
      have e1 : (visit r v k).1.at_ = k := by unfold visit; rw [if_neg h]; rfl
      have e2 : (visit r v k).1.now = max (v.now + r.d v.at_ k) (r.s k).op + (r.s k).st := by unfold visit; rw [if_neg h]; rfl
      rw [e1, e2] at ih
      rw [if_pos e]
      refine Iff.trans ?_ (ih.trans ?_)
      · rfl
      simp only [drv] at h
      cases hb : backL r (k' :: ks) with
      | none => simp [backL, hb]
      | some b =>
        simp only [Option.some.injEq, exists_eq_left', backL, hb]
        split
        · simp; omega
        · simp only [Option.some.injEq, exists_eq_left']
          omega

def setS (r : Route) (s : Int) : Route := { r with start := s }
theorem setS_ok {r : Route} (hr : RouteOk r) {s : Int} (h : 0 ≤ s ∧ s ≤ 1440) : RouteOk (setS r s) := ⟨hr.n7, hr.dl, h, hr.stop, hr.row, hr.cell, hr.diag⟩
theorem setS_okb {r : Route} (h : r.ok = true) {s : Int} (hs : 0 ≤ s ∧ s ≤ 1440) : (setS r s).ok = true := by
  unfold Route.ok at h ⊢
  simp only [Bool.and_eq_true] at h ⊢
  have hw : within s 0 1440 = true := by simp only [within, Bool.and_eq_true, decide_eq_true_eq]; omega
  exact ⟨⟨⟨h.1.1.1, hw⟩, h.1.2⟩, h.2⟩
theorem backL_setS (r : Route) (s : Int) : ∀ t, backL (setS r s) t = backL r t
  | [] => rfl
  | [k] => rfl
  | k :: k' :: ks => by simp only [backL]; rw [backL_setS r s (k' :: ks)]; rfl
theorem ridden_setS {r : Route} (hr : RouteOk r) {s : Int} (hs : 0 ≤ s ∧ s ≤ 1440) {t : List Nat} (ht : ∀ k ∈ t, k < r.n) : ridden (setS r s) t = true ↔ s ≤ leavesS r t := by
  have h := ride_reach (setS_ok hr hs) t (leave (setS r s)) ht
  have e : ridden (setS r s) t = true ↔ (ride (setS r s) (leave (setS r s)) t).2.1 = none := by
    unfold ridden
    cases (ride (setS r s) (leave (setS r s)) t).2.1 <;> simp
  rw [e, h]
  unfold leavesS
  cases t with
  | nil => simp [inReach, backL]; omega
  | cons k ks =>
    simp only [inReach]
    rw [backL_setS]
    cases hb : backL r (k :: ks) with
    | none => simp; omega
    | some b =>
      simp only [Option.some.injEq, exists_eq_left']
      have : (leave (setS r s)).now = s := rfl
      have e2 : (setS r s).d (leave (setS r s)).at_ k = r.d r.n k := rfl
      rw [this, e2]
      omega
theorem leavesS_le {r : Route} (hr : RouteOk r) {t : List Nat} (ht : ∀ k ∈ t, k < r.n) : leavesS r t ≤ 1440 := by
  unfold leavesS
  cases hb : backL r t with
  | none => simp
  | some b =>
    have := backL_some hr t b ht hb
    cases t with
    | nil => simp; omega
    | cons k ks => simp only; omega
theorem max_fold : ∀ (l : List Int) (b n : Int), n ≤ l.foldl max b ↔ n ≤ b ∨ ∃ x ∈ l, n ≤ x
  | [], b, n => by simp
  | x :: l, b, n => by
    rw [List.foldl_cons, max_fold l]
    constructor
    · rintro (h | ⟨y, hy, h⟩)
      · by_cases hb : n ≤ b
        · exact .inl hb
        · exact .inr ⟨x, by simp, by omega⟩
      · exact .inr ⟨y, by simp [hy], h⟩
    · rintro (h | ⟨y, hy, h⟩)
      · exact .inl (by omega)
      · rcases List.mem_cons.1 hy with rfl | hy
        · exact .inl (by omega)
        · exact .inr ⟨y, hy, h⟩
/-- There is a whole tour that is good from this start. -/
def hasW (r : Route) (s : Int) : Prop := ∃ t ∈ allR r, t.length = r.n ∧ s ≤ leavesS r t
theorem goodR_setS {r : Route} (hr : RouteOk r) {s : Int} (hs : 0 ≤ s ∧ s ≤ 1440) {t : List Nat} : t ∈ goodR (setS r s) true ↔ t ∈ allR r ∧ t.length = r.n ∧ s ≤ leavesS r t := by
  unfold goodR
  rw [List.mem_filter]
  have e : allR (setS r s) = allR r := rfl
  have en : (setS r s).n = r.n := rfl
  rw [e]
  refine and_congr_right fun ht => ?_
  have := ridden_setS hr hs (allR_ok _ ht).2
  simp only [goodP, Bool.not_true, Bool.false_or, Bool.and_eq_true, beq_iff_eq, en]
  rw [this]
theorem hasW_good {r : Route} (hr : RouteOk r) {s : Int} (hs : 0 ≤ s ∧ s ≤ 1440) : goodR (setS r s) true ≠ [] ↔ hasW r s := by
  unfold hasW
  rw [Ne, List.eq_nil_iff_forall_not_mem]
  simp only [goodR_setS hr hs]
  constructor
  · intro h
    refine Classical.byContradiction fun hn => h fun t ht => hn ⟨t, ht⟩
  · rintro ⟨t, h⟩ hn
    exact hn t h
theorem latestB_has {r : Route} (hr : RouteOk r) {s : Int} (hs : 0 ≤ s) : s ≤ latestB r (wholes (zero r)) ↔ hasW r s := by
  have e : ((wholes (zero r)).map fun p => leavesS r p.1) = (goodR (zero r) true).map (leavesS r) := by
    rw [← wholes_eq, List.map_map]; rfl
  unfold latestB
  rw [e, max_fold]
  have ez : zero r = setS r 0 := rfl
  rw [ez]
  constructor
  · rintro (h | ⟨x, hx, h4⟩)
    · omega
    · obtain ⟨t, ht, rfl⟩ := List.mem_map.1 hx
      obtain ⟨h1, h2, _⟩ := (goodR_setS hr (s := 0) (by omega)).1 ht
      exact ⟨t, h1, h2, h4⟩
  · rintro ⟨t, h1, h2, h4⟩
    exact .inr ⟨_, List.mem_map.2 ⟨t, (goodR_setS hr (s := 0) (by omega)).2 ⟨h1, h2, by omega⟩, rfl⟩, h4⟩
theorem rlatB_has {r : Route} {s : Int} (hs : 0 ≤ s) : s ≤ rlatB r (allR r) ↔ hasW r s := by
  have h : ∀ (l : List (List Nat)) (b : Int), s ≤ l.foldl (lateF r) b ↔ s ≤ b ∨ ∃ t ∈ l, t.length = r.n ∧ s ≤ leavesS r t := by
    intro l
    induction l with
    | nil => intro b; simp
    | cons t l ih =>
      intro b
      rw [List.foldl_cons, ih]
      have e : s ≤ lateF r b t ↔ s ≤ b ∨ (t.length = r.n ∧ s ≤ leavesS r t) := by
        unfold lateF
        split
        · rename_i hl
          simp only [hl, true_and]
          omega
        · rename_i hl
          simp only [hl, false_and, or_false]
      rw [e]
      constructor
      · rintro ((h | h) | ⟨u, hu, h⟩)
        · exact .inl h
        · exact .inr ⟨t, by simp, h⟩
        · exact .inr ⟨u, by simp [hu], h⟩
      · rintro (h | ⟨u, hu, h⟩)
        · exact .inl (.inl h)
        · rcases List.mem_cons.1 hu with rfl | hu
          · exact .inl (.inr h)
          · exact .inr ⟨u, hu, h⟩
  unfold rlatB hasW
  rw [h]
  constructor
  · rintro (h | h)
    · omega
    · exact h
  · exact .inr
theorem fold_low (f : Int → List Nat → Int) (hf : ∀ b t, b ≤ f b t) : ∀ (l : List (List Nat)) (b : Int), b ≤ l.foldl f b
  | [], b => Int.le_refl _
  | t :: l, b => Int.le_trans (hf b t) (fold_low f hf l _)
theorem late_eq {r : Route} (hr : RouteOk r) : latestB r (wholes (zero r)) = rlatB r (allR r) := by
  have h1 : -1 ≤ latestB r (wholes (zero r)) := (max_fold _ _ _).2 (.inl (Int.le_refl _))
  have h2 : -1 ≤ rlatB r (allR r) := fold_low (lateF r) (fun b t => by unfold lateF; split <;> omega) _ _
  refine Int.le_antisymm ?_ ?_
  · by_cases h : latestB r (wholes (zero r)) = -1
    · omega
    · exact (rlatB_has (by omega)).2 ((latestB_has hr (by omega)).1 (Int.le_refl _))
  · by_cases h : rlatB r (allR r) = -1
    · omega
    · exact (latestB_has hr (by omega)).2 ((rlatB_has (by omega)).1 (Int.le_refl _))
theorem latest_eq (r : Route) : latestS r = rlatS r := by
  unfold latestS rlatS
  by_cases h : r.ok = true
  · simp only [h, if_true]
    rw [late_eq (Route.ok_spec h)]
  · simp only [h, if_false]; rfl
theorem latestB_le {r : Route} (hr : RouteOk r) : latestB r (wholes (zero r)) ≤ 1440 := by
  refine Int.le_of_not_gt fun h => ?_
  obtain ⟨t, ht, _, hl⟩ := (latestB_has hr (s := latestB r (wholes (zero r))) (by omega)).1 (Int.le_refl _)
  have := leavesS_le hr (allR_ok _ ht).2
  omega
/-- The error of a route that leaves later. -/
theorem errR_setS {r : Route} (h : r.ok = true) {s : Int} (hs : 0 ≤ s ∧ s ≤ 1440) : errR (setS r s) = if s ≤ latestB r (wholes (zero r)) then 0 else 3 := by
  have hr := Route.ok_spec h
  unfold errR
  rw [if_pos (setS_okb h hs)]
  by_cases hl : s ≤ latestB r (wholes (zero r))
  · rw [if_pos hl, if_neg ((hasW_good hr hs).2 ((latestB_has hr hs.1).1 hl))]
  · rw [if_neg hl, if_pos]
    exact Classical.byContradiction fun hn => hl ((latestB_has hr hs.1).2 ((hasW_good hr hs).1 hn))
end Go.Proofs.Ytbejgfpaokcnpaa

namespace Go.Proofs.Ytbejgfpaokcnpaa
open Go Go.V
@[reducible] def o13_0 : List Ins := [⟨(some 1), .box 3 (.t 0), none, true⟩,
  ⟨(some 2), .mv (.k (.c (.bool false))), none, true⟩]
@[reducible] def o13_1 : List Ins := [⟨(some 3), .ld false 3 (.t 1), none, true⟩,
  ⟨(some 4), .call (.k (.fn 19 [])) [(.t 3)], none, true⟩,
  ⟨(some 5), .un .not (.t 4), none, true⟩,
  ⟨(some 6), .mv (.t 5), none, true⟩,
  ⟨(some 7), .ld false 3 (.t 1), (some (6, true)), true⟩,
  ⟨(some 8), .call (.k (.fn 27 [])) [(.t 7)], (some (6, true)), true⟩,
  ⟨(some 9), .bin .eql (.t 8) (.k (.c (.int .i64 0))), (some (6, true)), true⟩,
  ⟨(some 10), .pick (.t 6) (.t 9) (.k (.c (.bool false))), none, true⟩,
  ⟨(some 2), .mv (.t 10), none, true⟩]
@[reducible] def v13_2 : VC := (.seq (.ops o13_1) .ret)
def ir13 : FC := ⟨1, 11, [.t 2], (.seq (.ops o13_0) v13_2)⟩
@[reducible] def o16_0 : List Ins := [⟨(some 2), .mv (.k (.c (.bool false))), none, true⟩]
@[reducible] def o16_1 : List Ins := [⟨(some 3), .mv (.t 0), none, true⟩,
  ⟨(some 4), .bin .eql (.t 3) (.k (.c (.int .i64 0))), none, true⟩,
  ⟨(some 5), .mv (.t 4), none, true⟩,
  ⟨(some 6), .mv (.t 0), (some (5, false)), true⟩,
  ⟨(some 7), .bin .eql (.t 6) (.k (.c (.int .i64 3))), (some (5, false)), true⟩,
  ⟨(some 8), .pick (.t 5) (.k (.c (.bool true))) (.t 7), none, true⟩,
  ⟨(some 2), .mv (.t 8), none, true⟩]
@[reducible] def v16_2 : VC := (.seq (.ops o16_1) .ret)
def ir16 : FC := ⟨1, 9, [.t 2], (.seq (.ops o16_0) v16_2)⟩
@[reducible] def o3_0 : List Ins := [⟨(some 2), .box 3 (.t 0), none, true⟩,
  ⟨(some 4), .mv (.k (.c (.bool false))), none, true⟩]
@[reducible] def o3_1 : List Ins := [⟨(some 10), .ld false 3 (.t 2), none, true⟩,
  ⟨(some 11), .call (.k (.fn 13 [])) [(.t 10)], none, true⟩,
  ⟨(some 12), .un .not (.t 11), none, true⟩,
  ⟨(some 13), .mv (.t 12), none, true⟩,
  ⟨(some 14), .mv (.t 1), (some (13, false)), true⟩,
  ⟨(some 15), .bin .lss (.t 14) (.k (.c (.int .i64 0))), (some (13, false)), true⟩,
  ⟨(some 16), .pick (.t 13) (.k (.c (.bool true))) (.t 15), none, true⟩,
  ⟨(some 17), .mv (.t 16), none, true⟩,
  ⟨(some 18), .mv (.t 1), (some (17, false)), true⟩,
  ⟨(some 19), .bin .gtr (.t 18) (.k (.c (.int .i64 1440))), (some (17, false)), true⟩,
  ⟨(some 20), .pick (.t 17) (.k (.c (.bool true))) (.t 19), none, true⟩]
@[reducible] def o3_2 : List Ins := [⟨(some 21), .call (.k (.fn 14 [])) [], none, true⟩,
  ⟨(some 4), .mv (.t 21), none, true⟩]
@[reducible] def v3_3 : VC := (.seq (.ops o3_2) .ret)
@[reducible] def v3_4 : VC := (.cond (.t 20) v3_3 .skip)
@[reducible] def o3_5 : List Ins := [⟨(some 23), .ld false 3 (.t 2), none, true⟩,
  ⟨(some 24), .call (.k (.fn 15 [])) [(.t 23)], none, true⟩,
  ⟨(some 22), .mv (.t 24), none, true⟩,
  ⟨(some 25), .ext (.t 22) 0, none, true⟩,
  ⟨(some 26), .ext (.t 22) 1, none, true⟩,
  ⟨(some 5), .mv (.t 25), none, true⟩,
  ⟨(some 6), .mv (.t 26), none, true⟩]
@[reducible] def o3_6 : List Ins := [⟨(some 27), .mv (.t 6), none, true⟩,
  ⟨(some 28), .call (.k (.fn 16 [])) [(.t 27)], none, true⟩,
  ⟨(some 29), .un .not (.t 28), none, true⟩,
  ⟨(some 30), .mv (.t 29), none, true⟩,
  ⟨(some 31), .mv (.t 6), (some (30, false)), true⟩,
  ⟨(some 32), .bin .eql (.t 31) (.k (.c (.int .i64 0))), (some (30, false)), true⟩,
  ⟨(some 33), .mv (.t 32), (some (30, false)), true⟩,
  ⟨(some 34), .mv (.t 5), (some (33, true)), true⟩,
  ⟨(some 35), .bin .lss (.t 34) (.k (.c (.int .i64 0))), (some (33, true)), true⟩,
  ⟨(some 36), .mv (.t 35), (some (33, true)), true⟩,
  ⟨(some 37), .mv (.t 5), (some (36, false)), true⟩,
  ⟨(some 38), .bin .gtr (.t 37) (.k (.c (.int .i64 1440))), (some (36, false)), true⟩,
  ⟨(some 39), .pick (.t 36) (.k (.c (.bool true))) (.t 38), (some (33, true)), true⟩,
  ⟨(some 40), .pick (.t 33) (.t 39) (.k (.c (.bool false))), (some (30, false)), true⟩,
  ⟨(some 41), .pick (.t 30) (.k (.c (.bool true))) (.t 40), none, true⟩]
@[reducible] def o3_7 : List Ins := [⟨(some 4), .mv (.k (.c (.bool false))), none, true⟩]
@[reducible] def v3_8 : VC := (.seq (.ops o3_7) .ret)
@[reducible] def v3_9 : VC := (.cond (.t 41) v3_8 .skip)
@[reducible] def o3_10 : List Ins := [⟨(some 42), .ld false 3 (.t 2), none, true⟩,
  ⟨(some 43), .call (.k (.fn 17 [])) [(.t 42)], none, true⟩,
  ⟨(some 7), .alloc [(.c (.raw (.slice none 0 0))), (.c (.raw (.slice none 0 0))), (.c (.int .i64 0))], none, true⟩,
  ⟨none, .st 3 (.t 7) (.t 43), none, true⟩]
@[reducible] def o3_11 : List Ins := [⟨(some 44), .mv (.t 1), none, true⟩,
  ⟨(some 45), .fa 2 (.t 7), none, true⟩,
  ⟨none, .st 1 (.t 45) (.t 44), none, true⟩]
@[reducible] def o3_12 : List Ins := [⟨(some 47), .ld false 3 (.t 7), none, true⟩,
  ⟨(some 48), .call (.k (.fn 18 [])) [(.t 47)], none, true⟩,
  ⟨(some 46), .mv (.t 48), none, true⟩,
  ⟨(some 49), .ext (.t 46) 0, none, true⟩,
  ⟨(some 50), .ext (.t 46) 1, none, true⟩,
  ⟨(some 8), .mv (.t 49), none, true⟩,
  ⟨(some 9), .mv (.t 50), none, true⟩]
@[reducible] def o3_13 : List Ins := [⟨(some 51), .mv (.t 9), none, true⟩,
  ⟨(some 52), .call (.k (.fn 16 [])) [(.t 51)], none, true⟩,
  ⟨(some 53), .un .not (.t 52), none, true⟩,
  ⟨(some 54), .mv (.t 53), none, true⟩,
  ⟨(some 55), .mv (.t 9), (some (54, false)), true⟩,
  ⟨(some 56), .bin .eql (.t 55) (.k (.c (.int .i64 0))), (some (54, false)), true⟩,
  ⟨(some 57), .mv (.t 6), (some (54, false)), true⟩,
  ⟨(some 58), .bin .eql (.t 57) (.k (.c (.int .i64 0))), (some (54, false)), true⟩,
  ⟨(some 59), .mv (.t 58), (some (54, false)), true⟩,
  ⟨(some 60), .mv (.t 1), (some (59, true)), true⟩,
  ⟨(some 61), .mv (.t 5), (some (59, true)), true⟩,
  ⟨(some 62), .bin .leq (.t 60) (.t 61), (some (59, true)), true⟩,
  ⟨(some 63), .pick (.t 59) (.t 62) (.k (.c (.bool false))), (some (54, false)), true⟩,
  ⟨(some 64), .eqs true (.t 56) (.t 63), (some (54, false)), true⟩,
  ⟨(some 65), .pick (.t 54) (.k (.c (.bool true))) (.t 64), none, true⟩]
@[reducible] def o3_14 : List Ins := [⟨(some 4), .mv (.k (.c (.bool false))), none, true⟩]
@[reducible] def v3_15 : VC := (.seq (.ops o3_14) .ret)
@[reducible] def v3_16 : VC := (.cond (.t 65) v3_15 .skip)
@[reducible] def o3_17 : List Ins := [⟨(some 66), .mv (.t 6), none, true⟩,
  ⟨(some 67), .bin .neq (.t 66) (.k (.c (.int .i64 0))), none, true⟩]
@[reducible] def o3_18 : List Ins := [⟨(some 68), .call (.k (.fn 14 [])) [], none, true⟩,
  ⟨(some 4), .mv (.t 68), none, true⟩]
@[reducible] def v3_19 : VC := (.seq (.ops o3_18) .ret)
@[reducible] def v3_20 : VC := (.cond (.t 67) v3_19 .skip)
@[reducible] def o3_21 : List Ins := [⟨(some 69), .mv (.t 5), none, true⟩,
  ⟨(some 70), .fa 2 (.t 7), none, true⟩,
  ⟨none, .st 1 (.t 70) (.t 69), none, true⟩]
@[reducible] def o3_22 : List Ins := [⟨(some 72), .ld false 3 (.t 7), none, true⟩,
  ⟨(some 73), .call (.k (.fn 18 [])) [(.t 72)], none, true⟩,
  ⟨(some 71), .mv (.t 73), none, true⟩,
  ⟨(some 74), .ext (.t 71) 0, none, true⟩,
  ⟨(some 75), .ext (.t 71) 1, none, true⟩,
  ⟨(some 9), .mv (.t 75), none, true⟩]
@[reducible] def o3_23 : List Ins := [⟨(some 76), .mv (.t 9), none, true⟩,
  ⟨(some 77), .bin .neq (.t 76) (.k (.c (.int .i64 0))), none, true⟩,
  ⟨(some 78), .mv (.t 77), none, true⟩,
  ⟨(some 79), .mv (.t 5), (some (78, false)), true⟩,
  ⟨(some 80), .bin .eql (.t 79) (.k (.c (.int .i64 1440))), (some (78, false)), true⟩,
  ⟨(some 81), .pick (.t 78) (.k (.c (.bool true))) (.t 80), none, true⟩]
@[reducible] def o3_24 : List Ins := [⟨(some 82), .mv (.t 9), none, true⟩,
  ⟨(some 83), .bin .eql (.t 82) (.k (.c (.int .i64 0))), none, true⟩,
  ⟨(some 84), .mv (.t 83), none, true⟩,
  ⟨(some 85), .call (.k (.fn 14 [])) [], (some (84, true)), true⟩,
  ⟨(some 86), .pick (.t 84) (.t 85) (.k (.c (.bool false))), none, true⟩,
  ⟨(some 4), .mv (.t 86), none, true⟩]
@[reducible] def v3_25 : VC := (.seq (.ops o3_24) .ret)
@[reducible] def v3_26 : VC := (.cond (.t 81) v3_25 .skip)
@[reducible] def o3_27 : List Ins := [⟨(some 87), .fa 2 (.t 7), none, true⟩,
  ⟨(some 88), .ld true 1 (.t 87), none, true⟩,
  ⟨(some 89), .bin .add (.t 88) (.k (.c (.int .i64 1))), none, true⟩,
  ⟨(some 90), .fa 2 (.t 7), none, true⟩,
  ⟨none, .st 1 (.t 90) (.t 89), none, true⟩]
@[reducible] def o3_28 : List Ins := [⟨(some 92), .ld false 3 (.t 7), none, true⟩,
  ⟨(some 93), .call (.k (.fn 18 [])) [(.t 92)], none, true⟩,
  ⟨(some 91), .mv (.t 93), none, true⟩,
  ⟨(some 94), .ext (.t 91) 0, none, true⟩,
  ⟨(some 95), .ext (.t 91) 1, none, true⟩,
  ⟨(some 9), .mv (.t 95), none, true⟩]
@[reducible] def o3_29 : List Ins := [⟨(some 96), .mv (.t 9), none, true⟩,
  ⟨(some 97), .bin .eql (.t 96) (.k (.c (.int .i64 3))), none, true⟩,
  ⟨(some 98), .mv (.t 97), none, true⟩,
  ⟨(some 99), .call (.k (.fn 14 [])) [], (some (98, true)), true⟩,
  ⟨(some 100), .pick (.t 98) (.t 99) (.k (.c (.bool false))), none, true⟩,
  ⟨(some 4), .mv (.t 100), none, true⟩]
@[reducible] def v3_30 : VC := (.seq (.ops o3_29) .ret)
@[reducible] def v3_31 : VC := (.seq (.ops o3_28) v3_30)
@[reducible] def v3_32 : VC := (.seq (.ops o3_27) v3_31)
@[reducible] def v3_33 : VC := (.seq (.seq (.ops o3_23) v3_26) v3_32)
@[reducible] def v3_34 : VC := (.seq (.ops o3_22) v3_33)
@[reducible] def v3_35 : VC := (.seq (.ops o3_21) v3_34)
@[reducible] def v3_36 : VC := (.seq (.seq (.ops o3_17) v3_20) v3_35)
@[reducible] def v3_37 : VC := (.seq (.seq (.ops o3_13) v3_16) v3_36)
@[reducible] def v3_38 : VC := (.seq (.ops o3_12) v3_37)
@[reducible] def v3_39 : VC := (.seq (.ops o3_11) v3_38)
@[reducible] def v3_40 : VC := (.seq (.ops o3_10) v3_39)
@[reducible] def v3_41 : VC := (.seq (.seq (.ops o3_6) v3_9) v3_40)
@[reducible] def v3_42 : VC := (.seq (.ops o3_5) v3_41)
@[reducible] def v3_43 : VC := (.seq (.seq (.ops o3_1) v3_4) v3_42)
def ir3 : FC := ⟨2, 101, [.t 4], (.seq (.ops o3_0) v3_43)⟩
theorem c13 : compM Try.prog [] 13 = some ir13 := by kernel_rfl
theorem c16 : compM Try.prog [] 16 = some ir16 := by kernel_rfl
theorem c3 : compM Try.prog [] 3 = some ir3 := by kernel_rfl



def readyS (r : Route) : Bool := !farS r && r.ok
theorem readyS_of {r : Route} (h : readyS r = true) : r.ok = true ∧ near r = true := by
  unfold readyS at h
  simp only [Bool.and_eq_true, Bool.not_eq_true'] at h
  refine ⟨h.2, ?_⟩
  have hf := h.1
  unfold farS at hf
  by_cases hn : near r = true
  · exact hn
  · rw [if_neg hn] at hf; cases hf

set_option maxHeartbeats 2000000 in
theorem ready13 (r : Route) : FSpec Try.prog 13 [r.av] (.c (.bool (readyS r))) := by
  refine FSpec_of c13 (Nat.le_refl _) (by decide) fun C hP hN hC hL => ?_
  simp only [ir13, Route.av]
  (repeat ((first | refine WV_seq_ ?_ | refine WV_block ?_ | refine WV_ops ?_ | refine WV_skip ?_ | refine WV_exit ?_); (try simp only [go_sem, init_env', Nat.reduceEqDiff, Nat.reduceAdd, Nat.reduceMul, reduceIte, Nat.reduceLeDiff, Nat.reduceLT, Nat.reduceBEq, reduceCtorEq, hP, ]); (repeat (refine And.intro (by first | omega | (intros; simp_all; done) | (intros; simp_all; omega)) ?_))))
  (refine AS_pure (far19 r) rfl rfl rfl rfl rfl ?_; simp only [go_sem, init_env', Nat.reduceEqDiff, Nat.reduceAdd, Nat.reduceMul, reduceIte, Nat.reduceLeDiff, Nat.reduceLT, Nat.reduceBEq, reduceCtorEq, hP, Route.av]; (repeat (refine And.intro (by first | omega | (intros; simp_all; done) | (intros; simp_all; omega)) ?_)); (repeat ((first | refine WV_seq_ ?_ | refine WV_block ?_ | refine WV_ops ?_ | refine WV_skip ?_ | refine WV_exit ?_); (try simp only [go_sem, init_env', Nat.reduceEqDiff, Nat.reduceAdd, Nat.reduceMul, reduceIte, Nat.reduceLeDiff, Nat.reduceLT, Nat.reduceBEq, reduceCtorEq, hP, Route.av]); (repeat (refine And.intro (by first | omega | (intros; simp_all; done) | (intros; simp_all; omega)) ?_)))))
  (refine AG_pure (fun hG => check_spec r) rfl (fun hG => by simp only [go_sem, init_env', Nat.reduceEqDiff, Nat.reduceAdd, Nat.reduceMul, reduceIte, Nat.reduceLeDiff, Nat.reduceLT, Nat.reduceBEq, reduceCtorEq, hG]) rfl rfl rfl ?_; simp only [go_sem, init_env', Nat.reduceEqDiff, Nat.reduceAdd, Nat.reduceMul, reduceIte, Nat.reduceLeDiff, Nat.reduceLT, Nat.reduceBEq, reduceCtorEq, hP, Route.av]; (repeat (refine And.intro (by first | omega | (intros; simp_all; done) | (intros; simp_all; omega)) ?_)); (repeat ((first | refine WV_seq_ ?_ | refine WV_block ?_ | refine WV_ops ?_ | refine WV_skip ?_ | refine WV_exit ?_); (try simp only [go_sem, init_env', Nat.reduceEqDiff, Nat.reduceAdd, Nat.reduceMul, reduceIte, Nat.reduceLeDiff, Nat.reduceLT, Nat.reduceBEq, reduceCtorEq, hP, Route.av]); (repeat (refine And.intro (by first | omega | (intros; simp_all; done) | (intros; simp_all; omega)) ?_)))))
  by_cases hok : r.ok = true
  · simp only [hok, if_true, beq_self_eq_true]
    (try refine ⟨fun h => by simpa using h, ?_⟩)
    (repeat ((first | refine WV_seq_ ?_ | refine WV_block ?_ | refine WV_ops ?_ | refine WV_skip ?_ | refine WV_exit ?_); (try simp only [go_sem, init_env', Nat.reduceEqDiff, Nat.reduceAdd, Nat.reduceMul, reduceIte, Nat.reduceLeDiff, Nat.reduceLT, Nat.reduceBEq, reduceCtorEq, hP, ]); (repeat (refine And.intro (by first | omega | (intros; simp_all; done) | (intros; simp_all; omega)) ?_))))
    (refine WV_ret ?_; simp only [thenQ, inQ, RetQ, RetOk, resAll, resA]; simp only [go_sem, init_env', Nat.reduceEqDiff, Nat.reduceAdd, Nat.reduceMul, reduceIte, Nat.reduceLeDiff, Nat.reduceLT, Nat.reduceBEq, reduceCtorEq, tupA, AV.port, AV.portL, exists_eq_left', ]; (first | exact AVle.of rfl | refine AVle.of ?_ | skip))
    simp [readyS, hok]
  · have hok : r.ok = false := by simpa using hok
    simp only [hok, Bool.false_eq_true, if_false]
    (try refine ⟨fun h => by simpa using h, ?_⟩)
    (repeat ((first | refine WV_seq_ ?_ | refine WV_block ?_ | refine WV_ops ?_ | refine WV_skip ?_ | refine WV_exit ?_); (try simp only [go_sem, init_env', Nat.reduceEqDiff, Nat.reduceAdd, Nat.reduceMul, reduceIte, Nat.reduceLeDiff, Nat.reduceLT, Nat.reduceBEq, reduceCtorEq, hP, ]); (repeat (refine And.intro (by first | omega | (intros; simp_all; done) | (intros; simp_all; omega)) ?_))))
    (refine WV_ret ?_; simp only [thenQ, inQ, RetQ, RetOk, resAll, resA]; simp only [go_sem, init_env', Nat.reduceEqDiff, Nat.reduceAdd, Nat.reduceMul, reduceIte, Nat.reduceLeDiff, Nat.reduceLT, Nat.reduceBEq, reduceCtorEq, tupA, AV.port, AV.portL, exists_eq_left', ]; (first | exact AVle.of rfl | refine AVle.of ?_ | skip))
    simp [readyS, hok]

def knownS (e : Int) : Bool := e == 0 || e == 3
theorem known16 (e : Int) : FSpec Try.prog 16 [iv e] (.c (.bool (knownS e))) := by
  refine FSpec_of c16 (Nat.le_refl _) (by decide) fun C hP hN hC hL => ?_
  simp only [ir16]
  (repeat ((first | refine WV_seq_ ?_ | refine WV_block ?_ | refine WV_ops ?_ | refine WV_skip ?_ | refine WV_exit ?_); (try simp only [go_sem, init_env', Nat.reduceEqDiff, Nat.reduceAdd, Nat.reduceMul, reduceIte, Nat.reduceLeDiff, Nat.reduceLT, Nat.reduceBEq, reduceCtorEq, hP, ]); (repeat (refine And.intro (by first | omega | (intros; simp_all; done) | (intros; simp_all; omega)) ?_))))
  (refine WV_ret ?_; simp only [thenQ, inQ, RetQ, RetOk, resAll, resA]; simp only [go_sem, init_env', Nat.reduceEqDiff, Nat.reduceAdd, Nat.reduceMul, reduceIte, Nat.reduceLeDiff, Nat.reduceLT, Nat.reduceBEq, reduceCtorEq, tupA, AV.port, AV.portL, exists_eq_left', ]; (first | exact AVle.of rfl | refine AVle.of ?_ | skip))

set_option maxRecDepth 20000 in
set_option maxHeartbeats 8000000 in
theorem law3 (r : Route) (s : Int) : FSpec Try.prog 3 [r.av, iv s] (.c (.bool true)) := by
  refine FSpec_of c3 (Nat.le_refl _) (by decide) fun C hP hN hC hL => ?_
  simp only [ir3, Route.av]
  (repeat ((first | refine WV_seq_ ?_ | refine WV_block ?_ | refine WV_ops ?_ | refine WV_skip ?_ | refine WV_exit ?_); (try simp only [go_sem, init_env', Nat.reduceEqDiff, Nat.reduceAdd, Nat.reduceMul, reduceIte, Nat.reduceLeDiff, Nat.reduceLT, Nat.reduceBEq, reduceCtorEq, hP, ]); (repeat (refine And.intro (by first | omega | (intros; simp_all; done) | (intros; simp_all; omega)) ?_))))
  (refine AS_pure (ready13 r) rfl rfl rfl rfl rfl ?_; simp only [go_sem, init_env', Nat.reduceEqDiff, Nat.reduceAdd, Nat.reduceMul, reduceIte, Nat.reduceLeDiff, Nat.reduceLT, Nat.reduceBEq, reduceCtorEq, hP, Route.av]; (repeat (refine And.intro (by first | omega | (intros; simp_all; done) | (intros; simp_all; omega)) ?_)); (repeat ((first | refine WV_seq_ ?_ | refine WV_block ?_ | refine WV_ops ?_ | refine WV_skip ?_ | refine WV_exit ?_); (try simp only [go_sem, init_env', Nat.reduceEqDiff, Nat.reduceAdd, Nat.reduceMul, reduceIte, Nat.reduceLeDiff, Nat.reduceLT, Nat.reduceBEq, reduceCtorEq, hP, Route.av]); (repeat (refine And.intro (by first | omega | (intros; simp_all; done) | (intros; simp_all; omega)) ?_)))))
  (refine WV_cond rfl (fun h => ?_) (fun h => ?_))
  · (repeat ((first | refine WV_seq_ ?_ | refine WV_block ?_ | refine WV_ops ?_ | refine WV_skip ?_ | refine WV_exit ?_); (try simp only [go_sem, init_env', Nat.reduceEqDiff, Nat.reduceAdd, Nat.reduceMul, reduceIte, Nat.reduceLeDiff, Nat.reduceLT, Nat.reduceBEq, reduceCtorEq, hP, ]); (repeat (refine And.intro (by first | omega | (intros; simp_all; done) | (intros; simp_all; omega)) ?_))))
    (refine AS_pure (works14) rfl rfl rfl rfl rfl ?_; simp only [go_sem, init_env', Nat.reduceEqDiff, Nat.reduceAdd, Nat.reduceMul, reduceIte, Nat.reduceLeDiff, Nat.reduceLT, Nat.reduceBEq, reduceCtorEq, hP, ]; (repeat (refine And.intro (by first | omega | (intros; simp_all; done) | (intros; simp_all; omega)) ?_)); (repeat ((first | refine WV_seq_ ?_ | refine WV_block ?_ | refine WV_ops ?_ | refine WV_skip ?_ | refine WV_exit ?_); (try simp only [go_sem, init_env', Nat.reduceEqDiff, Nat.reduceAdd, Nat.reduceMul, reduceIte, Nat.reduceLeDiff, Nat.reduceLT, Nat.reduceBEq, reduceCtorEq, hP, ]); (repeat (refine And.intro (by first | omega | (intros; simp_all; done) | (intros; simp_all; omega)) ?_)))))
    (refine WV_ret ?_; simp only [thenQ, inQ, RetQ, RetOk, resAll, resA]; simp only [go_sem, init_env', Nat.reduceEqDiff, Nat.reduceAdd, Nat.reduceMul, reduceIte, Nat.reduceLeDiff, Nat.reduceLT, Nat.reduceBEq, reduceCtorEq, tupA, AV.port, AV.portL, exists_eq_left', ]; (first | exact AVle.of rfl | refine AVle.of ?_ | skip))
  · have h : readyS r = true ∧ 0 ≤ s ∧ s ≤ 1440 := by
      cases hr : readyS r
      · rw [hr] at h; simp at h
      · rw [hr] at h; simp at h; exact ⟨rfl, by omega⟩
    obtain ⟨hrd, hs⟩ := h
    obtain ⟨hok, hnear⟩ := readyS_of hrd
    have hr := Route.ok_spec hok
    have hle := latestB_le hr
    have herr := fun s hs => errR_setS hok (s := s) hs
    have hl := latest15 r
    unfold latestS at hl
    rw [if_pos hok] at hl
    generalize latestB r (wholes (zero r)) = L at *
    have hw1 := way18 (setS r s)
    by_cases hL0 : L < 0
    · rw [if_pos hL0] at hl
      have he1 := herr s hs
      rw [if_neg (by omega)] at he1
      rw [way_err (by rw [he1]; decide), he1] at hw1
      (repeat ((first | refine WV_seq_ ?_ | refine WV_block ?_ | refine WV_ops ?_ | refine WV_skip ?_ | refine WV_exit ?_); (try simp only [go_sem, init_env', Nat.reduceEqDiff, Nat.reduceAdd, Nat.reduceMul, reduceIte, Nat.reduceLeDiff, Nat.reduceLT, Nat.reduceBEq, reduceCtorEq, hP, ]); (repeat (refine And.intro (by first | omega | (intros; simp_all; done) | (intros; simp_all; omega)) ?_))))
      (refine AS_pure (hl) rfl rfl rfl rfl rfl ?_; simp only [go_sem, init_env', Nat.reduceEqDiff, Nat.reduceAdd, Nat.reduceMul, reduceIte, Nat.reduceLeDiff, Nat.reduceLT, Nat.reduceBEq, reduceCtorEq, hP, Route.av]; (repeat (refine And.intro (by first | omega | (intros; simp_all; done) | (intros; simp_all; omega)) ?_)); (repeat ((first | refine WV_seq_ ?_ | refine WV_block ?_ | refine WV_ops ?_ | refine WV_skip ?_ | refine WV_exit ?_); (try simp only [go_sem, init_env', Nat.reduceEqDiff, Nat.reduceAdd, Nat.reduceMul, reduceIte, Nat.reduceLeDiff, Nat.reduceLT, Nat.reduceBEq, reduceCtorEq, hP, Route.av]); (repeat (refine And.intro (by first | omega | (intros; simp_all; done) | (intros; simp_all; omega)) ?_)))))
      (refine AS_pure (known16 3) rfl rfl rfl rfl rfl ?_; simp only [go_sem, init_env', Nat.reduceEqDiff, Nat.reduceAdd, Nat.reduceMul, reduceIte, Nat.reduceLeDiff, Nat.reduceLT, Nat.reduceBEq, reduceCtorEq, hP, knownS]; (repeat (refine And.intro (by first | omega | (intros; simp_all; done) | (intros; simp_all; omega)) ?_)); (repeat ((first | refine WV_seq_ ?_ | refine WV_block ?_ | refine WV_ops ?_ | refine WV_skip ?_ | refine WV_exit ?_); (try simp only [go_sem, init_env', Nat.reduceEqDiff, Nat.reduceAdd, Nat.reduceMul, reduceIte, Nat.reduceLeDiff, Nat.reduceLT, Nat.reduceBEq, reduceCtorEq, hP, knownS]); (repeat (refine And.intro (by first | omega | (intros; simp_all; done) | (intros; simp_all; omega)) ?_)))))
      (refine WV_cond rfl (fun h => ?_) (fun h => ?_))
      · simp [knownS] at h
      · clear h
        (repeat ((first | refine WV_seq_ ?_ | refine WV_block ?_ | refine WV_ops ?_ | refine WV_skip ?_ | refine WV_exit ?_); (try simp only [go_sem, init_env', Nat.reduceEqDiff, Nat.reduceAdd, Nat.reduceMul, reduceIte, Nat.reduceLeDiff, Nat.reduceLT, Nat.reduceBEq, reduceCtorEq, hP, ]); (repeat (refine And.intro (by first | omega | (intros; simp_all; done) | (intros; simp_all; omega)) ?_))))
        (refine AS_pure (copy17 r hnear) rfl rfl rfl rfl rfl ?_; simp only [go_sem, init_env', Nat.reduceEqDiff, Nat.reduceAdd, Nat.reduceMul, reduceIte, Nat.reduceLeDiff, Nat.reduceLT, Nat.reduceBEq, reduceCtorEq, hP, Route.av]; (repeat (refine And.intro (by first | omega | (intros; simp_all; done) | (intros; simp_all; omega)) ?_)); (repeat ((first | refine WV_seq_ ?_ | refine WV_block ?_ | refine WV_ops ?_ | refine WV_skip ?_ | refine WV_exit ?_); (try simp only [go_sem, init_env', Nat.reduceEqDiff, Nat.reduceAdd, Nat.reduceMul, reduceIte, Nat.reduceLeDiff, Nat.reduceLT, Nat.reduceBEq, reduceCtorEq, hP, Route.av]); (repeat (refine And.intro (by first | omega | (intros; simp_all; done) | (intros; simp_all; omega)) ?_)))))
        (refine AS_pure (hw1) rfl rfl rfl rfl rfl ?_; simp only [go_sem, init_env', Nat.reduceEqDiff, Nat.reduceAdd, Nat.reduceMul, reduceIte, Nat.reduceLeDiff, Nat.reduceLT, Nat.reduceBEq, reduceCtorEq, hP, Route.av, setS]; (repeat (refine And.intro (by first | omega | (intros; simp_all; done) | (intros; simp_all; omega)) ?_)); (repeat ((first | refine WV_seq_ ?_ | refine WV_block ?_ | refine WV_ops ?_ | refine WV_skip ?_ | refine WV_exit ?_); (try simp only [go_sem, init_env', Nat.reduceEqDiff, Nat.reduceAdd, Nat.reduceMul, reduceIte, Nat.reduceLeDiff, Nat.reduceLT, Nat.reduceBEq, reduceCtorEq, hP, Route.av, setS]); (repeat (refine And.intro (by first | omega | (intros; simp_all; done) | (intros; simp_all; omega)) ?_)))))
        (refine AS_pure (known16 3) rfl rfl rfl rfl rfl ?_; simp only [go_sem, init_env', Nat.reduceEqDiff, Nat.reduceAdd, Nat.reduceMul, reduceIte, Nat.reduceLeDiff, Nat.reduceLT, Nat.reduceBEq, reduceCtorEq, hP, knownS]; (repeat (refine And.intro (by first | omega | (intros; simp_all; done) | (intros; simp_all; omega)) ?_)); (repeat ((first | refine WV_seq_ ?_ | refine WV_block ?_ | refine WV_ops ?_ | refine WV_skip ?_ | refine WV_exit ?_); (try simp only [go_sem, init_env', Nat.reduceEqDiff, Nat.reduceAdd, Nat.reduceMul, reduceIte, Nat.reduceLeDiff, Nat.reduceLT, Nat.reduceBEq, reduceCtorEq, hP, knownS]); (repeat (refine And.intro (by first | omega | (intros; simp_all; done) | (intros; simp_all; omega)) ?_)))))
        (refine WV_cond rfl (fun h => ?_) (fun h => ?_))
        · simp [knownS] at h
        · clear h
          (repeat ((first | refine WV_seq_ ?_ | refine WV_block ?_ | refine WV_ops ?_ | refine WV_skip ?_ | refine WV_exit ?_); (try simp only [go_sem, init_env', Nat.reduceEqDiff, Nat.reduceAdd, Nat.reduceMul, reduceIte, Nat.reduceLeDiff, Nat.reduceLT, Nat.reduceBEq, reduceCtorEq, hP, ]); (repeat (refine And.intro (by first | omega | (intros; simp_all; done) | (intros; simp_all; omega)) ?_))))
          (refine WV_cond rfl (fun h => ?_) (fun h => ?_))
          · (repeat ((first | refine WV_seq_ ?_ | refine WV_block ?_ | refine WV_ops ?_ | refine WV_skip ?_ | refine WV_exit ?_); (try simp only [go_sem, init_env', Nat.reduceEqDiff, Nat.reduceAdd, Nat.reduceMul, reduceIte, Nat.reduceLeDiff, Nat.reduceLT, Nat.reduceBEq, reduceCtorEq, hP, ]); (repeat (refine And.intro (by first | omega | (intros; simp_all; done) | (intros; simp_all; omega)) ?_))))
            (refine AS_pure (works14) rfl rfl rfl rfl rfl ?_; simp only [go_sem, init_env', Nat.reduceEqDiff, Nat.reduceAdd, Nat.reduceMul, reduceIte, Nat.reduceLeDiff, Nat.reduceLT, Nat.reduceBEq, reduceCtorEq, hP, ]; (repeat (refine And.intro (by first | omega | (intros; simp_all; done) | (intros; simp_all; omega)) ?_)); (repeat ((first | refine WV_seq_ ?_ | refine WV_block ?_ | refine WV_ops ?_ | refine WV_skip ?_ | refine WV_exit ?_); (try simp only [go_sem, init_env', Nat.reduceEqDiff, Nat.reduceAdd, Nat.reduceMul, reduceIte, Nat.reduceLeDiff, Nat.reduceLT, Nat.reduceBEq, reduceCtorEq, hP, ]); (repeat (refine And.intro (by first | omega | (intros; simp_all; done) | (intros; simp_all; omega)) ?_)))))
            (refine WV_ret ?_; simp only [thenQ, inQ, RetQ, RetOk, resAll, resA]; simp only [go_sem, init_env', Nat.reduceEqDiff, Nat.reduceAdd, Nat.reduceMul, reduceIte, Nat.reduceLeDiff, Nat.reduceLT, Nat.reduceBEq, reduceCtorEq, tupA, AV.port, AV.portL, exists_eq_left', ]; (first | exact AVle.of rfl | refine AVle.of ?_ | skip))
          · simp at h
    · rw [if_neg hL0] at hl
      have he1 := herr s hs
      have heL := herr L (by omega)
      rw [if_pos (Int.le_refl _)] at heL
      obtain ⟨tL, htL, _, _⟩ := way_ok heL
      have hwL := way18 (setS r L)
      rw [htL] at hwL
      by_cases hsL : s ≤ L
      · rw [if_pos hsL] at he1
        obtain ⟨t1, ht1, _, _⟩ := way_ok he1
        rw [ht1] at hw1
        have hdl : decide (s ≤ L) = true := by simpa using hsL
        (repeat ((first | refine WV_seq_ ?_ | refine WV_block ?_ | refine WV_ops ?_ | refine WV_skip ?_ | refine WV_exit ?_); (try simp only [go_sem, init_env', Nat.reduceEqDiff, Nat.reduceAdd, Nat.reduceMul, reduceIte, Nat.reduceLeDiff, Nat.reduceLT, Nat.reduceBEq, reduceCtorEq, hP, ]); (repeat (refine And.intro (by first | omega | (intros; simp_all; done) | (intros; simp_all; omega)) ?_))))
        (refine AS_pure (hl) rfl rfl rfl rfl rfl ?_; simp only [go_sem, init_env', Nat.reduceEqDiff, Nat.reduceAdd, Nat.reduceMul, reduceIte, Nat.reduceLeDiff, Nat.reduceLT, Nat.reduceBEq, reduceCtorEq, hP, Route.av]; (repeat (refine And.intro (by first | omega | (intros; simp_all; done) | (intros; simp_all; omega)) ?_)); (repeat ((first | refine WV_seq_ ?_ | refine WV_block ?_ | refine WV_ops ?_ | refine WV_skip ?_ | refine WV_exit ?_); (try simp only [go_sem, init_env', Nat.reduceEqDiff, Nat.reduceAdd, Nat.reduceMul, reduceIte, Nat.reduceLeDiff, Nat.reduceLT, Nat.reduceBEq, reduceCtorEq, hP, Route.av]); (repeat (refine And.intro (by first | omega | (intros; simp_all; done) | (intros; simp_all; omega)) ?_)))))
        (refine AS_pure (known16 0) rfl rfl rfl rfl rfl ?_; simp only [go_sem, init_env', Nat.reduceEqDiff, Nat.reduceAdd, Nat.reduceMul, reduceIte, Nat.reduceLeDiff, Nat.reduceLT, Nat.reduceBEq, reduceCtorEq, hP, knownS]; (repeat (refine And.intro (by first | omega | (intros; simp_all; done) | (intros; simp_all; omega)) ?_)); (repeat ((first | refine WV_seq_ ?_ | refine WV_block ?_ | refine WV_ops ?_ | refine WV_skip ?_ | refine WV_exit ?_); (try simp only [go_sem, init_env', Nat.reduceEqDiff, Nat.reduceAdd, Nat.reduceMul, reduceIte, Nat.reduceLeDiff, Nat.reduceLT, Nat.reduceBEq, reduceCtorEq, hP, knownS]); (repeat (refine And.intro (by first | omega | (intros; simp_all; done) | (intros; simp_all; omega)) ?_)))))
        (refine WV_cond rfl (fun h => ?_) (fun h => ?_))
        · simp [knownS] at h; omega
        · clear h
          (repeat ((first | refine WV_seq_ ?_ | refine WV_block ?_ | refine WV_ops ?_ | refine WV_skip ?_ | refine WV_exit ?_); (try simp only [go_sem, init_env', Nat.reduceEqDiff, Nat.reduceAdd, Nat.reduceMul, reduceIte, Nat.reduceLeDiff, Nat.reduceLT, Nat.reduceBEq, reduceCtorEq, hP, ]); (repeat (refine And.intro (by first | omega | (intros; simp_all; done) | (intros; simp_all; omega)) ?_))))
          (refine AS_pure (copy17 r hnear) rfl rfl rfl rfl rfl ?_; simp only [go_sem, init_env', Nat.reduceEqDiff, Nat.reduceAdd, Nat.reduceMul, reduceIte, Nat.reduceLeDiff, Nat.reduceLT, Nat.reduceBEq, reduceCtorEq, hP, Route.av]; (repeat (refine And.intro (by first | omega | (intros; simp_all; done) | (intros; simp_all; omega)) ?_)); (repeat ((first | refine WV_seq_ ?_ | refine WV_block ?_ | refine WV_ops ?_ | refine WV_skip ?_ | refine WV_exit ?_); (try simp only [go_sem, init_env', Nat.reduceEqDiff, Nat.reduceAdd, Nat.reduceMul, reduceIte, Nat.reduceLeDiff, Nat.reduceLT, Nat.reduceBEq, reduceCtorEq, hP, Route.av]); (repeat (refine And.intro (by first | omega | (intros; simp_all; done) | (intros; simp_all; omega)) ?_)))))
          (refine AS_pure (hw1) rfl rfl rfl rfl rfl ?_; simp only [go_sem, init_env', Nat.reduceEqDiff, Nat.reduceAdd, Nat.reduceMul, reduceIte, Nat.reduceLeDiff, Nat.reduceLT, Nat.reduceBEq, reduceCtorEq, hP, Route.av, setS]; (repeat (refine And.intro (by first | omega | (intros; simp_all; done) | (intros; simp_all; omega)) ?_)); (repeat ((first | refine WV_seq_ ?_ | refine WV_block ?_ | refine WV_ops ?_ | refine WV_skip ?_ | refine WV_exit ?_); (try simp only [go_sem, init_env', Nat.reduceEqDiff, Nat.reduceAdd, Nat.reduceMul, reduceIte, Nat.reduceLeDiff, Nat.reduceLT, Nat.reduceBEq, reduceCtorEq, hP, Route.av, setS]); (repeat (refine And.intro (by first | omega | (intros; simp_all; done) | (intros; simp_all; omega)) ?_)))))
          (refine AS_pure (known16 0) rfl rfl rfl rfl rfl ?_; simp only [go_sem, init_env', Nat.reduceEqDiff, Nat.reduceAdd, Nat.reduceMul, reduceIte, Nat.reduceLeDiff, Nat.reduceLT, Nat.reduceBEq, reduceCtorEq, hP, knownS, hdl]; (repeat (refine And.intro (by first | omega | (intros; simp_all; done) | (intros; simp_all; omega)) ?_)); (repeat ((first | refine WV_seq_ ?_ | refine WV_block ?_ | refine WV_ops ?_ | refine WV_skip ?_ | refine WV_exit ?_); (try simp only [go_sem, init_env', Nat.reduceEqDiff, Nat.reduceAdd, Nat.reduceMul, reduceIte, Nat.reduceLeDiff, Nat.reduceLT, Nat.reduceBEq, reduceCtorEq, hP, knownS, hdl]); (repeat (refine And.intro (by first | omega | (intros; simp_all; done) | (intros; simp_all; omega)) ?_)))))
          (refine WV_cond rfl (fun h => ?_) (fun h => ?_))
          · simp [knownS] at h
          · clear h
            (repeat ((first | refine WV_seq_ ?_ | refine WV_block ?_ | refine WV_ops ?_ | refine WV_skip ?_ | refine WV_exit ?_); (try simp only [go_sem, init_env', Nat.reduceEqDiff, Nat.reduceAdd, Nat.reduceMul, reduceIte, Nat.reduceLeDiff, Nat.reduceLT, Nat.reduceBEq, reduceCtorEq, hP, ]); (repeat (refine And.intro (by first | omega | (intros; simp_all; done) | (intros; simp_all; omega)) ?_))))
            (refine WV_cond rfl (fun h => ?_) (fun h => ?_))
            · simp at h
            · clear h
              (repeat ((first | refine WV_seq_ ?_ | refine WV_block ?_ | refine WV_ops ?_ | refine WV_skip ?_ | refine WV_exit ?_); (try simp only [go_sem, init_env', Nat.reduceEqDiff, Nat.reduceAdd, Nat.reduceMul, reduceIte, Nat.reduceLeDiff, Nat.reduceLT, Nat.reduceBEq, reduceCtorEq, hP, ]); (repeat (refine And.intro (by first | omega | (intros; simp_all; done) | (intros; simp_all; omega)) ?_))))
              (refine AS_pure (hwL) rfl rfl rfl rfl rfl ?_; simp only [go_sem, init_env', Nat.reduceEqDiff, Nat.reduceAdd, Nat.reduceMul, reduceIte, Nat.reduceLeDiff, Nat.reduceLT, Nat.reduceBEq, reduceCtorEq, hP, Route.av, setS]; (repeat (refine And.intro (by first | omega | (intros; simp_all; done) | (intros; simp_all; omega)) ?_)); (repeat ((first | refine WV_seq_ ?_ | refine WV_block ?_ | refine WV_ops ?_ | refine WV_skip ?_ | refine WV_exit ?_); (try simp only [go_sem, init_env', Nat.reduceEqDiff, Nat.reduceAdd, Nat.reduceMul, reduceIte, Nat.reduceLeDiff, Nat.reduceLT, Nat.reduceBEq, reduceCtorEq, hP, Route.av, setS]); (repeat (refine And.intro (by first | omega | (intros; simp_all; done) | (intros; simp_all; omega)) ?_)))))
              (refine WV_cond rfl (fun h => ?_) (fun h => ?_))
              · have h : L = 1440 := by simpa using h
                (repeat ((first | refine WV_seq_ ?_ | refine WV_block ?_ | refine WV_ops ?_ | refine WV_skip ?_ | refine WV_exit ?_); (try simp only [go_sem, init_env', Nat.reduceEqDiff, Nat.reduceAdd, Nat.reduceMul, reduceIte, Nat.reduceLeDiff, Nat.reduceLT, Nat.reduceBEq, reduceCtorEq, hP, beq_self_eq_true]); (repeat (refine And.intro (by first | omega | (intros; simp_all; done) | (intros; simp_all; omega)) ?_))))
                (refine AG_pure (fun hG => works14) rfl (fun hG => by simp only [go_sem, init_env', Nat.reduceEqDiff, Nat.reduceAdd, Nat.reduceMul, reduceIte, Nat.reduceLeDiff, Nat.reduceLT, Nat.reduceBEq, reduceCtorEq, hG]) rfl rfl rfl ?_; simp only [go_sem, init_env', Nat.reduceEqDiff, Nat.reduceAdd, Nat.reduceMul, reduceIte, Nat.reduceLeDiff, Nat.reduceLT, Nat.reduceBEq, reduceCtorEq, hP, ]; (repeat (refine And.intro (by first | omega | (intros; simp_all; done) | (intros; simp_all; omega)) ?_)); (repeat ((first | refine WV_seq_ ?_ | refine WV_block ?_ | refine WV_ops ?_ | refine WV_skip ?_ | refine WV_exit ?_); (try simp only [go_sem, init_env', Nat.reduceEqDiff, Nat.reduceAdd, Nat.reduceMul, reduceIte, Nat.reduceLeDiff, Nat.reduceLT, Nat.reduceBEq, reduceCtorEq, hP, ]); (repeat (refine And.intro (by first | omega | (intros; simp_all; done) | (intros; simp_all; omega)) ?_)))))
                (refine WV_ret ?_; simp only [thenQ, inQ, RetQ, RetOk, resAll, resA]; simp only [go_sem, init_env', Nat.reduceEqDiff, Nat.reduceAdd, Nat.reduceMul, reduceIte, Nat.reduceLeDiff, Nat.reduceLT, Nat.reduceBEq, reduceCtorEq, tupA, AV.port, AV.portL, exists_eq_left', ]; (first | exact AVle.of rfl | refine AVle.of ?_ | skip))
              · have h : L ≠ 1440 := by simpa using h
                have hw := w64 (n := L + 1) (by omega) (by omega)
                have hw2 := way18 (setS r (L + 1))
                have he2 := herr (L + 1) (by omega)
                rw [if_neg (by omega)] at he2
                rw [way_err (by rw [he2]; decide), he2] at hw2
                (repeat ((first | refine WV_seq_ ?_ | refine WV_block ?_ | refine WV_ops ?_ | refine WV_skip ?_ | refine WV_exit ?_); (try simp only [go_sem, init_env', Nat.reduceEqDiff, Nat.reduceAdd, Nat.reduceMul, reduceIte, Nat.reduceLeDiff, Nat.reduceLT, Nat.reduceBEq, reduceCtorEq, hP, hw]); (repeat (refine And.intro (by first | omega | (intros; simp_all; done) | (intros; simp_all; omega)) ?_))))
                (refine AS_pure (hw2) rfl rfl rfl rfl rfl ?_; simp only [go_sem, init_env', Nat.reduceEqDiff, Nat.reduceAdd, Nat.reduceMul, reduceIte, Nat.reduceLeDiff, Nat.reduceLT, Nat.reduceBEq, reduceCtorEq, hP, Route.av, setS, beq_self_eq_true]; (repeat (refine And.intro (by first | omega | (intros; simp_all; done) | (intros; simp_all; omega)) ?_)); (repeat ((first | refine WV_seq_ ?_ | refine WV_block ?_ | refine WV_ops ?_ | refine WV_skip ?_ | refine WV_exit ?_); (try simp only [go_sem, init_env', Nat.reduceEqDiff, Nat.reduceAdd, Nat.reduceMul, reduceIte, Nat.reduceLeDiff, Nat.reduceLT, Nat.reduceBEq, reduceCtorEq, hP, Route.av, setS, beq_self_eq_true]); (repeat (refine And.intro (by first | omega | (intros; simp_all; done) | (intros; simp_all; omega)) ?_)))))
                (refine AG_pure (fun hG => works14) rfl (fun hG => by simp only [go_sem, init_env', Nat.reduceEqDiff, Nat.reduceAdd, Nat.reduceMul, reduceIte, Nat.reduceLeDiff, Nat.reduceLT, Nat.reduceBEq, reduceCtorEq, hG]) rfl rfl rfl ?_; simp only [go_sem, init_env', Nat.reduceEqDiff, Nat.reduceAdd, Nat.reduceMul, reduceIte, Nat.reduceLeDiff, Nat.reduceLT, Nat.reduceBEq, reduceCtorEq, hP, ]; (repeat (refine And.intro (by first | omega | (intros; simp_all; done) | (intros; simp_all; omega)) ?_)); (repeat ((first | refine WV_seq_ ?_ | refine WV_block ?_ | refine WV_ops ?_ | refine WV_skip ?_ | refine WV_exit ?_); (try simp only [go_sem, init_env', Nat.reduceEqDiff, Nat.reduceAdd, Nat.reduceMul, reduceIte, Nat.reduceLeDiff, Nat.reduceLT, Nat.reduceBEq, reduceCtorEq, hP, ]); (repeat (refine And.intro (by first | omega | (intros; simp_all; done) | (intros; simp_all; omega)) ?_)))))
                (refine WV_ret ?_; simp only [thenQ, inQ, RetQ, RetOk, resAll, resA]; simp only [go_sem, init_env', Nat.reduceEqDiff, Nat.reduceAdd, Nat.reduceMul, reduceIte, Nat.reduceLeDiff, Nat.reduceLT, Nat.reduceBEq, reduceCtorEq, tupA, AV.port, AV.portL, exists_eq_left', ]; (first | exact AVle.of rfl | refine AVle.of ?_ | skip))
      · rw [if_neg hsL] at he1
        rw [way_err (by rw [he1]; decide), he1] at hw1
        have hdl : decide (s ≤ L) = false := by simpa using hsL
        (repeat ((first | refine WV_seq_ ?_ | refine WV_block ?_ | refine WV_ops ?_ | refine WV_skip ?_ | refine WV_exit ?_); (try simp only [go_sem, init_env', Nat.reduceEqDiff, Nat.reduceAdd, Nat.reduceMul, reduceIte, Nat.reduceLeDiff, Nat.reduceLT, Nat.reduceBEq, reduceCtorEq, hP, ]); (repeat (refine And.intro (by first | omega | (intros; simp_all; done) | (intros; simp_all; omega)) ?_))))
        (refine AS_pure (hl) rfl rfl rfl rfl rfl ?_; simp only [go_sem, init_env', Nat.reduceEqDiff, Nat.reduceAdd, Nat.reduceMul, reduceIte, Nat.reduceLeDiff, Nat.reduceLT, Nat.reduceBEq, reduceCtorEq, hP, Route.av]; (repeat (refine And.intro (by first | omega | (intros; simp_all; done) | (intros; simp_all; omega)) ?_)); (repeat ((first | refine WV_seq_ ?_ | refine WV_block ?_ | refine WV_ops ?_ | refine WV_skip ?_ | refine WV_exit ?_); (try simp only [go_sem, init_env', Nat.reduceEqDiff, Nat.reduceAdd, Nat.reduceMul, reduceIte, Nat.reduceLeDiff, Nat.reduceLT, Nat.reduceBEq, reduceCtorEq, hP, Route.av]); (repeat (refine And.intro (by first | omega | (intros; simp_all; done) | (intros; simp_all; omega)) ?_)))))
        (refine AS_pure (known16 0) rfl rfl rfl rfl rfl ?_; simp only [go_sem, init_env', Nat.reduceEqDiff, Nat.reduceAdd, Nat.reduceMul, reduceIte, Nat.reduceLeDiff, Nat.reduceLT, Nat.reduceBEq, reduceCtorEq, hP, knownS]; (repeat (refine And.intro (by first | omega | (intros; simp_all; done) | (intros; simp_all; omega)) ?_)); (repeat ((first | refine WV_seq_ ?_ | refine WV_block ?_ | refine WV_ops ?_ | refine WV_skip ?_ | refine WV_exit ?_); (try simp only [go_sem, init_env', Nat.reduceEqDiff, Nat.reduceAdd, Nat.reduceMul, reduceIte, Nat.reduceLeDiff, Nat.reduceLT, Nat.reduceBEq, reduceCtorEq, hP, knownS]); (repeat (refine And.intro (by first | omega | (intros; simp_all; done) | (intros; simp_all; omega)) ?_)))))
        (refine WV_cond rfl (fun h => ?_) (fun h => ?_))
        · simp [knownS] at h; omega
        · clear h
          (repeat ((first | refine WV_seq_ ?_ | refine WV_block ?_ | refine WV_ops ?_ | refine WV_skip ?_ | refine WV_exit ?_); (try simp only [go_sem, init_env', Nat.reduceEqDiff, Nat.reduceAdd, Nat.reduceMul, reduceIte, Nat.reduceLeDiff, Nat.reduceLT, Nat.reduceBEq, reduceCtorEq, hP, ]); (repeat (refine And.intro (by first | omega | (intros; simp_all; done) | (intros; simp_all; omega)) ?_))))
          (refine AS_pure (copy17 r hnear) rfl rfl rfl rfl rfl ?_; simp only [go_sem, init_env', Nat.reduceEqDiff, Nat.reduceAdd, Nat.reduceMul, reduceIte, Nat.reduceLeDiff, Nat.reduceLT, Nat.reduceBEq, reduceCtorEq, hP, Route.av]; (repeat (refine And.intro (by first | omega | (intros; simp_all; done) | (intros; simp_all; omega)) ?_)); (repeat ((first | refine WV_seq_ ?_ | refine WV_block ?_ | refine WV_ops ?_ | refine WV_skip ?_ | refine WV_exit ?_); (try simp only [go_sem, init_env', Nat.reduceEqDiff, Nat.reduceAdd, Nat.reduceMul, reduceIte, Nat.reduceLeDiff, Nat.reduceLT, Nat.reduceBEq, reduceCtorEq, hP, Route.av]); (repeat (refine And.intro (by first | omega | (intros; simp_all; done) | (intros; simp_all; omega)) ?_)))))
          (refine AS_pure (hw1) rfl rfl rfl rfl rfl ?_; simp only [go_sem, init_env', Nat.reduceEqDiff, Nat.reduceAdd, Nat.reduceMul, reduceIte, Nat.reduceLeDiff, Nat.reduceLT, Nat.reduceBEq, reduceCtorEq, hP, Route.av, setS]; (repeat (refine And.intro (by first | omega | (intros; simp_all; done) | (intros; simp_all; omega)) ?_)); (repeat ((first | refine WV_seq_ ?_ | refine WV_block ?_ | refine WV_ops ?_ | refine WV_skip ?_ | refine WV_exit ?_); (try simp only [go_sem, init_env', Nat.reduceEqDiff, Nat.reduceAdd, Nat.reduceMul, reduceIte, Nat.reduceLeDiff, Nat.reduceLT, Nat.reduceBEq, reduceCtorEq, hP, Route.av, setS]); (repeat (refine And.intro (by first | omega | (intros; simp_all; done) | (intros; simp_all; omega)) ?_)))))
          (refine AS_pure (known16 3) rfl rfl rfl rfl rfl ?_; simp only [go_sem, init_env', Nat.reduceEqDiff, Nat.reduceAdd, Nat.reduceMul, reduceIte, Nat.reduceLeDiff, Nat.reduceLT, Nat.reduceBEq, reduceCtorEq, hP, knownS, hdl]; (repeat (refine And.intro (by first | omega | (intros; simp_all; done) | (intros; simp_all; omega)) ?_)); (repeat ((first | refine WV_seq_ ?_ | refine WV_block ?_ | refine WV_ops ?_ | refine WV_skip ?_ | refine WV_exit ?_); (try simp only [go_sem, init_env', Nat.reduceEqDiff, Nat.reduceAdd, Nat.reduceMul, reduceIte, Nat.reduceLeDiff, Nat.reduceLT, Nat.reduceBEq, reduceCtorEq, hP, knownS, hdl]); (repeat (refine And.intro (by first | omega | (intros; simp_all; done) | (intros; simp_all; omega)) ?_)))))
          (refine WV_cond rfl (fun h => ?_) (fun h => ?_))
          · simp [knownS] at h
          · clear h
            (repeat ((first | refine WV_seq_ ?_ | refine WV_block ?_ | refine WV_ops ?_ | refine WV_skip ?_ | refine WV_exit ?_); (try simp only [go_sem, init_env', Nat.reduceEqDiff, Nat.reduceAdd, Nat.reduceMul, reduceIte, Nat.reduceLeDiff, Nat.reduceLT, Nat.reduceBEq, reduceCtorEq, hP, ]); (repeat (refine And.intro (by first | omega | (intros; simp_all; done) | (intros; simp_all; omega)) ?_))))
            (refine WV_cond rfl (fun h => ?_) (fun h => ?_))
            · simp at h
            · clear h
              (repeat ((first | refine WV_seq_ ?_ | refine WV_block ?_ | refine WV_ops ?_ | refine WV_skip ?_ | refine WV_exit ?_); (try simp only [go_sem, init_env', Nat.reduceEqDiff, Nat.reduceAdd, Nat.reduceMul, reduceIte, Nat.reduceLeDiff, Nat.reduceLT, Nat.reduceBEq, reduceCtorEq, hP, ]); (repeat (refine And.intro (by first | omega | (intros; simp_all; done) | (intros; simp_all; omega)) ?_))))
              (refine AS_pure (hwL) rfl rfl rfl rfl rfl ?_; simp only [go_sem, init_env', Nat.reduceEqDiff, Nat.reduceAdd, Nat.reduceMul, reduceIte, Nat.reduceLeDiff, Nat.reduceLT, Nat.reduceBEq, reduceCtorEq, hP, Route.av, setS]; (repeat (refine And.intro (by first | omega | (intros; simp_all; done) | (intros; simp_all; omega)) ?_)); (repeat ((first | refine WV_seq_ ?_ | refine WV_block ?_ | refine WV_ops ?_ | refine WV_skip ?_ | refine WV_exit ?_); (try simp only [go_sem, init_env', Nat.reduceEqDiff, Nat.reduceAdd, Nat.reduceMul, reduceIte, Nat.reduceLeDiff, Nat.reduceLT, Nat.reduceBEq, reduceCtorEq, hP, Route.av, setS]); (repeat (refine And.intro (by first | omega | (intros; simp_all; done) | (intros; simp_all; omega)) ?_)))))
              (refine WV_cond rfl (fun h => ?_) (fun h => ?_))
              · have h : L = 1440 := by simpa using h
                (repeat ((first | refine WV_seq_ ?_ | refine WV_block ?_ | refine WV_ops ?_ | refine WV_skip ?_ | refine WV_exit ?_); (try simp only [go_sem, init_env', Nat.reduceEqDiff, Nat.reduceAdd, Nat.reduceMul, reduceIte, Nat.reduceLeDiff, Nat.reduceLT, Nat.reduceBEq, reduceCtorEq, hP, beq_self_eq_true]); (repeat (refine And.intro (by first | omega | (intros; simp_all; done) | (intros; simp_all; omega)) ?_))))
                (refine AG_pure (fun hG => works14) rfl (fun hG => by simp only [go_sem, init_env', Nat.reduceEqDiff, Nat.reduceAdd, Nat.reduceMul, reduceIte, Nat.reduceLeDiff, Nat.reduceLT, Nat.reduceBEq, reduceCtorEq, hG]) rfl rfl rfl ?_; simp only [go_sem, init_env', Nat.reduceEqDiff, Nat.reduceAdd, Nat.reduceMul, reduceIte, Nat.reduceLeDiff, Nat.reduceLT, Nat.reduceBEq, reduceCtorEq, hP, ]; (repeat (refine And.intro (by first | omega | (intros; simp_all; done) | (intros; simp_all; omega)) ?_)); (repeat ((first | refine WV_seq_ ?_ | refine WV_block ?_ | refine WV_ops ?_ | refine WV_skip ?_ | refine WV_exit ?_); (try simp only [go_sem, init_env', Nat.reduceEqDiff, Nat.reduceAdd, Nat.reduceMul, reduceIte, Nat.reduceLeDiff, Nat.reduceLT, Nat.reduceBEq, reduceCtorEq, hP, ]); (repeat (refine And.intro (by first | omega | (intros; simp_all; done) | (intros; simp_all; omega)) ?_)))))
                (refine WV_ret ?_; simp only [thenQ, inQ, RetQ, RetOk, resAll, resA]; simp only [go_sem, init_env', Nat.reduceEqDiff, Nat.reduceAdd, Nat.reduceMul, reduceIte, Nat.reduceLeDiff, Nat.reduceLT, Nat.reduceBEq, reduceCtorEq, tupA, AV.port, AV.portL, exists_eq_left', ]; (first | exact AVle.of rfl | refine AVle.of ?_ | skip))
              · have h : L ≠ 1440 := by simpa using h
                have hw := w64 (n := L + 1) (by omega) (by omega)
                have hw2 := way18 (setS r (L + 1))
                have he2 := herr (L + 1) (by omega)
                rw [if_neg (by omega)] at he2
                rw [way_err (by rw [he2]; decide), he2] at hw2
                (repeat ((first | refine WV_seq_ ?_ | refine WV_block ?_ | refine WV_ops ?_ | refine WV_skip ?_ | refine WV_exit ?_); (try simp only [go_sem, init_env', Nat.reduceEqDiff, Nat.reduceAdd, Nat.reduceMul, reduceIte, Nat.reduceLeDiff, Nat.reduceLT, Nat.reduceBEq, reduceCtorEq, hP, hw]); (repeat (refine And.intro (by first | omega | (intros; simp_all; done) | (intros; simp_all; omega)) ?_))))
                (refine AS_pure (hw2) rfl rfl rfl rfl rfl ?_; simp only [go_sem, init_env', Nat.reduceEqDiff, Nat.reduceAdd, Nat.reduceMul, reduceIte, Nat.reduceLeDiff, Nat.reduceLT, Nat.reduceBEq, reduceCtorEq, hP, Route.av, setS, beq_self_eq_true]; (repeat (refine And.intro (by first | omega | (intros; simp_all; done) | (intros; simp_all; omega)) ?_)); (repeat ((first | refine WV_seq_ ?_ | refine WV_block ?_ | refine WV_ops ?_ | refine WV_skip ?_ | refine WV_exit ?_); (try simp only [go_sem, init_env', Nat.reduceEqDiff, Nat.reduceAdd, Nat.reduceMul, reduceIte, Nat.reduceLeDiff, Nat.reduceLT, Nat.reduceBEq, reduceCtorEq, hP, Route.av, setS, beq_self_eq_true]); (repeat (refine And.intro (by first | omega | (intros; simp_all; done) | (intros; simp_all; omega)) ?_)))))
                (refine AG_pure (fun hG => works14) rfl (fun hG => by simp only [go_sem, init_env', Nat.reduceEqDiff, Nat.reduceAdd, Nat.reduceMul, reduceIte, Nat.reduceLeDiff, Nat.reduceLT, Nat.reduceBEq, reduceCtorEq, hG]) rfl rfl rfl ?_; simp only [go_sem, init_env', Nat.reduceEqDiff, Nat.reduceAdd, Nat.reduceMul, reduceIte, Nat.reduceLeDiff, Nat.reduceLT, Nat.reduceBEq, reduceCtorEq, hP, ]; (repeat (refine And.intro (by first | omega | (intros; simp_all; done) | (intros; simp_all; omega)) ?_)); (repeat ((first | refine WV_seq_ ?_ | refine WV_block ?_ | refine WV_ops ?_ | refine WV_skip ?_ | refine WV_exit ?_); (try simp only [go_sem, init_env', Nat.reduceEqDiff, Nat.reduceAdd, Nat.reduceMul, reduceIte, Nat.reduceLeDiff, Nat.reduceLT, Nat.reduceBEq, reduceCtorEq, hP, ]); (repeat (refine And.intro (by first | omega | (intros; simp_all; done) | (intros; simp_all; omega)) ?_)))))
                (refine WV_ret ?_; simp only [thenQ, inQ, RetQ, RetOk, resAll, resA]; simp only [go_sem, init_env', Nat.reduceEqDiff, Nat.reduceAdd, Nat.reduceMul, reduceIte, Nat.reduceLeDiff, Nat.reduceLT, Nat.reduceBEq, reduceCtorEq, tupA, AV.port, AV.portL, exists_eq_left', ]; (first | exact AVle.of rfl | refine AVle.of ?_ | skip))
end Go.Proofs.Ytbejgfpaokcnpaa

namespace Go.Proofs.Ytbejgfpaokcnpaa
open Go Go.V
@[reducible] def o42_0 : List Ins := [⟨(some 1), .box 3 (.t 0), none, true⟩,
  ⟨(some 2), .mv (.k (.c (.raw (.slice none 0 0)))), none, true⟩,
  ⟨(some 3), .mv (.k (.c (.int .i64 0))), none, true⟩]
@[reducible] def o42_1 : List Ins := [⟨(some 9), .ld false 3 (.t 1), none, true⟩,
  ⟨(some 10), .call (.k (.fn 26 [])) [(.t 9)], none, true⟩,
  ⟨(some 4), .mv (.t 10), none, true⟩]
@[reducible] def o42_2 : List Ins := [⟨(some 11), .mv (.t 4), none, true⟩,
  ⟨(some 12), .bin .neq (.t 11) (.k (.c (.int .i64 0))), none, true⟩]
@[reducible] def o42_3 : List Ins := [⟨(some 13), .mv (.t 4), none, true⟩,
  ⟨(some 2), .mv (.k (.c (.raw (.slice none 0 0)))), none, true⟩,
  ⟨(some 3), .mv (.t 13), none, true⟩]
@[reducible] def v42_4 : VC := (.seq (.ops o42_3) .ret)
@[reducible] def v42_5 : VC := (.cond (.t 12) v42_4 .skip)
@[reducible] def v42_6 : VC := (.seq (.ops o42_2) v42_5)
@[reducible] def o42_7 : List Ins := [⟨(some 5), .alloc [(.c (.bool false)), (.c (.bool false)), (.c (.bool false)), (.c (.bool false)), (.c (.bool false)), (.c (.bool false)), (.c (.bool false))], none, true⟩]
@[reducible] def o42_8 : List Ins := [⟨(some 14), .call (.k (.fn 66 [])) [(.t 1)], none, true⟩]
@[reducible] def o42_9 : List Ins := [⟨(some 17), .mv (.t 6), none, true⟩,
  ⟨(some 18), .len (.t 17), none, true⟩,
  ⟨(some 19), .bin .gtr (.t 18) (.k (.c (.int .i64 0))), none, true⟩]
@[reducible] def o42_10 : List Ins := [⟨(some 20), .mv (.t 6), none, true⟩,
  ⟨(some 21), .mv (.t 6), none, true⟩,
  ⟨(some 22), .len (.t 21), none, true⟩,
  ⟨(some 23), .bin .sub (.t 22) (.k (.c (.int .i64 1))), none, true⟩,
  ⟨(some 24), .ia 1 (.t 20) (.t 23), none, true⟩,
  ⟨(some 25), .ld true 1 (.t 24), none, true⟩,
  ⟨(some 26), .iap 7 1 (.t 5) (.t 25), none, true⟩,
  ⟨none, .st 1 (.t 26) (.k (.c (.bool true))), none, true⟩]
@[reducible] def v42_11 : VC := (.cond (.t 19) (.ops o42_10) .skip)
@[reducible] def v42_12 : VC := (.seq (.ops o42_9) v42_11)
@[reducible] def v42_13 : VC := (.block 1 v42_12)
@[reducible] def o42_14 : List Ins := [⟨(some 6), .mv (.t 15), none, true⟩]
@[reducible] def K42_1 : List Nat := [1, 5, 14]
@[reducible] def v42_15 : VC := (.rng (.t 14) [15, 16] (.ops o42_14) v42_13)
@[reducible] def v42_16 : VC := (.block 0 v42_15)
@[reducible] def o42_17 : List Ins := [⟨(some 7), .mv (.k (.c (.raw (.slice none 0 0)))), none, true⟩]
@[reducible] def o42_18 : List Ins := [⟨(some 27), .fa 0 (.t 1), none, true⟩,
  ⟨(some 28), .ld true 1 (.t 27), none, true⟩,
  ⟨(some 29), .len (.t 28), none, true⟩,
  ⟨(some 30), .mv (.k (.c (.int .i64 0))), none, true⟩]
@[reducible] def o42_19 : List Ins := [⟨(some 31), .bin .lss (.t 30) (.t 29), none, true⟩]
@[reducible] def o42_20 : List Ins := [⟨(some 32), .mv (.t 30), none, true⟩,
  ⟨(some 8), .mv (.t 32), none, true⟩]
@[reducible] def o42_21 : List Ins := [⟨(some 33), .mv (.t 8), none, true⟩,
  ⟨(some 34), .iap 7 1 (.t 5) (.t 33), none, true⟩,
  ⟨(some 35), .ld true 1 (.t 34), none, true⟩,
  ⟨(some 36), .un .not (.t 35), none, true⟩]
@[reducible] def o42_22 : List Ins := [⟨(some 37), .mv (.t 7), none, true⟩,
  ⟨(some 38), .mv (.t 8), none, true⟩,
  ⟨(some 39), .bsl 3 1 [(.t 38)], none, true⟩,
  ⟨(some 40), .app 3 1 8 (.t 37) (.t 39), none, true⟩,
  ⟨(some 7), .mv (.t 40), none, true⟩]
@[reducible] def v42_23 : VC := (.cond (.t 36) (.ops o42_22) .skip)
@[reducible] def v42_24 : VC := (.seq (.ops o42_21) v42_23)
@[reducible] def v42_25 : VC := (.seq (.ops o42_20) v42_24)
@[reducible] def o42_26 : List Ins := [⟨(some 41), .bin .add (.t 30) (.k (.c (.int .i64 1))), none, true⟩,
  ⟨(some 30), .mv (.t 41), none, true⟩]
@[reducible] def v42_27 : VC := (.seq (.block 3 v42_25) (.ops o42_26))
@[reducible] def v42_28 : VC := (.seq (.cond (.t 31) .skip (.exit 2)) v42_27)
@[reducible] def v42_29 : VC := (.seq (.ops o42_19) v42_28)
-- K42_2: changed and kept: [30, 7]
@[reducible] def K42_2 : List Nat := [5, 29]
@[reducible] def v42_30 : VC := (.loop v42_29)
@[reducible] def v42_31 : VC := (.block 2 v42_30)
@[reducible] def o42_32 : List Ins := [⟨(some 42), .mv (.t 7), none, true⟩,
  ⟨(some 2), .mv (.t 42), none, true⟩,
  ⟨(some 3), .mv (.k (.c (.int .i64 0))), none, true⟩]
@[reducible] def v42_33 : VC := (.seq (.ops o42_32) .ret)
@[reducible] def v42_34 : VC := (.seq (.seq (.ops o42_18) v42_31) v42_33)
@[reducible] def v42_35 : VC := (.seq (.ops o42_17) v42_34)
@[reducible] def v42_36 : VC := (.seq (.seq (.ops o42_8) v42_16) v42_35)
@[reducible] def v42_37 : VC := (.seq (.ops o42_7) v42_36)
@[reducible] def v42_38 : VC := (.seq (.seq (.ops o42_1) v42_6) v42_37)
def ir42 : FC := ⟨1, 43, [.t 2, .t 3], (.seq (.ops o42_0) v42_38)⟩
theorem c42 : compM Try.prog [] 42 = some ir42 := by kernel_rfl



theorem seenC_pure (l : List Int) : AV.pureL (seenC l) = true := rfl
theorem seenC_solid (l : List Int) : AV.isSolidL (seenC l) = true := rfl
/-- The last stops of tours. -/
def lasts (l : List (List Nat × Van)) : List Int := l.filterMap fun p => p.1.getLast?.map fun (k : Nat) => (k : Int)
theorem lasts_snoc (l : List (List Nat × Van)) (p : List Nat × Van) : lasts (l ++ [p]) = lasts l ++ (p.1.getLast?.map fun (k : Nat) => (k : Int)).toList := by
  unfold lasts
  rw [List.filterMap_append]
  cases h : p.1.getLast? <;> simp [h]
/-- The stops up to k that are none of these. -/
def shutL (s : List Int) (k : Nat) : List Int := ((List.range k).map fun (n : Nat) => (n : Int)).filter fun n => !decide (n ∈ s)
theorem shutL_succ (s : List Int) (k : Nat) : shutL s (k + 1) = shutL s k ++ (if (k : Int) ∈ s then [] else [(k : Int)]) := by
  unfold shutL
  rw [List.range_succ, List.map_append, List.filter_append]
  by_cases h : (k : Int) ∈ s <;> simp [h]
theorem shutL_len (s : List Int) (k : Nat) : (shutL s k).length ≤ k := by
  unfold shutL
  exact Nat.le_trans (List.length_filter_le _ _) (by simp)
def shutS (r : Route) : List Int × Int := if r.ok then (shutL (lasts (goods r)) r.n, 0) else ([], 80)

set_option maxHeartbeats 4000000 in
theorem shut42 (r : Route) : FSpec Try.prog 42 [r.av] (.tup [.c (ints (shutS r).1), iv (shutS r).2]) := by
  refine FSpec_of c42 (Nat.le_refl _) (by decide) fun C hP hN hC hL => ?_
  simp only [ir42, Route.av]
  (repeat ((first | refine WV_seq_ ?_ | refine WV_block ?_ | refine WV_ops ?_ | refine WV_skip ?_ | refine WV_exit ?_); (try simp only [go_sem, init_env', Nat.reduceEqDiff, Nat.reduceAdd, Nat.reduceMul, reduceIte, Nat.reduceLeDiff, Nat.reduceLT, Nat.reduceBEq, reduceCtorEq, hP, ]); (repeat (refine And.intro (by first | omega | (intros; simp_all; done) | (intros; simp_all; omega)) ?_))))
  (refine AS_pure (rcheck_spec r) rfl rfl rfl rfl rfl ?_; simp only [go_sem, init_env', Nat.reduceEqDiff, Nat.reduceAdd, Nat.reduceMul, reduceIte, Nat.reduceLeDiff, Nat.reduceLT, Nat.reduceBEq, reduceCtorEq, hP, Route.av]; (repeat (refine And.intro (by first | omega | (intros; simp_all; done) | (intros; simp_all; omega)) ?_)); (repeat ((first | refine WV_seq_ ?_ | refine WV_block ?_ | refine WV_ops ?_ | refine WV_skip ?_ | refine WV_exit ?_); (try simp only [go_sem, init_env', Nat.reduceEqDiff, Nat.reduceAdd, Nat.reduceMul, reduceIte, Nat.reduceLeDiff, Nat.reduceLT, Nat.reduceBEq, reduceCtorEq, hP, Route.av]); (repeat (refine And.intro (by first | omega | (intros; simp_all; done) | (intros; simp_all; omega)) ?_)))))
  by_cases hok : r.ok = true
  · have hr := Route.ok_spec hok
    have hn7 := hr.n7
    simp only [hok, if_true]
    (refine WV_cond rfl (fun h => ?_) (fun h => ?_))
    · simp at h
    · clear h
      have hsl : (r.stops.length : Int) = (r.n : Int) := rfl
      refine WV_freeze 1 (ds := r.cds) rfl rfl ?_
      (repeat ((first | refine WV_seq_ ?_ | refine WV_block ?_ | refine WV_ops ?_ | refine WV_skip ?_ | refine WV_exit ?_); (try simp only [go_sem, init_env', Nat.reduceEqDiff, Nat.reduceAdd, Nat.reduceMul, reduceIte, Nat.reduceLeDiff, Nat.reduceLT, Nat.reduceBEq, reduceCtorEq, hP, ]); (repeat (refine And.intro (by first | omega | (intros; simp_all; done) | (intros; simp_all; omega)) ?_))))
      (refine AS_pure (tours66 r) rfl rfl rfl rfl rfl ?_; simp only [go_sem, init_env', Nat.reduceEqDiff, Nat.reduceAdd, Nat.reduceMul, reduceIte, Nat.reduceLeDiff, Nat.reduceLT, Nat.reduceBEq, reduceCtorEq, hP, ]; (repeat (refine And.intro (by first | omega | (intros; simp_all; done) | (intros; simp_all; omega)) ?_)); (repeat ((first | refine WV_seq_ ?_ | refine WV_block ?_ | refine WV_ops ?_ | refine WV_skip ?_ | refine WV_exit ?_); (try simp only [go_sem, init_env', Nat.reduceEqDiff, Nat.reduceAdd, Nat.reduceMul, reduceIte, Nat.reduceLeDiff, Nat.reduceLT, Nat.reduceBEq, reduceCtorEq, hP, ]); (repeat (refine And.intro (by first | omega | (intros; simp_all; done) | (intros; simp_all; omega)) ?_)))))
      refine WV_keep K42_1 ?_
      simp only [go_sem, init_env', Nat.reduceEqDiff, Nat.reduceAdd, Nat.reduceMul, reduceIte, Nat.reduceLeDiff, Nat.reduceLT, Nat.reduceBEq, reduceCtorEq]
      refine WV_rng hC (L := [5]) (l := [.box (seenC (lasts []))]) (env' := lendF [5] _ _) (rem := (goods r).map (entT r)) (Fin := fun pend lf => pend = none ∧ lf = [.box (seenC (lasts (goods r)))]) rfl rfl rfl (by decide) (by decide) ?_ (by rw [hN]; decide) (lendF_ok _ _ _) (fun g' => ?_) ?_ ?_
      · simp only [go_sem, init_env', Nat.reduceEqDiff, Nat.reduceAdd, Nat.reduceMul, reduceIte, Nat.reduceLeDiff, Nat.reduceLT, Nat.reduceBEq, reduceCtorEq, obsLend, Ob.lend, AV.lendL, AV.lend]
        rfl
      · rw [hP]; exact ⟨_, tours74 hr g', fun _ _ h => h⟩
      · refine RunR_pre (entT r) (fun pre => [.box (seenC (lasts pre))]) (goods r) (fun p => rfl) (fun t _ => ⟨rfl, rfl⟩) (fun pre p post hts => ?_) (goods r) [] rfl
        have hpo := goods_ok hr p (by rw [hts]; simp)
        have hple := goods_len hr (p := p) (by rw [hts]; simp)
        have hprg : ∀ d, AV.prgL d (cellsT p.1) = cellsT p.1 := fun d => prgL_pure d (cellsT_pure _)
        simp only [lasts_snoc]
        intro C1 h1 h2 h3
        have hP0 := hP
        replace hP := h1.trans hP0
        rw [ownW_upd (by simp)]
        generalize lasts pre = s
        have hpsg : ∀ d s, AV.prgL d (seenC s) = seenC s := fun d s => prgL_pure d (seenC_pure _)
        simp only [go_sem, init_env', Nat.reduceEqDiff, Nat.reduceAdd, Nat.reduceMul, reduceIte, Nat.reduceLeDiff, Nat.reduceLT, Nat.reduceBEq, reduceCtorEq, lendF_upd, lendF_e0, AV.lend, AV.lendL, Option.getD_some, Option.getD_none, List.zip_cons_cons, List.zip_nil_right, updLo, entT, vanv]
        (repeat ((first | refine WV_seq_ ?_ | refine WV_block ?_ | refine WV_ops ?_ | refine WV_skip ?_ | refine WV_exit ?_); (try simp only [go_sem, init_env', Nat.reduceEqDiff, Nat.reduceAdd, Nat.reduceMul, reduceIte, Nat.reduceLeDiff, Nat.reduceLT, Nat.reduceBEq, reduceCtorEq, hP, hpsg]); (repeat (refine And.intro (by first | omega | (intros; simp_all; done) | (intros; simp_all; omega)) ?_))))
        intro C2 h1 h2 h3
        replace hP := h1.trans hP0
        (repeat ((first | refine WV_seq_ ?_ | refine WV_block ?_ | refine WV_ops ?_ | refine WV_skip ?_ | refine WV_exit ?_); (try simp only [go_sem, init_env', Nat.reduceEqDiff, Nat.reduceAdd, Nat.reduceMul, reduceIte, Nat.reduceLeDiff, Nat.reduceLT, Nat.reduceBEq, reduceCtorEq, hP, hprg, hpsg]); (repeat (refine And.intro (by first | omega | (intros; simp_all; done) | (intros; simp_all; omega)) ?_))))
        (refine WV_cond rfl (fun h => ?_) (fun h => ?_))
        · have h : 0 < p.1.length := by simpa using h
          obtain ⟨m, hm⟩ : ∃ m, p.1.length = m + 1 := ⟨p.1.length - 1, by omega⟩
          have hml : m < p.1.length := by omega
          have hkk := hpo.2.1 _ (List.getElem_mem hml)
          have hm7 : p.1[m] < 7 := by omega
          have hla : p.1.getLast? = some p.1[m] := by rw [List.getLast?_eq_getElem?, hm, Nat.add_sub_cancel, List.getElem?_eq_getElem]
          have hw := w64 (n := ((m + 1 : Nat) : Int) - 1) (by omega) (by omega)
          have ew : ((m + 1 : Nat) : Int) - 1 = (m : Int) := by omega
          rw [ew] at hw
          rw [hla]
          simp only [Option.map_some, Option.toList_some]
          (repeat ((first | refine WV_seq_ ?_ | refine WV_block ?_ | refine WV_ops ?_ | refine WV_skip ?_ | refine WV_exit ?_); (try simp only [go_sem, init_env', Nat.reduceEqDiff, Nat.reduceAdd, Nat.reduceMul, reduceIte, Nat.reduceLeDiff, Nat.reduceLT, Nat.reduceBEq, reduceCtorEq, hP, hprg, hpsg, hm, ew, hw, cellsT_len, cellsT_getD hml, Int.toNat_natCast, Nat.mul_one, Int.natCast_nonneg, seenC_len, seenC_set _ hm7]); (repeat (refine And.intro (by first | omega | (intros; simp_all; done) | (intros; simp_all; omega)) ?_))))
          refine ⟨none, _, rfl, ?_, rfl, rfl⟩
          refine KeepL_mk rfl rfl ?_ ?_ rfl
          · simp only [go_sem, init_env', Nat.reduceEqDiff, Nat.reduceAdd, Nat.reduceMul, reduceIte, Nat.reduceLeDiff, Nat.reduceLT, Nat.reduceBEq, reduceCtorEq, keepAll, Ob.keepP, keepPL_pure (seenC_pure _) (seenC_solid _)]
          · simp only [go_sem, init_env', Nat.reduceEqDiff, Nat.reduceAdd, Nat.reduceMul, reduceIte, Nat.reduceLeDiff, Nat.reduceLT, Nat.reduceBEq, reduceCtorEq, winAll]
        · have h : p.1 = [] := by simpa using h
          rw [h]
          simp only [List.getLast?_nil, Option.map_none, Option.toList_none, List.append_nil]
          (repeat ((first | refine WV_seq_ ?_ | refine WV_block ?_ | refine WV_ops ?_ | refine WV_skip ?_ | refine WV_exit ?_); (try simp only [go_sem, init_env', Nat.reduceEqDiff, Nat.reduceAdd, Nat.reduceMul, reduceIte, Nat.reduceLeDiff, Nat.reduceLT, Nat.reduceBEq, reduceCtorEq, hP, ]); (repeat (refine And.intro (by first | omega | (intros; simp_all; done) | (intros; simp_all; omega)) ?_))))
          refine ⟨none, _, rfl, ?_, rfl, rfl⟩
          refine KeepL_mk rfl rfl ?_ ?_ rfl
          · simp only [go_sem, init_env', Nat.reduceEqDiff, Nat.reduceAdd, Nat.reduceMul, reduceIte, Nat.reduceLeDiff, Nat.reduceLT, Nat.reduceBEq, reduceCtorEq, keepAll, Ob.keepP, keepPL_pure (seenC_pure _) (seenC_solid _)]
          · simp only [go_sem, init_env', Nat.reduceEqDiff, Nat.reduceAdd, Nat.reduceMul, reduceIte, Nat.reduceLeDiff, Nat.reduceLT, Nat.reduceBEq, reduceCtorEq, winAll]
      · rintro _ _ ⟨rfl, rfl⟩
        have hbk := backs_pure (L := [5]) (seenC_pure (lasts (goods r)))
        refine ⟨[.box (seenC (lasts (goods r)))], by simp only [obsBack, Ob.back, hbk]; rfl, rfl, ?_⟩
        simp only [go_sem, init_env', Nat.reduceEqDiff, Nat.reduceAdd, Nat.reduceMul, reduceIte, Nat.reduceLeDiff, Nat.reduceLT, Nat.reduceBEq, reduceCtorEq, exitOf, ownBack]
        (repeat ((first | refine WV_seq_ ?_ | refine WV_block ?_ | refine WV_ops ?_ | refine WV_skip ?_ | refine WV_exit ?_); (try simp only [go_sem, init_env', Nat.reduceEqDiff, Nat.reduceAdd, Nat.reduceMul, reduceIte, Nat.reduceLeDiff, Nat.reduceLT, Nat.reduceBEq, reduceCtorEq, hP, Route.cds, stopsC]); (repeat (refine And.intro (by first | omega | (intros; simp_all; done) | (intros; simp_all; omega)) ?_))))
        generalize hs : lasts (goods r) = s
        have hpsg : ∀ d s, AV.prgL d (seenC s) = seenC s := fun d s => prgL_pure d (seenC_pure _)
        refine WV_nilslot 7 40 3 1 (by decide) (by decide) rfl rfl ?_
        simp only [go_sem, init_env', Nat.reduceEqDiff, Nat.reduceAdd, Nat.reduceMul, reduceIte, Nat.reduceLeDiff, Nat.reduceLT, Nat.reduceBEq, reduceCtorEq, hpsg]
        have hmax : maxLen = 9223372036854775807 := rfl
        refine WV_loopK K42_2 [5, 40] (fun k : Nat => k ≤ r.n) (fun k => r.n - k) (fun k => [(30, iv k), (7, .gr 40)]) (fun k => [(5, .box (seenC s)), (40, .grow 3 1 ((shutL s k).map fun n => [.int .i64 n]))]) 0 (Nat.zero_le _) ?_ ?_
        · (refine Sub_of (by simp only [go_sem, init_env', Nat.reduceEqDiff, Nat.reduceAdd, Nat.reduceMul, reduceIte, Nat.reduceLeDiff, Nat.reduceLT, Nat.reduceBEq, reduceCtorEq]; ((repeat' (first | exact EnvLe_e0 _ _ | refine EnvLe_upd ?_ ?_)) <;> ((try simp only [upd_app, e0_app, o0_app, Nat.reduceEqDiff, reduceIte]); first | exact AWk.refl _ _ | exact AWk.int (by omega) | exact AWk.int (by rw [w64 (by omega) (by omega)]; omega) | exact AWk.grow rfl | exact AWk.nil _ | exact AWk.of (by simp)))) (by simp only [go_sem, init_env', Nat.reduceEqDiff, Nat.reduceAdd, Nat.reduceMul, reduceIte, Nat.reduceLeDiff, Nat.reduceLT, Nat.reduceBEq, reduceCtorEq]; ((repeat' (first | exact ObjLe_o0 _ | exact ObjLe.rfl' _ | refine ObjLe_same ?_ | refine ObjLe_upd ?_ ?_ | refine ObjLe_new rfl ?_)) <;> rfl)))
        · intro k hk
          have hsll := shutL_len s k
          simp only [go_sem, init_env', Nat.reduceEqDiff, Nat.reduceAdd, Nat.reduceMul, reduceIte, Nat.reduceLeDiff, Nat.reduceLT, Nat.reduceBEq, reduceCtorEq, hpsg]
          (repeat ((first | refine WV_seq_ ?_ | refine WV_block ?_ | refine WV_ops ?_ | refine WV_skip ?_ | refine WV_exit ?_); (try simp only [go_sem, init_env', Nat.reduceEqDiff, Nat.reduceAdd, Nat.reduceMul, reduceIte, Nat.reduceLeDiff, Nat.reduceLT, Nat.reduceBEq, reduceCtorEq, hP, hpsg]); (repeat (refine And.intro (by first | omega | (intros; simp_all; done) | (intros; simp_all; omega)) ?_))))
          (refine WV_cond rfl (fun h => ?_) (fun h => ?_))
          · have h : k < r.n := by rw [hsl] at h; simpa using h
            have hk7 : k < 7 := by omega
            have hw2 := w64 (n := (k : Int) + 1) (by omega) (by omega)
            (repeat ((first | refine WV_seq_ ?_ | refine WV_block ?_ | refine WV_ops ?_ | refine WV_skip ?_ | refine WV_exit ?_); (try simp only [go_sem, init_env', Nat.reduceEqDiff, Nat.reduceAdd, Nat.reduceMul, reduceIte, Nat.reduceLeDiff, Nat.reduceLT, Nat.reduceBEq, reduceCtorEq, hP, hpsg, Int.toNat_natCast, Nat.mul_one, Int.natCast_nonneg, seenC_len, seenC_get _ hk7, hw2]); (repeat (refine And.intro (by first | omega | (intros; simp_all; done) | (intros; simp_all; omega)) ?_))))
            (refine WV_cond rfl (fun h => ?_) (fun h => ?_))
            · have h : ¬ (k : Int) ∈ s := by simpa using h
              have e := shutL_succ s k
              rw [if_neg h] at e
              (repeat ((first | refine WV_seq_ ?_ | refine WV_block ?_ | refine WV_ops ?_ | refine WV_skip ?_ | refine WV_exit ?_); (try simp only [go_sem, init_env', Nat.reduceEqDiff, Nat.reduceAdd, Nat.reduceMul, reduceIte, Nat.reduceLeDiff, Nat.reduceLT, Nat.reduceBEq, reduceCtorEq, hP, hpsg, hw2]); (repeat (refine And.intro (by first | omega | (intros; simp_all; done) | (intros; simp_all; omega)) ?_))))
              refine ⟨k + 1, by omega, by omega, ?_⟩
              rw [e]
              (refine Sub_of (by simp only [go_sem, init_env', Nat.reduceEqDiff, Nat.reduceAdd, Nat.reduceMul, reduceIte, Nat.reduceLeDiff, Nat.reduceLT, Nat.reduceBEq, reduceCtorEq]; ((repeat' (first | exact EnvLe_e0 _ _ | refine EnvLe_upd ?_ ?_)) <;> ((try simp only [upd_app, e0_app, o0_app, Nat.reduceEqDiff, reduceIte]); first | exact AWk.refl _ _ | exact AWk.int (by omega) | exact AWk.int (by rw [w64 (by omega) (by omega)]; omega) | exact AWk.grow rfl | exact AWk.nil _ | exact AWk.of (by simp)))) (by simp only [go_sem, init_env', Nat.reduceEqDiff, Nat.reduceAdd, Nat.reduceMul, reduceIte, Nat.reduceLeDiff, Nat.reduceLT, Nat.reduceBEq, reduceCtorEq]; ((repeat' (first | exact ObjLe_o0 _ | exact ObjLe.rfl' _ | refine ObjLe_same ?_ | refine ObjLe_upd ?_ ?_ | refine ObjLe_new rfl ?_)) <;> rfl)))
            · have h : (k : Int) ∈ s := by simpa using h
              have e := shutL_succ s k
              rw [if_pos h, List.append_nil] at e
              (repeat ((first | refine WV_seq_ ?_ | refine WV_block ?_ | refine WV_ops ?_ | refine WV_skip ?_ | refine WV_exit ?_); (try simp only [go_sem, init_env', Nat.reduceEqDiff, Nat.reduceAdd, Nat.reduceMul, reduceIte, Nat.reduceLeDiff, Nat.reduceLT, Nat.reduceBEq, reduceCtorEq, hP, hpsg, hw2]); (repeat (refine And.intro (by first | omega | (intros; simp_all; done) | (intros; simp_all; omega)) ?_))))
              refine ⟨k + 1, by omega, by omega, ?_⟩
              rw [e]
              (refine Sub_of (by simp only [go_sem, init_env', Nat.reduceEqDiff, Nat.reduceAdd, Nat.reduceMul, reduceIte, Nat.reduceLeDiff, Nat.reduceLT, Nat.reduceBEq, reduceCtorEq]; ((repeat' (first | exact EnvLe_e0 _ _ | refine EnvLe_upd ?_ ?_)) <;> ((try simp only [upd_app, e0_app, o0_app, Nat.reduceEqDiff, reduceIte]); first | exact AWk.refl _ _ | exact AWk.int (by omega) | exact AWk.int (by rw [w64 (by omega) (by omega)]; omega) | exact AWk.grow rfl | exact AWk.nil _ | exact AWk.of (by simp)))) (by simp only [go_sem, init_env', Nat.reduceEqDiff, Nat.reduceAdd, Nat.reduceMul, reduceIte, Nat.reduceLeDiff, Nat.reduceLT, Nat.reduceBEq, reduceCtorEq]; ((repeat' (first | exact ObjLe_o0 _ | exact ObjLe.rfl' _ | refine ObjLe_same ?_ | refine ObjLe_upd ?_ ?_ | refine ObjLe_new rfl ?_)) <;> rfl)))
          · have h : k = r.n := by rw [hsl] at h; simp at h; omega
            subst h
            (repeat ((first | refine WV_seq_ ?_ | refine WV_block ?_ | refine WV_ops ?_ | refine WV_skip ?_ | refine WV_exit ?_); (try simp only [go_sem, init_env', Nat.reduceEqDiff, Nat.reduceAdd, Nat.reduceMul, reduceIte, Nat.reduceLeDiff, Nat.reduceLT, Nat.reduceBEq, reduceCtorEq, hP, hpsg]); (repeat (refine And.intro (by first | omega | (intros; simp_all; done) | (intros; simp_all; omega)) ?_))))
            (refine WV_ret ?_; simp only [thenQ, inQ, RetQ, RetOk, resAll, resA]; simp only [go_sem, init_env', Nat.reduceEqDiff, Nat.reduceAdd, Nat.reduceMul, reduceIte, Nat.reduceLeDiff, Nat.reduceLT, Nat.reduceBEq, reduceCtorEq, tupA, AV.port, AV.portL, exists_eq_left', ]; (first | exact AVle.of rfl | refine AVle.of ?_ | skip))
            simp [shutS, hok, hs, ints]
  · have hok : r.ok = false := by simpa using hok
    simp only [hok, Bool.false_eq_true, if_false]
    (refine WV_cond rfl (fun h => ?_) (fun h => ?_))
    · (repeat ((first | refine WV_seq_ ?_ | refine WV_block ?_ | refine WV_ops ?_ | refine WV_skip ?_ | refine WV_exit ?_); (try simp only [go_sem, init_env', Nat.reduceEqDiff, Nat.reduceAdd, Nat.reduceMul, reduceIte, Nat.reduceLeDiff, Nat.reduceLT, Nat.reduceBEq, reduceCtorEq, hP, ]); (repeat (refine And.intro (by first | omega | (intros; simp_all; done) | (intros; simp_all; omega)) ?_))))
      (refine WV_ret ?_; simp only [thenQ, inQ, RetQ, RetOk, resAll, resA]; simp only [go_sem, init_env', Nat.reduceEqDiff, Nat.reduceAdd, Nat.reduceMul, reduceIte, Nat.reduceLeDiff, Nat.reduceLT, Nat.reduceBEq, reduceCtorEq, tupA, AV.port, AV.portL, exists_eq_left', ])
      simp only [shutS, hok, Bool.false_eq_true, if_false]
      exact AVle.tup (AVles.cons (AVle.nil 1) (AVles.refl _))
    · simp at h
end Go.Proofs.Ytbejgfpaokcnpaa

namespace Go.Proofs.Ytbejgfpaokcnpaa
open Go Go.V
@[reducible] def o65_0 : List Ins := [⟨(some 4), .box 4 (.t 1), none, true⟩]
@[reducible] def o65_1 : List Ins := [⟨(some 5), .mv (.t 0), none, true⟩,
  ⟨(some 6), .len (.t 5), none, true⟩,
  ⟨(some 7), .bin .gtr (.t 6) (.k (.c (.int .i64 0))), none, true⟩]
@[reducible] def t65_2 : OT := (.cons ⟨(some 9), .mv (.t 0), none, false⟩
  (.br [(.cons ⟨(some 8), .ld true 1 (.t 2), none, false⟩
    (.cons ⟨(some 10), .ia 1 (.t 9) (.k (.c (.int .i64 0))), none, true⟩
    (.cons ⟨(some 11), .ld true 1 (.t 10), none, true⟩
    (.cons ⟨(some 12), .mget .i64 .i64 (.t 8) (.t 11), none, true⟩
    (.cons ⟨(some 13), .bin .add (.t 12) (.k (.c (.int .i64 1))), none, true⟩
    (.cons ⟨none, .mput .i64 .i64 (.t 8) (.t 11) (.t 13), none, true⟩
    .nil)))))), (.cons ⟨(some 10), .ia 1 (.t 9) (.k (.c (.int .i64 0))), none, true⟩
    (.br [(.cons ⟨(some 8), .ld true 1 (.t 2), none, false⟩
      (.cons ⟨(some 11), .ld true 1 (.t 10), none, true⟩
      (.cons ⟨(some 12), .mget .i64 .i64 (.t 8) (.t 11), none, true⟩
      (.cons ⟨(some 13), .bin .add (.t 12) (.k (.c (.int .i64 1))), none, true⟩
      (.cons ⟨none, .mput .i64 .i64 (.t 8) (.t 11) (.t 13), none, true⟩
      .nil))))), (.cons ⟨(some 11), .ld true 1 (.t 10), none, true⟩
      (.cons ⟨(some 8), .ld true 1 (.t 2), none, false⟩
      (.cons ⟨(some 12), .mget .i64 .i64 (.t 8) (.t 11), none, true⟩
      (.cons ⟨(some 13), .bin .add (.t 12) (.k (.c (.int .i64 1))), none, true⟩
      (.cons ⟨none, .mput .i64 .i64 (.t 8) (.t 11) (.t 13), none, true⟩
      .nil)))))]))]))
@[reducible] def v65_3 : VC := (.cond (.t 7) (.drw t65_2) .skip)
@[reducible] def v65_4 : VC := (.seq (.ops o65_1) v65_3)
def ir65 : FC := ⟨3, 14, [], (.seq (.ops o65_0) v65_4)⟩
@[reducible] def o38_0 : List Ins := [⟨(some 1), .box 3 (.t 0), none, true⟩,
  ⟨(some 2), .mv (.k (.c (.raw (.slice none 0 0)))), none, true⟩,
  ⟨(some 3), .mv (.k (.c (.int .i64 0))), none, true⟩]
@[reducible] def o38_1 : List Ins := [⟨(some 8), .mkm .i64 .i64, none, true⟩,
  ⟨(some 4), .alloc [(.c (.raw (.map none)))], none, true⟩,
  ⟨none, .st 1 (.t 4) (.t 8), none, true⟩]
@[reducible] def o38_2 : List Ins := [⟨(some 9), .ld false 3 (.t 1), none, true⟩,
  ⟨(some 10), .mkfn 65 [(.t 4)], none, true⟩,
  ⟨(some 11), .call (.k (.fn 61 [])) [(.t 9), (.t 10)], none, true⟩,
  ⟨(some 5), .mv (.t 11), none, true⟩]
@[reducible] def o38_3 : List Ins := [⟨(some 12), .mv (.t 5), none, true⟩,
  ⟨(some 13), .bin .neq (.t 12) (.k (.c (.int .i64 0))), none, true⟩]
@[reducible] def o38_4 : List Ins := [⟨(some 14), .mv (.t 5), none, true⟩,
  ⟨(some 2), .mv (.k (.c (.raw (.slice none 0 0)))), none, true⟩,
  ⟨(some 3), .mv (.t 14), none, true⟩]
@[reducible] def v38_5 : VC := (.seq (.ops o38_4) .ret)
@[reducible] def v38_6 : VC := (.cond (.t 13) v38_5 .skip)
@[reducible] def v38_7 : VC := (.seq (.ops o38_3) v38_6)
@[reducible] def o38_8 : List Ins := [⟨(some 6), .mv (.k (.c (.raw (.slice none 0 0)))), none, true⟩]
@[reducible] def o38_9 : List Ins := [⟨(some 15), .fa 0 (.t 1), none, true⟩,
  ⟨(some 16), .ld true 1 (.t 15), none, true⟩,
  ⟨(some 17), .len (.t 16), none, true⟩,
  ⟨(some 18), .mv (.k (.c (.int .i64 0))), none, true⟩]
@[reducible] def o38_10 : List Ins := [⟨(some 19), .bin .lss (.t 18) (.t 17), none, true⟩]
@[reducible] def o38_11 : List Ins := [⟨(some 20), .mv (.t 18), none, true⟩,
  ⟨(some 7), .mv (.t 20), none, true⟩]
@[reducible] def o38_12 : List Ins := [⟨(some 21), .ld true 1 (.t 4), none, true⟩,
  ⟨(some 22), .mv (.t 7), none, true⟩,
  ⟨(some 23), .mget .i64 .i64 (.t 21) (.t 22), none, true⟩,
  ⟨(some 24), .bin .gtr (.t 23) (.k (.c (.int .i64 0))), none, true⟩]
@[reducible] def o38_13 : List Ins := [⟨(some 25), .mv (.t 6), none, true⟩,
  ⟨(some 26), .mv (.t 7), none, true⟩,
  ⟨(some 27), .bsl 3 1 [(.t 26)], none, true⟩,
  ⟨(some 28), .app 3 1 8 (.t 25) (.t 27), none, true⟩,
  ⟨(some 6), .mv (.t 28), none, true⟩]
@[reducible] def v38_14 : VC := (.cond (.t 24) (.ops o38_13) .skip)
@[reducible] def v38_15 : VC := (.seq (.ops o38_12) v38_14)
@[reducible] def v38_16 : VC := (.seq (.ops o38_11) v38_15)
@[reducible] def o38_17 : List Ins := [⟨(some 29), .bin .add (.t 18) (.k (.c (.int .i64 1))), none, true⟩,
  ⟨(some 18), .mv (.t 29), none, true⟩]
@[reducible] def v38_18 : VC := (.seq (.block 1 v38_16) (.ops o38_17))
@[reducible] def v38_19 : VC := (.seq (.cond (.t 19) .skip (.exit 0)) v38_18)
@[reducible] def v38_20 : VC := (.seq (.ops o38_10) v38_19)
-- K38_1: changed and kept: [18, 6]
@[reducible] def K38_1 : List Nat := [4, 17]
@[reducible] def v38_21 : VC := (.loop v38_20)
@[reducible] def v38_22 : VC := (.block 0 v38_21)
@[reducible] def o38_23 : List Ins := [⟨(some 30), .mv (.t 6), none, true⟩,
  ⟨(some 2), .mv (.t 30), none, true⟩,
  ⟨(some 3), .mv (.k (.c (.int .i64 0))), none, true⟩]
@[reducible] def v38_24 : VC := (.seq (.ops o38_23) .ret)
@[reducible] def v38_25 : VC := (.seq (.seq (.ops o38_9) v38_22) v38_24)
@[reducible] def v38_26 : VC := (.seq (.ops o38_8) v38_25)
@[reducible] def v38_27 : VC := (.seq (.seq (.ops o38_2) v38_7) v38_26)
@[reducible] def v38_28 : VC := (.seq (.ops o38_1) v38_27)
def ir38 : FC := ⟨1, 31, [.t 2, .t 3], (.seq (.ops o38_0) v38_28)⟩
theorem c65 : compM Try.prog [10,11] 65 = some ir65 := by kernel_rfl
theorem c38 : compM Try.prog [] 38 = some ir38 := by kernel_rfl



/-- One tour more that begins with its first stop. -/
def firstM (m : List (Int × Int)) (t : List Nat) : List (Int × Int) := match t with
  | [] => m
  | k :: _ => mput m k (IntKind.i64.wrap (mget m k + 1))
def firstMs (l : List (List Nat × Van)) : List (Int × Int) := l.foldl (fun m p => firstM m p.1) []
theorem firstMs_snoc (l : List (List Nat × Van)) (p : List Nat × Van) : firstMs (l ++ [p]) = firstM (firstMs l) p.1 := by simp [firstMs]

set_option maxHeartbeats 1000000 in
theorem first65 (r : Route) (v : Van) (m : List (Int × Int)) (t : List Nat) : FSpecL Try.prog 65 [.vw 1 2000 0 t.length r.n, vanv r v, .bp 1000 0] [.box [.gr 1001], .mp .i64 .i64 m] [cellsT t] (fun res l' => res = .tup [] ∧ l' = [.box [.gr 1001], .mp .i64 .i64 (firstM m t)]) := by
  have hprg : ∀ d, AV.prgL d (cellsT t) = cellsT t := fun d => prgL_pure d (cellsT_pure _)
  refine FSpecL_of c65 (by simp) (Nat.le_refl _) (by decide) (by decide) fun C hP hN hC hL => ?_; rw [init_env', ownW_upd (by simp)]; simp only [ir65, updL, updLo, List.map_nil, List.map_cons, Nat.reduceAdd, vanv]
  (repeat ((first | refine WV_seq_ ?_ | refine WV_block ?_ | refine WV_ops ?_ | refine WV_skip ?_ | refine WV_exit ?_); (try simp only [go_sem, init_env', Nat.reduceEqDiff, Nat.reduceAdd, Nat.reduceMul, reduceIte, Nat.reduceLeDiff, Nat.reduceLT, Nat.reduceBEq, reduceCtorEq, hP, hprg]); (repeat (refine And.intro (by first | omega | (intros; simp_all; done) | (intros; simp_all; omega)) ?_))))
  (refine WV_cond rfl (fun h => ?_) (fun h => ?_))
  · cases t with
    | nil => simp at h
    | cons k t =>
      have e : cellsT (k :: t) = iv k :: cellsT t := rfl
      clear hprg
      have hprg : ∀ d, AV.prgL d (cellsT t) = cellsT t := fun d => prgL_pure d (cellsT_pure _)
      rw [e]
      (refine WV_drw ?_; simp only [go_sem, init_env', Nat.reduceEqDiff, Nat.reduceAdd, Nat.reduceMul, reduceIte, Nat.reduceLeDiff, Nat.reduceLT, Nat.reduceBEq, reduceCtorEq, hP, hprg, Int.toNat_zero, Nat.zero_mul]; (repeat' (refine And.intro ?_ ?_)))
      all_goals first
        | exact trivial
        | omega
        | (((try simp only [thenQ, inQ, RetQL, RetOkL, resAll, resA]); (try simp only [go_sem, init_env', Nat.reduceEqDiff, Nat.reduceAdd, Nat.reduceMul, reduceIte, Nat.reduceLeDiff, Nat.reduceLT, Nat.reduceBEq, reduceCtorEq, tupA, AV.keepP, AV.keepPL]); refine ⟨_, [.box [.gr 1001], .mp .i64 .i64 (firstM m (k :: t))], rfl, KeepL_mk rfl rfl ?_ ?_ rfl, ?_⟩)
           · simp only [go_sem, init_env', Nat.reduceEqDiff, Nat.reduceAdd, Nat.reduceMul, reduceIte, Nat.reduceLeDiff, Nat.reduceLT, Nat.reduceBEq, reduceCtorEq, keepAll, Ob.keepP, AV.keepP, AV.keepPL, firstM]
           · simp only [go_sem, init_env', Nat.reduceEqDiff, Nat.reduceAdd, Nat.reduceMul, reduceIte, Nat.reduceLeDiff, Nat.reduceLT, Nat.reduceBEq, reduceCtorEq, winAll]
           · exact ⟨rfl, rfl⟩)
  · cases t with
    | cons k t => simp at h
    | nil =>
      (repeat ((first | refine WV_seq_ ?_ | refine WV_block ?_ | refine WV_ops ?_ | refine WV_skip ?_ | refine WV_exit ?_); (try simp only [go_sem, init_env', Nat.reduceEqDiff, Nat.reduceAdd, Nat.reduceMul, reduceIte, Nat.reduceLeDiff, Nat.reduceLT, Nat.reduceBEq, reduceCtorEq, hP, hprg]); (repeat (refine And.intro (by first | omega | (intros; simp_all; done) | (intros; simp_all; omega)) ?_))))
      ((try simp only [thenQ, inQ, RetQL, RetOkL, resAll, resA]); (try simp only [go_sem, init_env', Nat.reduceEqDiff, Nat.reduceAdd, Nat.reduceMul, reduceIte, Nat.reduceLeDiff, Nat.reduceLT, Nat.reduceBEq, reduceCtorEq, tupA, AV.keepP, AV.keepPL]); refine ⟨_, [.box [.gr 1001], .mp .i64 .i64 (firstM m [])], rfl, KeepL_mk rfl rfl ?_ ?_ rfl, ?_⟩)
      · simp only [go_sem, init_env', Nat.reduceEqDiff, Nat.reduceAdd, Nat.reduceMul, reduceIte, Nat.reduceLeDiff, Nat.reduceLT, Nat.reduceBEq, reduceCtorEq, keepAll, Ob.keepP, AV.keepP, AV.keepPL, firstM]
      · simp only [go_sem, init_env', Nat.reduceEqDiff, Nat.reduceAdd, Nat.reduceMul, reduceIte, Nat.reduceLeDiff, Nat.reduceLT, Nat.reduceBEq, reduceCtorEq, winAll]
      · exact ⟨rfl, rfl⟩

/-- The numbers up to k of which there is one. -/
def firstL (m : List (Int × Int)) (k : Nat) : List Int := ((List.range k).map fun (n : Nat) => (n : Int)).filter fun n => decide (0 < mget m n)
theorem firstL_succ (m : List (Int × Int)) (k : Nat) : firstL m (k + 1) = firstL m k ++ (if 0 < mget m k then [(k : Int)] else []) := by
  unfold firstL
  rw [List.range_succ, List.map_append, List.filter_append]
  by_cases h : 0 < mget m k <;> simp [h]
theorem firstL_len (m : List (Int × Int)) (k : Nat) : (firstL m k).length ≤ k := by
  unfold firstL
  exact Nat.le_trans (List.length_filter_le _ _) (by simp)
def firstS (r : Route) : List Int × Int := if someE r = 0 then (firstL (firstMs (wholes r)) r.n, 0) else ([], someE r)
def firstF (pre : List (List Nat × Van)) : List Ob := [.box [.gr 1001], .mp .i64 .i64 (firstMs pre)]

theorem upd_back2 {α : Type} {f : Nat → α} {n m : Nat} {a b b' c d : α} (h : n ≠ m) : upd (upd (upd (upd (upd f n a) m b') m b) n c) m d = upd (upd f n c) m d := by
  funext t
  simp only [upd]
  split
  · rfl
  · rename_i hm
    split <;> rfl

set_option maxHeartbeats 4000000 in
theorem firsts38 (r : Route) : FSpec Try.prog 38 [r.av] (.tup [.c (ints (firstS r).1), iv (firstS r).2]) := by
  refine FSpec_of c38 (Nat.le_refl _) (by decide) fun C hP hN hC hL => ?_
  simp only [ir38, Route.av]
  (repeat ((first | refine WV_seq_ ?_ | refine WV_block ?_ | refine WV_ops ?_ | refine WV_skip ?_ | refine WV_exit ?_); (try simp only [go_sem, init_env', Nat.reduceEqDiff, Nat.reduceAdd, Nat.reduceMul, reduceIte, Nat.reduceLeDiff, Nat.reduceLT, Nat.reduceBEq, reduceCtorEq, hP, ]); (repeat (refine And.intro (by first | omega | (intros; simp_all; done) | (intros; simp_all; omega)) ?_))))
  · refine AS_clos [4, 8] [r.av] [] (l := firstF []) (lf := firstF (wholesOf r)) (r := iv (someE r)) (some61 r) rfl rfl rfl (by decide) (by decide) rfl rfl rfl rfl ?_ (first65 r (leave r) [] []).1 ?_ rfl ?_
    · simp only [go_sem, init_env', Nat.reduceEqDiff, Nat.reduceAdd, Nat.reduceMul, reduceIte, Nat.reduceLeDiff, Nat.reduceLT, Nat.reduceBEq, reduceCtorEq, obsLend, Ob.lend, AV.lendL, AV.lend, firstF, firstMs, List.foldl_nil]
    · refine Run_pre (entW r) firstF (wholesOf r) (fun p => rfl) (fun t _ => rfl) (fun pre p post hts => ?_) _ [] rfl
      have := first65 r (atHome r p) (firstMs pre) p.1
      simp only [firstF, firstMs_snoc]
      exact this
    · refine ⟨_, rfl, rfl, ?_⟩
      simp only [go_sem, init_env', Nat.reduceEqDiff, Nat.reduceAdd, Nat.reduceMul, reduceIte, Nat.reduceLeDiff, Nat.reduceLT, Nat.reduceBEq, reduceCtorEq, ownBack]
      (repeat ((first | refine WV_seq_ ?_ | refine WV_block ?_ | refine WV_ops ?_ | refine WV_skip ?_ | refine WV_exit ?_); (try simp only [go_sem, init_env', Nat.reduceEqDiff, Nat.reduceAdd, Nat.reduceMul, reduceIte, Nat.reduceLeDiff, Nat.reduceLT, Nat.reduceBEq, reduceCtorEq, hP, ]); (repeat (refine And.intro (by first | omega | (intros; simp_all; done) | (intros; simp_all; omega)) ?_))))
      (refine WV_cond rfl (fun h => ?_) (fun h => ?_))
      · have h : someE r ≠ 0 := by simpa using h
        (repeat ((first | refine WV_seq_ ?_ | refine WV_block ?_ | refine WV_ops ?_ | refine WV_skip ?_ | refine WV_exit ?_); (try simp only [go_sem, init_env', Nat.reduceEqDiff, Nat.reduceAdd, Nat.reduceMul, reduceIte, Nat.reduceLeDiff, Nat.reduceLT, Nat.reduceBEq, reduceCtorEq, hP, ]); (repeat (refine And.intro (by first | omega | (intros; simp_all; done) | (intros; simp_all; omega)) ?_))))
        (refine WV_ret ?_; simp only [thenQ, inQ, RetQ, RetOk, resAll, resA]; simp only [go_sem, init_env', Nat.reduceEqDiff, Nat.reduceAdd, Nat.reduceMul, reduceIte, Nat.reduceLeDiff, Nat.reduceLT, Nat.reduceBEq, reduceCtorEq, tupA, AV.port, AV.portL, exists_eq_left', ])
        simp only [firstS, h, if_false]
        exact AVle.tup (AVles.cons (AVle.nil 1) (AVles.refl _))
      · have h : someE r = 0 := by simpa using h
        have hok := (someE_ok h).1
        have hr := Route.ok_spec hok
        have hn7 := hr.n7
        have hsl : (r.stops.length : Int) = (r.n : Int) := rfl
        have hf : firstS r = (firstL (firstMs (wholesOf r)) r.n, 0) := by simp [firstS, h, wholesOf, hok]
        generalize firstMs (wholesOf r) = s at *
        rw [hf]
        (repeat ((first | refine WV_seq_ ?_ | refine WV_block ?_ | refine WV_ops ?_ | refine WV_skip ?_ | refine WV_exit ?_); (try simp only [go_sem, init_env', Nat.reduceEqDiff, Nat.reduceAdd, Nat.reduceMul, reduceIte, Nat.reduceLeDiff, Nat.reduceLT, Nat.reduceBEq, reduceCtorEq, hP, stopsC]); (repeat (refine And.intro (by first | omega | (intros; simp_all; done) | (intros; simp_all; omega)) ?_))))
        rw [upd_back2 (n := 8) (m := 4) (by decide)]
        refine WV_nilslot 6 28 3 1 (by decide) (by decide) rfl rfl ?_
        simp only [go_sem, init_env', Nat.reduceEqDiff, Nat.reduceAdd, Nat.reduceMul, reduceIte, Nat.reduceLeDiff, Nat.reduceLT, Nat.reduceBEq, reduceCtorEq]
        have hmax : maxLen = 9223372036854775807 := rfl
        refine WV_loopK K38_1 [28] (fun k : Nat => k ≤ r.n) (fun k => r.n - k) (fun k => [(18, iv k), (6, .gr 28)]) (fun k => [(28, .grow 3 1 ((firstL s k).map fun n => [.int .i64 n]))]) 0 (Nat.zero_le _) ?_ ?_
        · (refine Sub_of (by simp only [go_sem, init_env', Nat.reduceEqDiff, Nat.reduceAdd, Nat.reduceMul, reduceIte, Nat.reduceLeDiff, Nat.reduceLT, Nat.reduceBEq, reduceCtorEq]; ((repeat' (first | exact EnvLe_e0 _ _ | refine EnvLe_upd ?_ ?_)) <;> ((try simp only [upd_app, e0_app, o0_app, Nat.reduceEqDiff, reduceIte]); first | exact AWk.refl _ _ | exact AWk.int (by omega) | exact AWk.int (by rw [w64 (by omega) (by omega)]; omega) | exact AWk.grow rfl | exact AWk.nil _ | exact AWk.of (by simp)))) (by simp only [go_sem, init_env', Nat.reduceEqDiff, Nat.reduceAdd, Nat.reduceMul, reduceIte, Nat.reduceLeDiff, Nat.reduceLT, Nat.reduceBEq, reduceCtorEq]; ((repeat' (first | exact ObjLe_o0 _ | exact ObjLe.rfl' _ | refine ObjLe_same ?_ | refine ObjLe_upd ?_ ?_ | refine ObjLe_new rfl ?_)) <;> rfl)))
        · intro k hk
          have hsll := firstL_len s k
          simp only [go_sem, init_env', Nat.reduceEqDiff, Nat.reduceAdd, Nat.reduceMul, reduceIte, Nat.reduceLeDiff, Nat.reduceLT, Nat.reduceBEq, reduceCtorEq]
          (repeat ((first | refine WV_seq_ ?_ | refine WV_block ?_ | refine WV_ops ?_ | refine WV_skip ?_ | refine WV_exit ?_); (try simp only [go_sem, init_env', Nat.reduceEqDiff, Nat.reduceAdd, Nat.reduceMul, reduceIte, Nat.reduceLeDiff, Nat.reduceLT, Nat.reduceBEq, reduceCtorEq, hP, ]); (repeat (refine And.intro (by first | omega | (intros; simp_all; done) | (intros; simp_all; omega)) ?_))))
          (refine WV_cond rfl (fun h => ?_) (fun h => ?_))
          · have h : k < r.n := by rw [hsl] at h; simpa using h
            have hw2 := w64 (n := (k : Int) + 1) (by omega) (by omega)
            (repeat ((first | refine WV_seq_ ?_ | refine WV_block ?_ | refine WV_ops ?_ | refine WV_skip ?_ | refine WV_exit ?_); (try simp only [go_sem, init_env', Nat.reduceEqDiff, Nat.reduceAdd, Nat.reduceMul, reduceIte, Nat.reduceLeDiff, Nat.reduceLT, Nat.reduceBEq, reduceCtorEq, hP, hw2]); (repeat (refine And.intro (by first | omega | (intros; simp_all; done) | (intros; simp_all; omega)) ?_))))
            (refine WV_cond rfl (fun h => ?_) (fun h => ?_))
            · have h : 0 < mget s k := by simpa using h
              have e := firstL_succ s k
              rw [if_pos h] at e
              (repeat ((first | refine WV_seq_ ?_ | refine WV_block ?_ | refine WV_ops ?_ | refine WV_skip ?_ | refine WV_exit ?_); (try simp only [go_sem, init_env', Nat.reduceEqDiff, Nat.reduceAdd, Nat.reduceMul, reduceIte, Nat.reduceLeDiff, Nat.reduceLT, Nat.reduceBEq, reduceCtorEq, hP, hw2]); (repeat (refine And.intro (by first | omega | (intros; simp_all; done) | (intros; simp_all; omega)) ?_))))
              refine ⟨k + 1, by omega, by omega, ?_⟩
              rw [e]
              (refine Sub_of (by simp only [go_sem, init_env', Nat.reduceEqDiff, Nat.reduceAdd, Nat.reduceMul, reduceIte, Nat.reduceLeDiff, Nat.reduceLT, Nat.reduceBEq, reduceCtorEq]; ((repeat' (first | exact EnvLe_e0 _ _ | refine EnvLe_upd ?_ ?_)) <;> ((try simp only [upd_app, e0_app, o0_app, Nat.reduceEqDiff, reduceIte]); first | exact AWk.refl _ _ | exact AWk.int (by omega) | exact AWk.int (by rw [w64 (by omega) (by omega)]; omega) | exact AWk.grow rfl | exact AWk.nil _ | exact AWk.of (by simp)))) (by simp only [go_sem, init_env', Nat.reduceEqDiff, Nat.reduceAdd, Nat.reduceMul, reduceIte, Nat.reduceLeDiff, Nat.reduceLT, Nat.reduceBEq, reduceCtorEq]; ((repeat' (first | exact ObjLe_o0 _ | exact ObjLe.rfl' _ | refine ObjLe_same ?_ | refine ObjLe_upd ?_ ?_ | refine ObjLe_new rfl ?_)) <;> rfl)))
            · have h : ¬ 0 < mget s k := by simpa using h
              have e := firstL_succ s k
              rw [if_neg h, List.append_nil] at e
              (repeat ((first | refine WV_seq_ ?_ | refine WV_block ?_ | refine WV_ops ?_ | refine WV_skip ?_ | refine WV_exit ?_); (try simp only [go_sem, init_env', Nat.reduceEqDiff, Nat.reduceAdd, Nat.reduceMul, reduceIte, Nat.reduceLeDiff, Nat.reduceLT, Nat.reduceBEq, reduceCtorEq, hP, hw2]); (repeat (refine And.intro (by first | omega | (intros; simp_all; done) | (intros; simp_all; omega)) ?_))))
              refine ⟨k + 1, by omega, by omega, ?_⟩
              rw [e]
              (refine Sub_of (by simp only [go_sem, init_env', Nat.reduceEqDiff, Nat.reduceAdd, Nat.reduceMul, reduceIte, Nat.reduceLeDiff, Nat.reduceLT, Nat.reduceBEq, reduceCtorEq]; ((repeat' (first | exact EnvLe_e0 _ _ | refine EnvLe_upd ?_ ?_)) <;> ((try simp only [upd_app, e0_app, o0_app, Nat.reduceEqDiff, reduceIte]); first | exact AWk.refl _ _ | exact AWk.int (by omega) | exact AWk.int (by rw [w64 (by omega) (by omega)]; omega) | exact AWk.grow rfl | exact AWk.nil _ | exact AWk.of (by simp)))) (by simp only [go_sem, init_env', Nat.reduceEqDiff, Nat.reduceAdd, Nat.reduceMul, reduceIte, Nat.reduceLeDiff, Nat.reduceLT, Nat.reduceBEq, reduceCtorEq]; ((repeat' (first | exact ObjLe_o0 _ | exact ObjLe.rfl' _ | refine ObjLe_same ?_ | refine ObjLe_upd ?_ ?_ | refine ObjLe_new rfl ?_)) <;> rfl)))
          · have h : k = r.n := by rw [hsl] at h; simp at h; omega
            subst h
            (repeat ((first | refine WV_seq_ ?_ | refine WV_block ?_ | refine WV_ops ?_ | refine WV_skip ?_ | refine WV_exit ?_); (try simp only [go_sem, init_env', Nat.reduceEqDiff, Nat.reduceAdd, Nat.reduceMul, reduceIte, Nat.reduceLeDiff, Nat.reduceLT, Nat.reduceBEq, reduceCtorEq, hP, ]); (repeat (refine And.intro (by first | omega | (intros; simp_all; done) | (intros; simp_all; omega)) ?_))))
            (refine WV_ret ?_; simp only [thenQ, inQ, RetQ, RetOk, resAll, resA]; simp only [go_sem, init_env', Nat.reduceEqDiff, Nat.reduceAdd, Nat.reduceMul, reduceIte, Nat.reduceLeDiff, Nat.reduceLT, Nat.reduceBEq, reduceCtorEq, tupA, AV.port, AV.portL, exists_eq_left', ]; (first | exact AVle.of rfl | refine AVle.of ?_ | skip))
end Go.Proofs.Ytbejgfpaokcnpaa

namespace Go.Proofs.Ytbejgfpaokcnpaa
open Go Go.V
@[reducible] def o39_0 : List Ins := [⟨(some 1), .box 3 (.t 0), none, true⟩,
  ⟨(some 2), .mv (.k (.c (.raw (.slice none 0 0)))), none, true⟩,
  ⟨(some 3), .mv (.k (.c (.int .i64 0))), none, true⟩]
@[reducible] def o39_1 : List Ins := [⟨(some 11), .ld false 3 (.t 1), none, true⟩,
  ⟨(some 12), .call (.k (.fn 54 [])) [(.t 11)], none, true⟩,
  ⟨(some 10), .mv (.t 12), none, true⟩,
  ⟨(some 13), .ext (.t 10) 0, none, true⟩,
  ⟨(some 14), .ext (.t 10) 1, none, true⟩,
  ⟨(some 4), .mv (.t 13), none, true⟩,
  ⟨(some 5), .mv (.t 14), none, true⟩]
@[reducible] def o39_2 : List Ins := [⟨(some 15), .mv (.t 5), none, true⟩,
  ⟨(some 16), .bin .neq (.t 15) (.k (.c (.int .i64 0))), none, true⟩]
@[reducible] def o39_3 : List Ins := [⟨(some 17), .mv (.t 5), none, true⟩,
  ⟨(some 2), .mv (.k (.c (.raw (.slice none 0 0)))), none, true⟩,
  ⟨(some 3), .mv (.t 17), none, true⟩]
@[reducible] def v39_4 : VC := (.seq (.ops o39_3) .ret)
@[reducible] def v39_5 : VC := (.cond (.t 16) v39_4 .skip)
@[reducible] def o39_6 : List Ins := [⟨(some 6), .mv (.k (.c (.raw (.slice none 0 0)))), none, true⟩]
@[reducible] def o39_7 : List Ins := [⟨(some 7), .mv (.k (.c (.int .i64 0))), none, true⟩]
@[reducible] def o39_8 : List Ins := [⟨(some 18), .mv (.t 7), none, true⟩,
  ⟨(some 19), .fa 0 (.t 1), none, true⟩,
  ⟨(some 20), .ld true 1 (.t 19), none, true⟩,
  ⟨(some 21), .len (.t 20), none, true⟩,
  ⟨(some 22), .bin .lss (.t 18) (.t 21), none, true⟩]
@[reducible] def v39_9 : VC := (.cond (.t 22) .skip (.exit 0))
@[reducible] def o39_10 : List Ins := [⟨(some 8), .mv (.k (.c (.bool false))), none, true⟩]
@[reducible] def o39_11 : List Ins := [⟨(some 9), .mv (.k (.c (.int .i64 0))), none, true⟩]
@[reducible] def o39_12 : List Ins := [⟨(some 25), .mv (.t 9), none, true⟩,
  ⟨(some 26), .mv (.t 4), none, true⟩,
  ⟨(some 27), .len (.t 26), none, true⟩,
  ⟨(some 28), .bin .lss (.t 25) (.t 27), none, true⟩]
@[reducible] def v39_13 : VC := (.cond (.t 28) .skip (.exit 2))
@[reducible] def o39_14 : List Ins := [⟨(some 31), .mv (.t 8), none, true⟩,
  ⟨(some 32), .mv (.t 31), none, true⟩,
  ⟨(some 33), .mv (.t 4), (some (32, false)), true⟩,
  ⟨(some 34), .mv (.t 9), (some (32, false)), true⟩,
  ⟨(some 35), .ia 1 (.t 33) (.t 34), (some (32, false)), true⟩,
  ⟨(some 36), .ld true 1 (.t 35), (some (32, false)), true⟩,
  ⟨(some 37), .ia 1 (.t 36) (.k (.c (.int .i64 0))), (some (32, false)), true⟩,
  ⟨(some 38), .ld true 1 (.t 37), (some (32, false)), true⟩,
  ⟨(some 39), .mv (.t 7), (some (32, false)), true⟩,
  ⟨(some 40), .bin .eql (.t 38) (.t 39), (some (32, false)), true⟩,
  ⟨(some 41), .pick (.t 32) (.k (.c (.bool true))) (.t 40), none, true⟩,
  ⟨(some 8), .mv (.t 41), none, true⟩]
@[reducible] def o39_15 : List Ins := [⟨(some 29), .mv (.t 9), none, true⟩,
  ⟨(some 30), .bin .add (.t 29) (.k (.c (.int .i64 1))), none, true⟩,
  ⟨(some 9), .mv (.t 30), none, true⟩]
@[reducible] def v39_16 : VC := (.seq (.block 3 (.ops o39_14)) (.ops o39_15))
@[reducible] def v39_17 : VC := (.seq (.seq (.ops o39_12) v39_13) v39_16)
-- K39_2: changed and kept: [9, 8]
@[reducible] def K39_2 : List Nat := [1, 4, 6, 7]
@[reducible] def v39_18 : VC := (.loop v39_17)
@[reducible] def v39_19 : VC := (.block 2 v39_18)
@[reducible] def o39_20 : List Ins := [⟨(some 42), .mv (.t 8), none, true⟩]
@[reducible] def o39_21 : List Ins := [⟨(some 43), .mv (.t 6), none, true⟩,
  ⟨(some 44), .mv (.t 7), none, true⟩,
  ⟨(some 45), .bsl 3 1 [(.t 44)], none, true⟩,
  ⟨(some 46), .app 3 1 8 (.t 43) (.t 45), none, true⟩,
  ⟨(some 6), .mv (.t 46), none, true⟩]
@[reducible] def v39_22 : VC := (.cond (.t 42) (.ops o39_21) .skip)
@[reducible] def v39_23 : VC := (.seq (.ops o39_20) v39_22)
@[reducible] def v39_24 : VC := (.seq (.seq (.ops o39_11) v39_19) v39_23)
@[reducible] def v39_25 : VC := (.seq (.ops o39_10) v39_24)
@[reducible] def o39_26 : List Ins := [⟨(some 23), .mv (.t 7), none, true⟩,
  ⟨(some 24), .bin .add (.t 23) (.k (.c (.int .i64 1))), none, true⟩,
  ⟨(some 7), .mv (.t 24), none, true⟩]
@[reducible] def v39_27 : VC := (.seq (.block 1 v39_25) (.ops o39_26))
@[reducible] def v39_28 : VC := (.seq (.seq (.ops o39_8) v39_9) v39_27)
-- K39_1: changed and kept: [7, 6]
@[reducible] def K39_1 : List Nat := [1, 4]
@[reducible] def v39_29 : VC := (.loop v39_28)
@[reducible] def v39_30 : VC := (.block 0 v39_29)
@[reducible] def o39_31 : List Ins := [⟨(some 47), .mv (.t 6), none, true⟩,
  ⟨(some 2), .mv (.t 47), none, true⟩,
  ⟨(some 3), .mv (.k (.c (.int .i64 0))), none, true⟩]
@[reducible] def v39_32 : VC := (.seq (.ops o39_31) .ret)
@[reducible] def v39_33 : VC := (.seq (.seq (.ops o39_7) v39_30) v39_32)
@[reducible] def v39_34 : VC := (.seq (.ops o39_6) v39_33)
@[reducible] def v39_35 : VC := (.seq (.seq (.ops o39_2) v39_5) v39_34)
@[reducible] def v39_36 : VC := (.seq (.ops o39_1) v39_35)
def ir39 : FC := ⟨1, 48, [.t 2, .t 3], (.seq (.ops o39_0) v39_36)⟩
theorem c39 : compM Try.prog [] 39 = some ir39 := by kernel_rfl



def begins (l : List (List Nat)) (k : Nat) : Bool := l.any fun t => t.headD 0 == k
def rfirstL (l : List (List Nat)) (k : Nat) : List Int := ((List.range k).filter fun n => begins l n).map fun (n : Nat) => (n : Int)
theorem rfirstL_succ (l : List (List Nat)) (k : Nat) : rfirstL l (k + 1) = rfirstL l k ++ (if begins l k then [(k : Int)] else []) := by
  unfold rfirstL
  rw [List.range_succ, List.filter_append, List.map_append]
  by_cases h : begins l k = true <;> simp [h]
theorem rfirstL_len (l : List (List Nat)) (k : Nat) : (rfirstL l k).length ≤ k := by
  unfold rfirstL
  rw [List.length_map]
  exact Nat.le_trans (List.length_filter_le _ _) (by simp)
def rfirstS (r : Route) : List Int × Int := if errR r = 0 then (rfirstL (goodR r true) r.n, 0) else ([], errR r)

set_option maxHeartbeats 8000000 in
theorem rfirst39 (r : Route) : FSpec Try.prog 39 [r.av] (.tup [.c (ints (rfirstS r).1), iv (rfirstS r).2]) := by
  refine FSpec_of c39 (Nat.le_refl _) (by decide) fun C hP hN hC hL => ?_
  simp only [ir39, Route.av]
  (repeat ((first | refine WV_seq_ ?_ | refine WV_block ?_ | refine WV_ops ?_ | refine WV_skip ?_ | refine WV_exit ?_); (try simp only [go_sem, init_env', Nat.reduceEqDiff, Nat.reduceAdd, Nat.reduceMul, reduceIte, Nat.reduceLeDiff, Nat.reduceLT, Nat.reduceBEq, reduceCtorEq, hP, ]); (repeat (refine And.intro (by first | omega | (intros; simp_all; done) | (intros; simp_all; omega)) ?_))))
  (refine AS_pure (rwholes54 r) rfl rfl rfl rfl rfl ?_; simp only [go_sem, init_env', Nat.reduceEqDiff, Nat.reduceAdd, Nat.reduceMul, reduceIte, Nat.reduceLeDiff, Nat.reduceLT, Nat.reduceBEq, reduceCtorEq, hP, Route.av]; (repeat (refine And.intro (by first | omega | (intros; simp_all; done) | (intros; simp_all; omega)) ?_)); (repeat ((first | refine WV_seq_ ?_ | refine WV_block ?_ | refine WV_ops ?_ | refine WV_skip ?_ | refine WV_exit ?_); (try simp only [go_sem, init_env', Nat.reduceEqDiff, Nat.reduceAdd, Nat.reduceMul, reduceIte, Nat.reduceLeDiff, Nat.reduceLT, Nat.reduceBEq, reduceCtorEq, hP, Route.av]); (repeat (refine And.intro (by first | omega | (intros; simp_all; done) | (intros; simp_all; omega)) ?_)))))
  (refine WV_cond rfl (fun h => ?_) (fun h => ?_))
  · have h : errR r ≠ 0 := by simpa using h
    (repeat ((first | refine WV_seq_ ?_ | refine WV_block ?_ | refine WV_ops ?_ | refine WV_skip ?_ | refine WV_exit ?_); (try simp only [go_sem, init_env', Nat.reduceEqDiff, Nat.reduceAdd, Nat.reduceMul, reduceIte, Nat.reduceLeDiff, Nat.reduceLT, Nat.reduceBEq, reduceCtorEq, hP, ]); (repeat (refine And.intro (by first | omega | (intros; simp_all; done) | (intros; simp_all; omega)) ?_))))
    (refine WV_ret ?_; simp only [thenQ, inQ, RetQ, RetOk, resAll, resA]; simp only [go_sem, init_env', Nat.reduceEqDiff, Nat.reduceAdd, Nat.reduceMul, reduceIte, Nat.reduceLeDiff, Nat.reduceLT, Nat.reduceBEq, reduceCtorEq, tupA, AV.port, AV.portL, exists_eq_left', ])
    simp only [rfirstS, h, if_false]
    exact AVle.tup (AVles.cons (AVle.nil 1) (AVles.refl _))
  · have h : errR r = 0 := by simpa using h
    obtain ⟨hr, hw, hlen⟩ := errR_eq h
    have hn7 := hr.n7
    have e : rfirstS r = (rfirstL (goodR r true) r.n, 0) := if_pos h
    have hsl : (r.stops.length : Int) = (r.n : Int) := rfl
    have hmax : maxLen = 9223372036854775807 := rfl
    rw [e, hw]
    clear h
    have hmem : ∀ t ∈ goodR r true, t.length = r.n := fun t ht => by
      have := (goodR_mem ht).2.2.2
      simp only [goodP, Bool.not_true, Bool.false_or, Bool.and_eq_true, beq_iff_eq] at this
      exact this.1
    have hcnt : (goodR r true).length ≤ 16777216 := Nat.le_trans (List.length_filter_le _ _) (allR_count hn7)
    generalize goodR r true = l at *
    (repeat ((first | refine WV_seq_ ?_ | refine WV_block ?_ | refine WV_ops ?_ | refine WV_skip ?_ | refine WV_exit ?_); (try simp only [go_sem, init_env', Nat.reduceEqDiff, Nat.reduceAdd, Nat.reduceMul, reduceIte, Nat.reduceLeDiff, Nat.reduceLT, Nat.reduceBEq, reduceCtorEq, hP, ]); (repeat (refine And.intro (by first | omega | (intros; simp_all; done) | (intros; simp_all; omega)) ?_))))
    refine WV_freeze 1 (ds := r.cds) rfl rfl ?_
    simp only [go_sem, init_env', Nat.reduceEqDiff, Nat.reduceAdd, Nat.reduceMul, reduceIte, Nat.reduceLeDiff, Nat.reduceLT, Nat.reduceBEq, reduceCtorEq]
    refine WV_nilslot 6 46 3 1 (by decide) (by decide) rfl rfl ?_
    simp only [go_sem, init_env', Nat.reduceEqDiff, Nat.reduceAdd, Nat.reduceMul, reduceIte, Nat.reduceLeDiff, Nat.reduceLT, Nat.reduceBEq, reduceCtorEq]
    refine WV_loopK K39_1 [46] (fun k : Nat => k ≤ r.n) (fun k => r.n - k) (fun k => [(7, iv k), (6, .gr 46)]) (fun k => [(46, .grow 3 1 ((rfirstL l k).map fun n => [.int .i64 n]))]) 0 (Nat.zero_le _) ?_ ?_
    · (refine Sub_of (by simp only [go_sem, init_env', Nat.reduceEqDiff, Nat.reduceAdd, Nat.reduceMul, reduceIte, Nat.reduceLeDiff, Nat.reduceLT, Nat.reduceBEq, reduceCtorEq]; ((repeat' (first | exact EnvLe_e0 _ _ | refine EnvLe_upd ?_ ?_)) <;> ((try simp only [upd_app, e0_app, o0_app, Nat.reduceEqDiff, reduceIte]); first | exact AWk.refl _ _ | exact AWk.int (by omega) | exact AWk.int (by rw [w64 (by omega) (by omega)]; omega) | exact AWk.grow rfl | exact AWk.nil _ | exact AWk.of (by simp)))) (by simp only [go_sem, init_env', Nat.reduceEqDiff, Nat.reduceAdd, Nat.reduceMul, reduceIte, Nat.reduceLeDiff, Nat.reduceLT, Nat.reduceBEq, reduceCtorEq]; ((repeat' (first | exact ObjLe_o0 _ | exact ObjLe.rfl' _ | refine ObjLe_same ?_ | refine ObjLe_upd ?_ ?_ | refine ObjLe_new rfl ?_)) <;> rfl)))
    · intro k hk
      have hsll := rfirstL_len l k
      simp only [go_sem, init_env', Nat.reduceEqDiff, Nat.reduceAdd, Nat.reduceMul, reduceIte, Nat.reduceLeDiff, Nat.reduceLT, Nat.reduceBEq, reduceCtorEq]
      (repeat ((first | refine WV_seq_ ?_ | refine WV_block ?_ | refine WV_ops ?_ | refine WV_skip ?_ | refine WV_exit ?_); (try simp only [go_sem, init_env', Nat.reduceEqDiff, Nat.reduceAdd, Nat.reduceMul, reduceIte, Nat.reduceLeDiff, Nat.reduceLT, Nat.reduceBEq, reduceCtorEq, hP, Route.cds, stopsC]); (repeat (refine And.intro (by first | omega | (intros; simp_all; done) | (intros; simp_all; omega)) ?_))))
      (refine WV_cond rfl (fun h => ?_) (fun h => ?_))
      · have h : k < r.n := by rw [hsl] at h; simpa using h
        have hw2 := w64 (n := (k : Int) + 1) (by omega) (by omega)
        have hk0 := h
        (repeat ((first | refine WV_seq_ ?_ | refine WV_block ?_ | refine WV_ops ?_ | refine WV_skip ?_ | refine WV_exit ?_); (try simp only [go_sem, init_env', Nat.reduceEqDiff, Nat.reduceAdd, Nat.reduceMul, reduceIte, Nat.reduceLeDiff, Nat.reduceLT, Nat.reduceBEq, reduceCtorEq, hP, ]); (repeat (refine And.intro (by first | omega | (intros; simp_all; done) | (intros; simp_all; omega)) ?_))))
        refine WV_loopK K39_2 [] (fun j : Nat => j ≤ l.length) (fun j => l.length - j) (fun j => [(9, iv j), (8, .c (.bool (begins (l.take j) k)))]) (fun _ => []) 0 (Nat.zero_le _) ?_ ?_
        · (refine Sub_of (by simp only [go_sem, init_env', Nat.reduceEqDiff, Nat.reduceAdd, Nat.reduceMul, reduceIte, Nat.reduceLeDiff, Nat.reduceLT, Nat.reduceBEq, reduceCtorEq]; ((repeat' (first | exact EnvLe_e0 _ _ | refine EnvLe_upd ?_ ?_)) <;> ((try simp only [upd_app, e0_app, o0_app, Nat.reduceEqDiff, reduceIte]); first | exact AWk.refl _ _ | exact AWk.int (by omega) | exact AWk.int (by rw [w64 (by omega) (by omega)]; omega) | exact AWk.grow rfl | exact AWk.nil _ | exact AWk.of (by simp [begins])))) (by simp only [go_sem, init_env', Nat.reduceEqDiff, Nat.reduceAdd, Nat.reduceMul, reduceIte, Nat.reduceLeDiff, Nat.reduceLT, Nat.reduceBEq, reduceCtorEq]; ((repeat' (first | exact ObjLe_o0 _ | exact ObjLe.rfl' _ | refine ObjLe_same ?_ | refine ObjLe_upd ?_ ?_ | refine ObjLe_new rfl ?_)) <;> rfl)))
        · intro j hj
          simp only [go_sem, init_env', Nat.reduceEqDiff, Nat.reduceAdd, Nat.reduceMul, reduceIte, Nat.reduceLeDiff, Nat.reduceLT, Nat.reduceBEq, reduceCtorEq]
          (repeat ((first | refine WV_seq_ ?_ | refine WV_block ?_ | refine WV_ops ?_ | refine WV_skip ?_ | refine WV_exit ?_); (try simp only [go_sem, init_env', Nat.reduceEqDiff, Nat.reduceAdd, Nat.reduceMul, reduceIte, Nat.reduceLeDiff, Nat.reduceLT, Nat.reduceBEq, reduceCtorEq, hP, natss_len]); (repeat (refine And.intro (by first | omega | (intros; simp_all; done) | (intros; simp_all; omega)) ?_))))
          (refine WV_cond rfl (fun h => ?_) (fun h => ?_))
          · have h : j < l.length := by simpa using h
            have hw3 := w64 (n := (j : Int) + 1) (by omega) (by omega)
            have hsu : begins (l.take (j + 1)) k = (begins (l.take j) k || (l[j].headD 0 == k)) := by
              unfold begins
              rw [List.take_succ_eq_append_getElem h, List.any_append]; simp
            have hlj := hmem _ (List.getElem_mem h)
            have hnl := natss_getD h
            generalize l[j] = t at *
            cases t with
            | nil => simp at hlj; omega
            | cons a t =>
              have hbe : ((a : Int) == (k : Int)) = (a == k) := by rw [ibeq]
              (repeat ((first | refine WV_seq_ ?_ | refine WV_block ?_ | refine WV_ops ?_ | refine WV_skip ?_ | refine WV_exit ?_); (try simp only [go_sem, init_env', Nat.reduceEqDiff, Nat.reduceAdd, Nat.reduceMul, reduceIte, Nat.reduceLeDiff, Nat.reduceLT, Nat.reduceBEq, reduceCtorEq, hP, Int.toNat_natCast, hnl, natss_len, Int.ofNat_lt, h, Int.natCast_nonneg, nats, ints, hbe, Int.toNat_zero, hw3]); (repeat (refine And.intro (by first | omega | (intros; simp_all; done) | (intros; simp_all; omega)) ?_))))
              refine ⟨j + 1, by omega, by omega, ?_⟩
              rw [hsu]
              (refine Sub_of (by simp only [go_sem, init_env', Nat.reduceEqDiff, Nat.reduceAdd, Nat.reduceMul, reduceIte, Nat.reduceLeDiff, Nat.reduceLT, Nat.reduceBEq, reduceCtorEq]; ((repeat' (first | exact EnvLe_e0 _ _ | refine EnvLe_upd ?_ ?_)) <;> ((try simp only [upd_app, e0_app, o0_app, Nat.reduceEqDiff, reduceIte]); first | exact AWk.refl _ _ | exact AWk.int (by omega) | exact AWk.int (by rw [w64 (by omega) (by omega)]; omega) | exact AWk.grow rfl | exact AWk.nil _ | exact AWk.of (by simp)))) (by simp only [go_sem, init_env', Nat.reduceEqDiff, Nat.reduceAdd, Nat.reduceMul, reduceIte, Nat.reduceLeDiff, Nat.reduceLT, Nat.reduceBEq, reduceCtorEq]; ((repeat' (first | exact ObjLe_o0 _ | exact ObjLe.rfl' _ | refine ObjLe_same ?_ | refine ObjLe_upd ?_ ?_ | refine ObjLe_new rfl ?_)) <;> rfl)))
          · have h : j = l.length := by simp at h; omega
            subst h
            rw [List.take_length]
            (repeat ((first | refine WV_seq_ ?_ | refine WV_block ?_ | refine WV_ops ?_ | refine WV_skip ?_ | refine WV_exit ?_); (try simp only [go_sem, init_env', Nat.reduceEqDiff, Nat.reduceAdd, Nat.reduceMul, reduceIte, Nat.reduceLeDiff, Nat.reduceLT, Nat.reduceBEq, reduceCtorEq, hP, ]); (repeat (refine And.intro (by first | omega | (intros; simp_all; done) | (intros; simp_all; omega)) ?_))))
            (refine WV_cond rfl (fun h => ?_) (fun h => ?_))
            · have e := rfirstL_succ l k
              rw [if_pos h] at e
              (repeat ((first | refine WV_seq_ ?_ | refine WV_block ?_ | refine WV_ops ?_ | refine WV_skip ?_ | refine WV_exit ?_); (try simp only [go_sem, init_env', Nat.reduceEqDiff, Nat.reduceAdd, Nat.reduceMul, reduceIte, Nat.reduceLeDiff, Nat.reduceLT, Nat.reduceBEq, reduceCtorEq, hP, hw2]); (repeat (refine And.intro (by first | omega | (intros; simp_all; done) | (intros; simp_all; omega)) ?_))))
              refine ⟨k + 1, by omega, by omega, ?_⟩
              rw [e]
              (refine Sub_of (by simp only [go_sem, init_env', Nat.reduceEqDiff, Nat.reduceAdd, Nat.reduceMul, reduceIte, Nat.reduceLeDiff, Nat.reduceLT, Nat.reduceBEq, reduceCtorEq]; ((repeat' (first | exact EnvLe_e0 _ _ | refine EnvLe_upd ?_ ?_)) <;> ((try simp only [upd_app, e0_app, o0_app, Nat.reduceEqDiff, reduceIte]); first | exact AWk.refl _ _ | exact AWk.int (by omega) | exact AWk.int (by rw [w64 (by omega) (by omega)]; omega) | exact AWk.grow rfl | exact AWk.nil _ | exact AWk.of (by simp)))) (by simp only [go_sem, init_env', Nat.reduceEqDiff, Nat.reduceAdd, Nat.reduceMul, reduceIte, Nat.reduceLeDiff, Nat.reduceLT, Nat.reduceBEq, reduceCtorEq]; ((repeat' (first | exact ObjLe_o0 _ | exact ObjLe.rfl' _ | refine ObjLe_same ?_ | refine ObjLe_upd ?_ ?_ | refine ObjLe_new rfl ?_)) <;> rfl)))
            · have e := rfirstL_succ l k
              rw [h, if_neg (by decide), List.append_nil] at e
              (repeat ((first | refine WV_seq_ ?_ | refine WV_block ?_ | refine WV_ops ?_ | refine WV_skip ?_ | refine WV_exit ?_); (try simp only [go_sem, init_env', Nat.reduceEqDiff, Nat.reduceAdd, Nat.reduceMul, reduceIte, Nat.reduceLeDiff, Nat.reduceLT, Nat.reduceBEq, reduceCtorEq, hP, hw2]); (repeat (refine And.intro (by first | omega | (intros; simp_all; done) | (intros; simp_all; omega)) ?_))))
              refine ⟨k + 1, by omega, by omega, ?_⟩
              rw [e]
              (refine Sub_of (by simp only [go_sem, init_env', Nat.reduceEqDiff, Nat.reduceAdd, Nat.reduceMul, reduceIte, Nat.reduceLeDiff, Nat.reduceLT, Nat.reduceBEq, reduceCtorEq]; ((repeat' (first | exact EnvLe_e0 _ _ | refine EnvLe_upd ?_ ?_)) <;> ((try simp only [upd_app, e0_app, o0_app, Nat.reduceEqDiff, reduceIte]); first | exact AWk.refl _ _ | exact AWk.int (by omega) | exact AWk.int (by rw [w64 (by omega) (by omega)]; omega) | exact AWk.grow rfl | exact AWk.nil _ | exact AWk.of (by simp)))) (by simp only [go_sem, init_env', Nat.reduceEqDiff, Nat.reduceAdd, Nat.reduceMul, reduceIte, Nat.reduceLeDiff, Nat.reduceLT, Nat.reduceBEq, reduceCtorEq]; ((repeat' (first | exact ObjLe_o0 _ | exact ObjLe.rfl' _ | refine ObjLe_same ?_ | refine ObjLe_upd ?_ ?_ | refine ObjLe_new rfl ?_)) <;> rfl)))
      · have h : k = r.n := by rw [hsl] at h; simp at h; omega
        subst h
        (repeat ((first | refine WV_seq_ ?_ | refine WV_block ?_ | refine WV_ops ?_ | refine WV_skip ?_ | refine WV_exit ?_); (try simp only [go_sem, init_env', Nat.reduceEqDiff, Nat.reduceAdd, Nat.reduceMul, reduceIte, Nat.reduceLeDiff, Nat.reduceLT, Nat.reduceBEq, reduceCtorEq, hP, ]); (repeat (refine And.intro (by first | omega | (intros; simp_all; done) | (intros; simp_all; omega)) ?_))))
        (refine WV_ret ?_; simp only [thenQ, inQ, RetQ, RetOk, resAll, resA]; simp only [go_sem, init_env', Nat.reduceEqDiff, Nat.reduceAdd, Nat.reduceMul, reduceIte, Nat.reduceLeDiff, Nat.reduceLT, Nat.reduceBEq, reduceCtorEq, tupA, AV.port, AV.portL, exists_eq_left', ]; (first | exact AVle.of rfl | refine AVle.of ?_ | skip))
end Go.Proofs.Ytbejgfpaokcnpaa

/-
  Firsts: the map counts the whole good tours by their first stops: plain.
-/
namespace Go.Proofs.Ytbejgfpaokcnpaa
open Go Go.V

theorem mget_mput (m : List (Int × Int)) (a b v : Int) : mget (mput m a v) b = if b = a then v else mget m b := by
  induction m with
  | nil => simp only [mput, mget]
  | cons x m ih =>
    obtain ⟨c, d⟩ := x
    simp only [mput]
    by_cases h : a = c
    · subst h
      simp only [if_true, mget]
      split <;> rfl
    · simp only [h, if_false, mget, ih]
      by_cases h2 : b = c
      · subst h2
        rw [if_pos rfl, if_neg (fun e => h e.symm)]
        simp
      · simp only [h2, if_false]
theorem firstMs_get (l : List (List Nat × Van)) (h : (l.length : Int) ≤ 16777216) (k : Nat) : mget (firstMs l) k = ((l.filter fun p => p.1.head? == some k).length : Int) := by
  have key : ∀ (l : List (List Nat × Van)) (m : List (Int × Int)) (c : Int), 0 ≤ c → c + l.length ≤ 33554432 → (∀ j : Nat, 0 ≤ mget m j ∧ mget m j ≤ c) → mget (l.foldl (fun m p => firstM m p.1) m) k = mget m k + ((l.filter fun p => p.1.head? == some k).length : Int) := by
    intro l
    induction l with
    | nil => intro m c _ _ _; simp
    | cons p l ih =>
      intro m c hc hl hm
      simp only [List.length_cons] at hl
      rw [List.foldl_cons, List.filter_cons]
      have hl' : c + 1 + (l.length : Int) ≤ 33554432 := by omega
      obtain ⟨t, v⟩ := p
      cases t with
      | nil =>
        rw [ih _ (c + 1) (by omega) hl' (fun j => by have := hm j; simp only [firstM]; omega)]
        simp [firstM]
      | cons a t =>
        have ha := hm a
        have hw : IntKind.i64.wrap (mget m a + 1) = mget m a + 1 := w64 (by omega) (by omega)
        rw [ih _ (c + 1) (by omega) hl' (fun j => by
          have hj := hm j
          simp only [firstM, hw, mget_mput]
          split <;> omega)]
        simp only [firstM, hw, mget_mput, List.head?_cons]
        by_cases e : k = a
        · subst e
          simp; omega
        · have e1 : ¬ (k : Int) = (a : Int) := by omega
          have e2 : ¬ a = k := fun h => e h.symm
          rw [if_neg e1]
          simp [e2]
  have := key l [] 0 (by omega) (by omega) (fun j => by simp [mget])
  simpa [mget, firstMs] using this
theorem firstL_eq {r : Route} (hr : RouteOk r) : firstL (firstMs (wholes r)) r.n = rfirstL (goodR r true) r.n := by
  have hc : ((wholes r).length : Int) ≤ 16777216 := by
    have := Nat.le_trans (List.length_filter_le (isW r) (goods r)) (goods_count hr.n7)
    unfold wholes
    omega
  unfold firstL rfirstL
  rw [List.filter_map]
  congr 1
  refine List.filter_congr fun k hk => ?_
  simp only [Function.comp, firstMs_get _ hc]
  have hk : k < r.n := by simpa using hk
  unfold begins
  rw [← wholes_eq, List.any_map, Bool.eq_iff_iff, decide_eq_true_eq, List.any_eq_true]
  have e : (0 < (((wholes r).filter fun p => p.1.head? == some k).length : Int)) ↔ 0 < ((wholes r).filter fun p => p.1.head? == some k).length := by omega
  rw [e, List.length_pos_iff_exists_mem]
  refine exists_congr fun p => ?_
  rw [List.mem_filter]
  refine and_congr_right fun hp => ?_
  have hl : r.n ≤ p.1.length := by
    have := (List.mem_filter.1 hp).2
    simp [isW] at this
    exact this
  cases ht : p.1 with
  | nil => rw [ht] at hl; simp at hl; omega
  | cons a t => simp [ht]
theorem first_eq (r : Route) : firstS r = rfirstS r := by
  unfold firstS rfirstS
  rw [someE_eq]
  by_cases h : errR r = 0
  · rw [if_pos h, if_pos h, firstL_eq (errR_eq h).1]
  · rw [if_neg h, if_neg h]
end Go.Proofs.Ytbejgfpaokcnpaa

namespace Go.Proofs.Ytbejgfpaokcnpaa
open Go Go.V
@[reducible] def o45_0 : List Ins := [⟨(some 1), .box 3 (.t 0), none, true⟩,
  ⟨(some 2), .mv (.k (.c (.raw (.slice none 0 0)))), none, true⟩,
  ⟨(some 3), .mv (.k (.c (.int .i64 0))), none, true⟩]
@[reducible] def o45_1 : List Ins := [⟨(some 10), .ld false 3 (.t 1), none, true⟩,
  ⟨(some 11), .call (.k (.fn 27 [])) [(.t 10)], none, true⟩,
  ⟨(some 4), .mv (.t 11), none, true⟩]
@[reducible] def o45_2 : List Ins := [⟨(some 12), .mv (.t 4), none, true⟩,
  ⟨(some 13), .bin .neq (.t 12) (.k (.c (.int .i64 0))), none, true⟩]
@[reducible] def o45_3 : List Ins := [⟨(some 14), .mv (.t 4), none, true⟩,
  ⟨(some 2), .mv (.k (.c (.raw (.slice none 0 0)))), none, true⟩,
  ⟨(some 3), .mv (.t 14), none, true⟩]
@[reducible] def v45_4 : VC := (.seq (.ops o45_3) .ret)
@[reducible] def v45_5 : VC := (.cond (.t 13) v45_4 .skip)
@[reducible] def v45_6 : VC := (.seq (.ops o45_2) v45_5)
@[reducible] def o45_7 : List Ins := [⟨(some 5), .mv (.k (.c (.raw (.slice none 0 0)))), none, true⟩]
@[reducible] def o45_8 : List Ins := [⟨(some 15), .ld false 3 (.t 1), none, true⟩,
  ⟨(some 16), .call (.k (.fn 67 [])) [(.t 15), (.k (.c (.bool false)))], none, true⟩,
  ⟨(some 6), .mv (.t 16), none, true⟩]
@[reducible] def o45_9 : List Ins := [⟨(some 7), .mv (.k (.c (.int .i64 0))), none, true⟩]
@[reducible] def o45_10 : List Ins := [⟨(some 17), .mv (.t 7), none, true⟩,
  ⟨(some 18), .fa 0 (.t 1), none, true⟩,
  ⟨(some 19), .ld true 1 (.t 18), none, true⟩,
  ⟨(some 20), .len (.t 19), none, true⟩,
  ⟨(some 21), .bin .lss (.t 17) (.t 20), none, true⟩]
@[reducible] def v45_11 : VC := (.cond (.t 21) .skip (.exit 0))
@[reducible] def o45_12 : List Ins := [⟨(some 8), .mv (.k (.c (.bool false))), none, true⟩]
@[reducible] def o45_13 : List Ins := [⟨(some 9), .mv (.k (.c (.int .i64 0))), none, true⟩]
@[reducible] def o45_14 : List Ins := [⟨(some 24), .mv (.t 9), none, true⟩,
  ⟨(some 25), .mv (.t 6), none, true⟩,
  ⟨(some 26), .len (.t 25), none, true⟩,
  ⟨(some 27), .bin .lss (.t 24) (.t 26), none, true⟩]
@[reducible] def v45_15 : VC := (.cond (.t 27) .skip (.exit 2))
@[reducible] def o45_16 : List Ins := [⟨(some 30), .mv (.t 8), none, true⟩,
  ⟨(some 31), .mv (.t 30), none, true⟩,
  ⟨(some 32), .mv (.t 6), (some (31, false)), true⟩,
  ⟨(some 33), .mv (.t 9), (some (31, false)), true⟩,
  ⟨(some 34), .ia 1 (.t 32) (.t 33), (some (31, false)), true⟩,
  ⟨(some 35), .ld true 1 (.t 34), (some (31, false)), true⟩,
  ⟨(some 36), .mv (.t 7), (some (31, false)), true⟩,
  ⟨(some 37), .call (.k (.fn 56 [])) [(.t 35), (.t 36)], (some (31, false)), true⟩,
  ⟨(some 38), .pick (.t 31) (.k (.c (.bool true))) (.t 37), none, true⟩,
  ⟨(some 8), .mv (.t 38), none, true⟩]
@[reducible] def o45_17 : List Ins := [⟨(some 28), .mv (.t 9), none, true⟩,
  ⟨(some 29), .bin .add (.t 28) (.k (.c (.int .i64 1))), none, true⟩,
  ⟨(some 9), .mv (.t 29), none, true⟩]
@[reducible] def v45_18 : VC := (.seq (.block 3 (.ops o45_16)) (.ops o45_17))
@[reducible] def v45_19 : VC := (.seq (.seq (.ops o45_14) v45_15) v45_18)
-- K45_2: changed and kept: [9, 8]
@[reducible] def K45_2 : List Nat := [1, 5, 6, 7]
@[reducible] def v45_20 : VC := (.loop v45_19)
@[reducible] def v45_21 : VC := (.block 2 v45_20)
@[reducible] def o45_22 : List Ins := [⟨(some 39), .mv (.t 8), none, true⟩,
  ⟨(some 40), .un .not (.t 39), none, true⟩]
@[reducible] def o45_23 : List Ins := [⟨(some 41), .mv (.t 5), none, true⟩,
  ⟨(some 42), .mv (.t 7), none, true⟩,
  ⟨(some 43), .bsl 3 1 [(.t 42)], none, true⟩,
  ⟨(some 44), .app 3 1 8 (.t 41) (.t 43), none, true⟩,
  ⟨(some 5), .mv (.t 44), none, true⟩]
@[reducible] def v45_24 : VC := (.cond (.t 40) (.ops o45_23) .skip)
@[reducible] def v45_25 : VC := (.seq (.ops o45_22) v45_24)
@[reducible] def v45_26 : VC := (.seq (.seq (.ops o45_13) v45_21) v45_25)
@[reducible] def v45_27 : VC := (.seq (.ops o45_12) v45_26)
@[reducible] def o45_28 : List Ins := [⟨(some 22), .mv (.t 7), none, true⟩,
  ⟨(some 23), .bin .add (.t 22) (.k (.c (.int .i64 1))), none, true⟩,
  ⟨(some 7), .mv (.t 23), none, true⟩]
@[reducible] def v45_29 : VC := (.seq (.block 1 v45_27) (.ops o45_28))
@[reducible] def v45_30 : VC := (.seq (.seq (.ops o45_10) v45_11) v45_29)
-- K45_1: changed and kept: [7, 5]
@[reducible] def K45_1 : List Nat := [1, 6]
@[reducible] def v45_31 : VC := (.loop v45_30)
@[reducible] def v45_32 : VC := (.block 0 v45_31)
@[reducible] def o45_33 : List Ins := [⟨(some 45), .mv (.t 5), none, true⟩,
  ⟨(some 2), .mv (.t 45), none, true⟩,
  ⟨(some 3), .mv (.k (.c (.int .i64 0))), none, true⟩]
@[reducible] def v45_34 : VC := (.seq (.ops o45_33) .ret)
@[reducible] def v45_35 : VC := (.seq (.seq (.ops o45_9) v45_32) v45_34)
@[reducible] def v45_36 : VC := (.seq (.ops o45_8) v45_35)
@[reducible] def v45_37 : VC := (.seq (.ops o45_7) v45_36)
@[reducible] def v45_38 : VC := (.seq (.seq (.ops o45_1) v45_6) v45_37)
def ir45 : FC := ⟨1, 46, [.t 2, .t 3], (.seq (.ops o45_0) v45_38)⟩
theorem c45 : compM Try.prog [] 45 = some ir45 := by kernel_rfl



def inAny (l : List (List Nat)) (k : Nat) : Bool := l.any fun t => decide (k ∈ t)
def rshutL (l : List (List Nat)) (k : Nat) : List Int := ((List.range k).filter fun n => !inAny l n).map fun (n : Nat) => (n : Int)
theorem rshutL_succ (l : List (List Nat)) (k : Nat) : rshutL l (k + 1) = rshutL l k ++ (if inAny l k then [] else [(k : Int)]) := by
  unfold rshutL
  rw [List.range_succ, List.filter_append, List.map_append]
  by_cases h : inAny l k = true <;> simp [h]
theorem rshutL_len (l : List (List Nat)) (k : Nat) : (rshutL l k).length ≤ k := by
  unfold rshutL
  rw [List.length_map]
  exact Nat.le_trans (List.length_filter_le _ _) (by simp)
def rshutS (r : Route) : List Int × Int := if r.ok then (rshutL (goodR r false) r.n, 0) else ([], 80)

set_option maxHeartbeats 4000000 in
theorem rshut45 (r : Route) : FSpec Try.prog 45 [r.av] (.tup [.c (ints (rshutS r).1), iv (rshutS r).2]) := by
  refine FSpec_of c45 (Nat.le_refl _) (by decide) fun C hP hN hC hL => ?_
  simp only [ir45, Route.av]
  (repeat ((first | refine WV_seq_ ?_ | refine WV_block ?_ | refine WV_ops ?_ | refine WV_skip ?_ | refine WV_exit ?_); (try simp only [go_sem, init_env', Nat.reduceEqDiff, Nat.reduceAdd, Nat.reduceMul, reduceIte, Nat.reduceLeDiff, Nat.reduceLT, Nat.reduceBEq, reduceCtorEq, hP, ]); (repeat (refine And.intro (by first | omega | (intros; simp_all; done) | (intros; simp_all; omega)) ?_))))
  (refine AS_pure (check_spec r) rfl rfl rfl rfl rfl ?_; simp only [go_sem, init_env', Nat.reduceEqDiff, Nat.reduceAdd, Nat.reduceMul, reduceIte, Nat.reduceLeDiff, Nat.reduceLT, Nat.reduceBEq, reduceCtorEq, hP, Route.av]; (repeat (refine And.intro (by first | omega | (intros; simp_all; done) | (intros; simp_all; omega)) ?_)); (repeat ((first | refine WV_seq_ ?_ | refine WV_block ?_ | refine WV_ops ?_ | refine WV_skip ?_ | refine WV_exit ?_); (try simp only [go_sem, init_env', Nat.reduceEqDiff, Nat.reduceAdd, Nat.reduceMul, reduceIte, Nat.reduceLeDiff, Nat.reduceLT, Nat.reduceBEq, reduceCtorEq, hP, Route.av]); (repeat (refine And.intro (by first | omega | (intros; simp_all; done) | (intros; simp_all; omega)) ?_)))))
  by_cases hok : r.ok = true
  · have hr := Route.ok_spec hok
    have hn7 := hr.n7
    have hsl : (r.stops.length : Int) = (r.n : Int) := rfl
    have hmax : maxLen = 9223372036854775807 := rfl
    simp only [hok, if_true]
    (refine WV_cond rfl (fun h => ?_) (fun h => ?_))
    · simp at h
    · clear h
      have hg := good67 hr false
      have e : rshutS r = (rshutL (goodR r false) r.n, 0) := by simp [rshutS, hok]
      rw [e]
      have hcnt : (goodR r false).length ≤ 16777216 := Nat.le_trans (List.length_filter_le _ _) (allR_count hn7)
      generalize goodR r false = l at *
      (repeat ((first | refine WV_seq_ ?_ | refine WV_block ?_ | refine WV_ops ?_ | refine WV_skip ?_ | refine WV_exit ?_); (try simp only [go_sem, init_env', Nat.reduceEqDiff, Nat.reduceAdd, Nat.reduceMul, reduceIte, Nat.reduceLeDiff, Nat.reduceLT, Nat.reduceBEq, reduceCtorEq, hP, ]); (repeat (refine And.intro (by first | omega | (intros; simp_all; done) | (intros; simp_all; omega)) ?_))))
      (refine AS_pure (hg) rfl rfl rfl rfl rfl ?_; simp only [go_sem, init_env', Nat.reduceEqDiff, Nat.reduceAdd, Nat.reduceMul, reduceIte, Nat.reduceLeDiff, Nat.reduceLT, Nat.reduceBEq, reduceCtorEq, hP, Route.av]; (repeat (refine And.intro (by first | omega | (intros; simp_all; done) | (intros; simp_all; omega)) ?_)); (repeat ((first | refine WV_seq_ ?_ | refine WV_block ?_ | refine WV_ops ?_ | refine WV_skip ?_ | refine WV_exit ?_); (try simp only [go_sem, init_env', Nat.reduceEqDiff, Nat.reduceAdd, Nat.reduceMul, reduceIte, Nat.reduceLeDiff, Nat.reduceLT, Nat.reduceBEq, reduceCtorEq, hP, Route.av]); (repeat (refine And.intro (by first | omega | (intros; simp_all; done) | (intros; simp_all; omega)) ?_)))))
      refine WV_freeze 1 (ds := r.cds) rfl rfl ?_
      simp only [go_sem, init_env', Nat.reduceEqDiff, Nat.reduceAdd, Nat.reduceMul, reduceIte, Nat.reduceLeDiff, Nat.reduceLT, Nat.reduceBEq, reduceCtorEq]
      refine WV_nilslot 5 44 3 1 (by decide) (by decide) rfl rfl ?_
      simp only [go_sem, init_env', Nat.reduceEqDiff, Nat.reduceAdd, Nat.reduceMul, reduceIte, Nat.reduceLeDiff, Nat.reduceLT, Nat.reduceBEq, reduceCtorEq]
      refine WV_loopK K45_1 [44] (fun k : Nat => k ≤ r.n) (fun k => r.n - k) (fun k => [(7, iv k), (5, .gr 44)]) (fun k => [(44, .grow 3 1 ((rshutL l k).map fun n => [.int .i64 n]))]) 0 (Nat.zero_le _) ?_ ?_
      · (refine Sub_of (by simp only [go_sem, init_env', Nat.reduceEqDiff, Nat.reduceAdd, Nat.reduceMul, reduceIte, Nat.reduceLeDiff, Nat.reduceLT, Nat.reduceBEq, reduceCtorEq]; ((repeat' (first | exact EnvLe_e0 _ _ | refine EnvLe_upd ?_ ?_)) <;> ((try simp only [upd_app, e0_app, o0_app, Nat.reduceEqDiff, reduceIte]); first | exact AWk.refl _ _ | exact AWk.int (by omega) | exact AWk.int (by rw [w64 (by omega) (by omega)]; omega) | exact AWk.grow rfl | exact AWk.nil _ | exact AWk.of (by simp)))) (by simp only [go_sem, init_env', Nat.reduceEqDiff, Nat.reduceAdd, Nat.reduceMul, reduceIte, Nat.reduceLeDiff, Nat.reduceLT, Nat.reduceBEq, reduceCtorEq]; ((repeat' (first | exact ObjLe_o0 _ | exact ObjLe.rfl' _ | refine ObjLe_same ?_ | refine ObjLe_upd ?_ ?_ | refine ObjLe_new rfl ?_)) <;> rfl)))
      · intro k hk
        have hsll := rshutL_len l k
        simp only [go_sem, init_env', Nat.reduceEqDiff, Nat.reduceAdd, Nat.reduceMul, reduceIte, Nat.reduceLeDiff, Nat.reduceLT, Nat.reduceBEq, reduceCtorEq]
        (repeat ((first | refine WV_seq_ ?_ | refine WV_block ?_ | refine WV_ops ?_ | refine WV_skip ?_ | refine WV_exit ?_); (try simp only [go_sem, init_env', Nat.reduceEqDiff, Nat.reduceAdd, Nat.reduceMul, reduceIte, Nat.reduceLeDiff, Nat.reduceLT, Nat.reduceBEq, reduceCtorEq, hP, Route.cds, stopsC]); (repeat (refine And.intro (by first | omega | (intros; simp_all; done) | (intros; simp_all; omega)) ?_))))
        (refine WV_cond rfl (fun h => ?_) (fun h => ?_))
        · have h : k < r.n := by rw [hsl] at h; simpa using h
          have hw2 := w64 (n := (k : Int) + 1) (by omega) (by omega)
          have hk0 := h
          (repeat ((first | refine WV_seq_ ?_ | refine WV_block ?_ | refine WV_ops ?_ | refine WV_skip ?_ | refine WV_exit ?_); (try simp only [go_sem, init_env', Nat.reduceEqDiff, Nat.reduceAdd, Nat.reduceMul, reduceIte, Nat.reduceLeDiff, Nat.reduceLT, Nat.reduceBEq, reduceCtorEq, hP, ]); (repeat (refine And.intro (by first | omega | (intros; simp_all; done) | (intros; simp_all; omega)) ?_))))
          refine WV_loopK K45_2 [] (fun j : Nat => j ≤ l.length) (fun j => l.length - j) (fun j => [(9, iv j), (8, .c (.bool (inAny (l.take j) k)))]) (fun _ => []) 0 (Nat.zero_le _) ?_ ?_
          · (refine Sub_of (by simp only [go_sem, init_env', Nat.reduceEqDiff, Nat.reduceAdd, Nat.reduceMul, reduceIte, Nat.reduceLeDiff, Nat.reduceLT, Nat.reduceBEq, reduceCtorEq]; ((repeat' (first | exact EnvLe_e0 _ _ | refine EnvLe_upd ?_ ?_)) <;> ((try simp only [upd_app, e0_app, o0_app, Nat.reduceEqDiff, reduceIte]); first | exact AWk.refl _ _ | exact AWk.int (by omega) | exact AWk.int (by rw [w64 (by omega) (by omega)]; omega) | exact AWk.grow rfl | exact AWk.nil _ | exact AWk.of (by simp)))) (by simp only [go_sem, init_env', Nat.reduceEqDiff, Nat.reduceAdd, Nat.reduceMul, reduceIte, Nat.reduceLeDiff, Nat.reduceLT, Nat.reduceBEq, reduceCtorEq]; ((repeat' (first | exact ObjLe_o0 _ | exact ObjLe.rfl' _ | refine ObjLe_same ?_ | refine ObjLe_upd ?_ ?_ | refine ObjLe_new rfl ?_)) <;> rfl)))
          · intro j hj
            simp only [go_sem, init_env', Nat.reduceEqDiff, Nat.reduceAdd, Nat.reduceMul, reduceIte, Nat.reduceLeDiff, Nat.reduceLT, Nat.reduceBEq, reduceCtorEq]
            (repeat ((first | refine WV_seq_ ?_ | refine WV_block ?_ | refine WV_ops ?_ | refine WV_skip ?_ | refine WV_exit ?_); (try simp only [go_sem, init_env', Nat.reduceEqDiff, Nat.reduceAdd, Nat.reduceMul, reduceIte, Nat.reduceLeDiff, Nat.reduceLT, Nat.reduceBEq, reduceCtorEq, hP, natss_len]); (repeat (refine And.intro (by first | omega | (intros; simp_all; done) | (intros; simp_all; omega)) ?_))))
            (refine WV_cond rfl (fun h => ?_) (fun h => ?_))
            · have h : j < l.length := by simpa using h
              have hw3 := w64 (n := (j : Int) + 1) (by omega) (by omega)
              have hsu : inAny (l.take (j + 1)) k = (inAny (l.take j) k || decide (k ∈ l[j])) := by
                unfold inAny
                rw [List.take_succ_eq_append_getElem h, List.any_append]; simp
              have hin := in56 (l[j].map fun (k : Nat) => (k : Int)) k
              rw [mem_cast] at hin
              (repeat ((first | refine WV_seq_ ?_ | refine WV_block ?_ | refine WV_ops ?_ | refine WV_skip ?_ | refine WV_exit ?_); (try simp only [go_sem, init_env', Nat.reduceEqDiff, Nat.reduceAdd, Nat.reduceMul, reduceIte, Nat.reduceLeDiff, Nat.reduceLT, Nat.reduceBEq, reduceCtorEq, hP, Int.toNat_natCast, natss_getD h, natss_len, Int.ofNat_lt, h, Int.natCast_nonneg]); (repeat (refine And.intro (by first | omega | (intros; simp_all; done) | (intros; simp_all; omega)) ?_))))
              refine AG_pure (fun hG => hin) rfl (fun hG => by simp only [go_sem, init_env', Nat.reduceEqDiff, Nat.reduceAdd, Nat.reduceMul, reduceIte, Nat.reduceLeDiff, Nat.reduceLT, Nat.reduceBEq, reduceCtorEq, hG]) rfl rfl rfl ?_
              simp only [go_sem, init_env', Nat.reduceEqDiff, Nat.reduceAdd, Nat.reduceMul, reduceIte, Nat.reduceLeDiff, Nat.reduceLT, Nat.reduceBEq, reduceCtorEq, hP]
              (try refine ⟨fun h => by simpa using h, ?_⟩)
              (repeat ((first | refine WV_seq_ ?_ | refine WV_block ?_ | refine WV_ops ?_ | refine WV_skip ?_ | refine WV_exit ?_); (try simp only [go_sem, init_env', Nat.reduceEqDiff, Nat.reduceAdd, Nat.reduceMul, reduceIte, Nat.reduceLeDiff, Nat.reduceLT, Nat.reduceBEq, reduceCtorEq, hP, hw3]); (repeat (refine And.intro (by first | omega | (intros; simp_all; done) | (intros; simp_all; omega)) ?_))))
              refine ⟨j + 1, by omega, by omega, ?_⟩
              rw [hsu]
              (refine Sub_of (by simp only [go_sem, init_env', Nat.reduceEqDiff, Nat.reduceAdd, Nat.reduceMul, reduceIte, Nat.reduceLeDiff, Nat.reduceLT, Nat.reduceBEq, reduceCtorEq]; ((repeat' (first | exact EnvLe_e0 _ _ | refine EnvLe_upd ?_ ?_)) <;> ((try simp only [upd_app, e0_app, o0_app, Nat.reduceEqDiff, reduceIte]); first | exact AWk.refl _ _ | exact AWk.int (by omega) | exact AWk.int (by rw [w64 (by omega) (by omega)]; omega) | exact AWk.grow rfl | exact AWk.nil _ | exact AWk.of (by simp)))) (by simp only [go_sem, init_env', Nat.reduceEqDiff, Nat.reduceAdd, Nat.reduceMul, reduceIte, Nat.reduceLeDiff, Nat.reduceLT, Nat.reduceBEq, reduceCtorEq]; ((repeat' (first | exact ObjLe_o0 _ | exact ObjLe.rfl' _ | refine ObjLe_same ?_ | refine ObjLe_upd ?_ ?_ | refine ObjLe_new rfl ?_)) <;> rfl)))
            · have h : j = l.length := by simp at h; omega
              subst h
              rw [List.take_length]
              have hsu := rshutL_succ l k
              (repeat ((first | refine WV_seq_ ?_ | refine WV_block ?_ | refine WV_ops ?_ | refine WV_skip ?_ | refine WV_exit ?_); (try simp only [go_sem, init_env', Nat.reduceEqDiff, Nat.reduceAdd, Nat.reduceMul, reduceIte, Nat.reduceLeDiff, Nat.reduceLT, Nat.reduceBEq, reduceCtorEq, hP, ]); (repeat (refine And.intro (by first | omega | (intros; simp_all; done) | (intros; simp_all; omega)) ?_))))
              (refine WV_cond rfl (fun h => ?_) (fun h => ?_))
              · have h : inAny l k = false := by simpa using h
                rw [if_neg (by rw [h]; simp)] at hsu
                (repeat ((first | refine WV_seq_ ?_ | refine WV_block ?_ | refine WV_ops ?_ | refine WV_skip ?_ | refine WV_exit ?_); (try simp only [go_sem, init_env', Nat.reduceEqDiff, Nat.reduceAdd, Nat.reduceMul, reduceIte, Nat.reduceLeDiff, Nat.reduceLT, Nat.reduceBEq, reduceCtorEq, hP, hw2]); (repeat (refine And.intro (by first | omega | (intros; simp_all; done) | (intros; simp_all; omega)) ?_))))
                refine ⟨k + 1, by omega, by omega, ?_⟩
                rw [hsu]
                (refine Sub_of (by simp only [go_sem, init_env', Nat.reduceEqDiff, Nat.reduceAdd, Nat.reduceMul, reduceIte, Nat.reduceLeDiff, Nat.reduceLT, Nat.reduceBEq, reduceCtorEq]; ((repeat' (first | exact EnvLe_e0 _ _ | refine EnvLe_upd ?_ ?_)) <;> ((try simp only [upd_app, e0_app, o0_app, Nat.reduceEqDiff, reduceIte]); first | exact AWk.refl _ _ | exact AWk.int (by omega) | exact AWk.int (by rw [w64 (by omega) (by omega)]; omega) | exact AWk.grow rfl | exact AWk.nil _ | exact AWk.of (by simp)))) (by simp only [go_sem, init_env', Nat.reduceEqDiff, Nat.reduceAdd, Nat.reduceMul, reduceIte, Nat.reduceLeDiff, Nat.reduceLT, Nat.reduceBEq, reduceCtorEq]; ((repeat' (first | exact ObjLe_o0 _ | exact ObjLe.rfl' _ | refine ObjLe_same ?_ | refine ObjLe_upd ?_ ?_ | refine ObjLe_new rfl ?_)) <;> rfl)))
              · have h : inAny l k = true := by simpa using h
                rw [if_pos h, List.append_nil] at hsu
                (repeat ((first | refine WV_seq_ ?_ | refine WV_block ?_ | refine WV_ops ?_ | refine WV_skip ?_ | refine WV_exit ?_); (try simp only [go_sem, init_env', Nat.reduceEqDiff, Nat.reduceAdd, Nat.reduceMul, reduceIte, Nat.reduceLeDiff, Nat.reduceLT, Nat.reduceBEq, reduceCtorEq, hP, hw2]); (repeat (refine And.intro (by first | omega | (intros; simp_all; done) | (intros; simp_all; omega)) ?_))))
                refine ⟨k + 1, by omega, by omega, ?_⟩
                rw [hsu]
                (refine Sub_of (by simp only [go_sem, init_env', Nat.reduceEqDiff, Nat.reduceAdd, Nat.reduceMul, reduceIte, Nat.reduceLeDiff, Nat.reduceLT, Nat.reduceBEq, reduceCtorEq]; ((repeat' (first | exact EnvLe_e0 _ _ | refine EnvLe_upd ?_ ?_)) <;> ((try simp only [upd_app, e0_app, o0_app, Nat.reduceEqDiff, reduceIte]); first | exact AWk.refl _ _ | exact AWk.int (by omega) | exact AWk.int (by rw [w64 (by omega) (by omega)]; omega) | exact AWk.grow rfl | exact AWk.nil _ | exact AWk.of (by simp)))) (by simp only [go_sem, init_env', Nat.reduceEqDiff, Nat.reduceAdd, Nat.reduceMul, reduceIte, Nat.reduceLeDiff, Nat.reduceLT, Nat.reduceBEq, reduceCtorEq]; ((repeat' (first | exact ObjLe_o0 _ | exact ObjLe.rfl' _ | refine ObjLe_same ?_ | refine ObjLe_upd ?_ ?_ | refine ObjLe_new rfl ?_)) <;> rfl)))
        · have h : k = r.n := by rw [hsl] at h; simp at h; omega
          subst h
          (repeat ((first | refine WV_seq_ ?_ | refine WV_block ?_ | refine WV_ops ?_ | refine WV_skip ?_ | refine WV_exit ?_); (try simp only [go_sem, init_env', Nat.reduceEqDiff, Nat.reduceAdd, Nat.reduceMul, reduceIte, Nat.reduceLeDiff, Nat.reduceLT, Nat.reduceBEq, reduceCtorEq, hP, ]); (repeat (refine And.intro (by first | omega | (intros; simp_all; done) | (intros; simp_all; omega)) ?_))))
          (refine WV_ret ?_; simp only [thenQ, inQ, RetQ, RetOk, resAll, resA]; simp only [go_sem, init_env', Nat.reduceEqDiff, Nat.reduceAdd, Nat.reduceMul, reduceIte, Nat.reduceLeDiff, Nat.reduceLT, Nat.reduceBEq, reduceCtorEq, tupA, AV.port, AV.portL, exists_eq_left', ]; (first | exact AVle.of rfl | refine AVle.of ?_ | skip))
  · have hok : r.ok = false := by simpa using hok
    simp only [hok, Bool.false_eq_true, if_false]
    (refine WV_cond rfl (fun h => ?_) (fun h => ?_))
    · (repeat ((first | refine WV_seq_ ?_ | refine WV_block ?_ | refine WV_ops ?_ | refine WV_skip ?_ | refine WV_exit ?_); (try simp only [go_sem, init_env', Nat.reduceEqDiff, Nat.reduceAdd, Nat.reduceMul, reduceIte, Nat.reduceLeDiff, Nat.reduceLT, Nat.reduceBEq, reduceCtorEq, hP, ]); (repeat (refine And.intro (by first | omega | (intros; simp_all; done) | (intros; simp_all; omega)) ?_))))
      (refine WV_ret ?_; simp only [thenQ, inQ, RetQ, RetOk, resAll, resA]; simp only [go_sem, init_env', Nat.reduceEqDiff, Nat.reduceAdd, Nat.reduceMul, reduceIte, Nat.reduceLeDiff, Nat.reduceLT, Nat.reduceBEq, reduceCtorEq, tupA, AV.port, AV.portL, exists_eq_left', ])
      simp only [rshutS, hok, Bool.false_eq_true, if_false]
      exact AVle.tup (AVles.cons (AVle.nil 1) (AVles.refl _))
    · simp at h
end Go.Proofs.Ytbejgfpaokcnpaa

/-
  Shut: the stops that are the last one of no good tour are in none: plain.
-/
namespace Go.Proofs.Ytbejgfpaokcnpaa
open Go Go.V

theorem mem_toursR {n : Nat} : ∀ (l : List Nat) (f : Nat) (t : List Nat), (t ++ l).Nodup → (∀ k ∈ l, k < n) → l.length ≤ f → t ++ l ∈ toursR n f t
  | [], f, t, _, _, _ => by cases f <;> simp [toursR]
  | k :: l, 0, t, _, _, h => by simp at h
  | k :: l, f + 1, t, hn, hk, h => by
    simp only [toursR, List.mem_cons, List.mem_flatMap, List.mem_range]
    refine .inr ⟨k, hk k (by simp), ?_⟩
    have hnk : k ∉ t := by
      intro hm
      rw [List.nodup_append] at hn
      exact hn.2.2 k hm k (by simp) rfl
    rw [if_neg hnk]
    have := mem_toursR l f (t ++ [k]) (by simpa using hn) (fun j hj => hk j (by simp [hj])) (by simpa using h)
    simpa using this
theorem goodR_prefix {r : Route} {a b : List Nat} (h : a ++ b ∈ goodR r false) : a ∈ goodR r false := by
  obtain ⟨h1, h2, h3, h4⟩ := goodR_mem h
  have h5 : ridden r (a ++ b) = true := by simpa [goodP] using h4
  have ha : a.Nodup := (List.nodup_append.1 h1).1
  have hal : ∀ k ∈ a, k < r.n := fun k hk => h2 k (by simp [hk])
  refine List.mem_filter.2 ⟨?_, ?_⟩
  · have := mem_toursR (n := r.n) a (r.n + 1) [] (by simpa using ha) hal (Nat.le_succ_of_le (tour_len ha hal))
    simpa [allR] using this
  · have : ridden r a = true := by
      unfold ridden at h5 ⊢
      by_cases hx : (ride r (leave r) a).2.1 = none
      · rw [hx]; rfl
      · rw [ride_stop r a _ b hx] at h5
        exact h5
    simp [goodP, this]
theorem lasts_mem {r : Route} {k : Nat} : (k : Int) ∈ lasts (goods r) ↔ inAny (goodR r false) k = true := by
  unfold lasts inAny
  rw [List.mem_filterMap, List.any_eq_true, ← goods_eq]
  constructor
  · rintro ⟨p, hp, hk⟩
    refine ⟨p.1, List.mem_map_of_mem hp, ?_⟩
    rw [Option.map_eq_some_iff] at hk
    obtain ⟨j, hj, e⟩ := hk
    have : j = k := by omega
    subst this
    simpa using List.mem_of_getLast? hj
  · rintro ⟨t, ht, hk⟩
    have hk : k ∈ t := by simpa using hk
    rw [goods_eq] at ht
    obtain ⟨a, b, rfl⟩ := List.append_of_mem hk
    have hp := goodR_prefix (a := a ++ [k]) (b := b) (by simpa using ht)
    rw [← goods_eq] at hp
    obtain ⟨p, hp, e⟩ := List.mem_map.1 hp
    exact ⟨p, hp, by rw [e]; simp⟩
theorem shut_eq (r : Route) : shutS r = rshutS r := by
  unfold shutS rshutS
  cases r.ok
  · rfl
  · simp only [if_true]
    congr 1
    unfold shutL rshutL
    rw [List.filter_map]
    congr 1
    refine List.filter_congr fun k _ => ?_
    simp only [Function.comp]
    congr 1
    rw [Bool.eq_iff_iff, decide_eq_true_eq]
    exact lasts_mem
end Go.Proofs.Ytbejgfpaokcnpaa

/-
  What is true of each good tour, and of all stops: plain.
-/
namespace Go.Proofs.Ytbejgfpaokcnpaa
open Go Go.V

theorem mem_allR {r : Route} {t : List Nat} (hn : t.Nodup) (hl : ∀ k ∈ t, k < r.n) : t ∈ allR r := by
  have := mem_toursR (n := r.n) t (r.n + 1) [] (by simpa using hn) hl (Nat.le_succ_of_le (tour_len hn hl))
  simpa [allR] using this
theorem mem_goodR {r : Route} {t : List Nat} (hn : t.Nodup) (hl : ∀ k ∈ t, k < r.n) (h : ridden r t = true) : t ∈ goodR r false :=
  List.mem_filter.2 ⟨mem_allR hn hl, by simp [goodP, h]⟩
theorem goodR_whole {r : Route} {t : List Nat} (h : t ∈ goodR r false) (hl : t.length = r.n) : t ∈ goodR r true := by
  obtain ⟨h1, h2⟩ := List.mem_filter.1 h
  refine List.mem_filter.2 ⟨h1, ?_⟩
  simp only [goodP, Bool.not_false, Bool.true_or, Bool.true_and] at h2
  simp [goodP, h2, hl]
theorem goodR_false {r : Route} {t : List Nat} (h : t ∈ goodR r true) : t ∈ goodR r false := by
  obtain ⟨h1, h2⟩ := List.mem_filter.1 h
  refine List.mem_filter.2 ⟨h1, ?_⟩
  simp only [goodP, Bool.not_true, Bool.false_or, Bool.and_eq_true] at h2
  simp [goodP, h2.2]
theorem good_tour {r : Route} {l : List Int} (ht : isTour r l = true) (hm : (goS r (toN l)).2.1 < 0) : toN l ∈ goodR r false := by
  refine mem_goodR (toN_nodup ht) (toN_lt ht) ?_
  rw [← goS_neg]
  simpa using hm
theorem ridden_none {r : Route} {t : List Nat} (h : ridden r t = true) : (ride r (leave r) t).2.1 = none := by
  unfold ridden at h
  simpa using h
theorem goS_home {r : Route} (hr : RouteOk r) {t : List Nat} (h : ridden r t = true) : (goS r t).2.2 = (home r t (ride r (leave r) t).2.2).now ∧ longS r t = (home r t (ride r (leave r) t).2.2).long := by
  have h0 := ridden_none h
  have hb := home_back hr t (w := (ride r (leave r) t).2.2) (ts := (ride r (leave r) t).1) (by rw [← h0])
  have hl := ride_long r t (leave r) h0
  constructor
  · rw [hb.1]
    unfold goS
    revert h0
    generalize ride r (leave r) t = x
    obtain ⟨x1, x2, x3⟩ := x
    intro h0
    simp only at h0
    subst h0
    rfl
  · rw [hb.2]
    unfold longS longP
    have e : ((leave r).at_, (leave r).long) = (r.n, (0 : Int)) := rfl
    rw [e] at hl
    rw [hl]
theorem backS_good {r : Route} (hok : r.ok = true) {l : List Int} (ht : isTour r l = true) (h : ridden r (toN l) = true) : backS r l = ((goS r (toN l)).2.2, 0) := by
  have hr := Route.ok_spec hok
  rw [(goS_home hr h).1]
  unfold backS
  rw [if_pos ⟨hok, ht⟩]
  have h0 := ridden_none h
  revert h0
  generalize ride r (leave r) (toN l) = x
  obtain ⟨x1, x2, x3⟩ := x
  intro h0
  simp only at h0
  subst h0
  rfl
theorem ride_later {r : Route} (hr : RouteOk r) : ∀ (t : List Nat) (v : Van), (∀ k ∈ t, k < r.n) → v.at_ < r.n + 1 → (ride r v t).2.1 = none → v.now ≤ (ride r v t).2.2.now ∧ (ride r v t).2.2.at_ < r.n + 1
  | [], v, _, ha, _ => by simpa [ride] using ha
  | k :: t, v, hk, ha, h => by
    simp only [ride] at h ⊢
    have hkn := hk k (by simp)
    by_cases hv : (visit r v k).2.2 = true
    · simp only [hv, if_true] at h ⊢
      have hs := hr.stop k hkn
      have hc := hr.cell v.at_ k ha (by omega)
      have e : v.now ≤ (visit r v k).1.now ∧ (visit r v k).1.at_ = k := by
        unfold visit at hv ⊢
        split at hv
        · cases hv
        · rename_i hc2
          rw [if_neg hc2]
          simp only [drv]
          exact ⟨by omega, trivial⟩
      have ih := ride_later hr t _ (fun j hj => hk j (by simp [hj])) (by rw [e.2]; omega) h
      exact ⟨Int.le_trans e.1 ih.1, ih.2⟩
    · simp [hv] at h
theorem goS_start {r : Route} (hr : RouteOk r) {t : List Nat} (hk : ∀ k ∈ t, k < r.n) (h : ridden r t = true) : r.start ≤ (goS r t).2.2 := by
  have h1 := ride_later hr t (leave r) hk (Nat.lt_succ_self _) (ridden_none h)
  have hb := home_back hr t (w := (ride r (leave r) t).2.2) (ts := (ride r (leave r) t).1) (by rw [← ridden_none h])
  rw [(goS_home hr h).1, hb.1]
  have hc := hr.cell _ r.n h1.2 (Nat.lt_succ_self _)
  have : (leave r).now = r.start := rfl
  omega
theorem longS_pos {r : Route} (hr : RouteOk r) {t : List Nat} (ht : t ∈ goodR r false) : 0 ≤ longS r t := by
  rw [← goods_eq] at ht
  obtain ⟨p, hp, rfl⟩ := List.mem_map.1 ht
  rw [← (atHome_eq hr hp).2]
  exact (atHome_pos hr hp).2
theorem min_fold : ∀ (l : List Int) (b : Int), l.foldl min b ≤ b ∧ (∀ x ∈ l, l.foldl min b ≤ x) ∧ (l.foldl min b = b ∨ l.foldl min b ∈ l)
  | [], b => ⟨Int.le_refl _, by simp, .inl rfl⟩
  | x :: l, b => by
    obtain ⟨h1, h2, h3⟩ := min_fold l (min b x)
    rw [List.foldl_cons]
    refine ⟨by omega, fun y hy => ?_, ?_⟩
    · rcases List.mem_cons.1 hy with rfl | hy
      · omega
      · exact h2 y hy
    · rcases h3 with h3 | h3
      · by_cases hb : b ≤ x
        · exact .inl (by rw [h3]; omega)
        · exact .inr (by rw [h3, show min b x = x from by omega]; simp)
      · exact .inr (by simp [h3])
theorem minS_le (f : List Nat → Int) (L : List (List Nat)) : ∀ t ∈ L, minS f L L.length ≤ f t := by
  intro t ht
  have e : minS f L L.length = (L.map f).foldl min (f (L.getD 0 [])) := by unfold minS; rw [List.take_length, List.foldl_map]
  rw [e]
  exact (min_fold _ _).2.1 _ (List.mem_map_of_mem ht)
theorem minS_mem (f : List Nat → Int) (L : List (List Nat)) (h : 0 < L.length) : ∃ t ∈ L, minS f L L.length = f t := by
  have e : minS f L L.length = (L.map f).foldl min (f (L.getD 0 [])) := by unfold minS; rw [List.take_length, List.foldl_map]
  rw [e]
  rcases (min_fold (L.map f) (f (L.getD 0 []))).2.2 with h1 | h1
  · rw [h1]
    refine ⟨L.getD 0 [], ?_, rfl⟩
    rw [List.getD_eq_getElem?_getD, List.getElem?_eq_getElem h]
    exact List.getElem_mem h
  · obtain ⟨t, ht, e⟩ := List.mem_map.1 h1
    exact ⟨t, ht, e.symm⟩
theorem rmost_le {r : Route} {t : List Nat} (ht : t ∈ goodR r false) : cashS r t ≤ rmostB r (goodR r false) := by
  have e : rmostB r (goodR r false) = ((goodR r false).map (cashS r)).foldl max 0 := by unfold rmostB; rw [List.foldl_map]
  rw [e]
  exact (max_fold _ _ _).2 (.inr ⟨_, List.mem_map_of_mem ht, Int.le_refl _⟩)
theorem rmost_mem (r : Route) : 0 ≤ rmostB r (goodR r false) ∧ (rmostB r (goodR r false) = 0 ∨ ∃ t ∈ goodR r false, rmostB r (goodR r false) = cashS r t) := by
  have e : rmostB r (goodR r false) = ((goodR r false).map (cashS r)).foldl max 0 := by unfold rmostB; rw [List.foldl_map]
  rw [e]
  refine ⟨(max_fold _ _ _).2 (.inl (Int.le_refl _)), ?_⟩
  rcases (max_fold ((goodR r false).map (cashS r)) 0 (((goodR r false).map (cashS r)).foldl max 0)).1 (Int.le_refl _) with h | ⟨x, hx, h⟩
  · left
    have := (max_fold ((goodR r false).map (cashS r)) 0 0).2 (.inl (Int.le_refl _))
    omega
  · right
    obtain ⟨t, ht, rfl⟩ := List.mem_map.1 hx
    refine ⟨t, ht, ?_⟩
    have := (max_fold ((goodR r false).map (cashS r)) 0 (cashS r t)).2 (.inr ⟨_, List.mem_map_of_mem ht, Int.le_refl _⟩)
    omega
theorem not_shut {r : Route} {t : List Nat} (ht : t ∈ goodR r false) {k : Nat} (hk : k ∈ t) : (k : Int) ∉ rshutL (goodR r false) r.n := by
  intro h
  unfold rshutL at h
  obtain ⟨j, hj, e⟩ := List.mem_map.1 h
  have : j = k := by omega
  subst this
  have h2 := (List.mem_filter.1 hj).2
  have : inAny (goodR r false) j = true := List.any_eq_true.2 ⟨t, ht, by simpa using hk⟩
  simp [this] at h2
theorem head_first {r : Route} {a : Nat} {t : List Nat} (ht : a :: t ∈ goodR r true) : (a : Int) ∈ rfirstL (goodR r true) r.n := by
  have h := (goodR_mem ht).2.1 a (by simp)
  unfold rfirstL
  refine List.mem_map.2 ⟨a, List.mem_filter.2 ⟨List.mem_range.2 h, ?_⟩, rfl⟩
  exact List.any_eq_true.2 ⟨_, ht, by simp⟩

/-! ### All stops -/
def allCash (r : Route) : Int := ((List.range r.n).map fun k => (r.s k).ca).sum
theorem sum_perm {l l' : List Int} (h : l.Perm l') : l.sum = l'.sum := by
  induction h with
  | nil => rfl
  | cons x _ ih => simp only [List.sum_cons, ih]
  | swap x y l => simp only [List.sum_cons]; omega
  | trans _ _ h1 h2 => exact h1.trans h2
theorem tour_perm {n : Nat} {t : List Nat} (hn : t.Nodup) (hl : ∀ k ∈ t, k < n) : (List.range n).Perm (t ++ (List.range n).filter fun k => !decide (k ∈ t)) := by
  have h1 : ((List.range n).filter fun k => decide (k ∈ t)).Perm t := by
    refine (List.perm_ext_iff_of_nodup (List.nodup_range.filter _) hn).2 fun k => ?_
    simp only [List.mem_filter, List.mem_range, decide_eq_true_eq]
    exact ⟨fun h => h.2, fun h => ⟨hl k h, h⟩⟩
  have h2 := List.filter_append_perm (fun k => decide (k ∈ t)) (List.range n)
  exact h2.symm.trans (h1.append_right _)
theorem cash_all {r : Route} {t : List Nat} (hn : t.Nodup) (hl : ∀ k ∈ t, k < r.n) : allCash r = cashS r t + (((List.range r.n).filter fun k => !decide (k ∈ t)).map fun k => (r.s k).ca).sum := by
  unfold allCash cashS
  rw [sum_perm ((tour_perm hn hl).map fun k => (r.s k).ca), List.map_append, List.sum_append]
theorem sum_nonneg : ∀ {l : List Int}, (∀ x ∈ l, 0 ≤ x) → 0 ≤ l.sum
  | [], _ => by simp
  | x :: l, h => by
    have h1 := h x (by simp)
    have h2 := sum_nonneg (l := l) fun y hy => h y (by simp [hy])
    simp only [List.sum_cons]; omega
theorem cash_le {r : Route} (hr : RouteOk r) {t : List Nat} (hn : t.Nodup) (hl : ∀ k ∈ t, k < r.n) : cashS r t ≤ allCash r := by
  have h := cash_all hn hl
  have : 0 ≤ (((List.range r.n).filter fun k => !decide (k ∈ t)).map fun k => (r.s k).ca).sum := by
    refine sum_nonneg fun x hx => ?_
    obtain ⟨k, hk, rfl⟩ := List.mem_map.1 hx
    have := hr.stop k (List.mem_range.1 (List.mem_filter.1 hk).1)
    omega
  omega
theorem left_none {n : Nat} {t : List Nat} (hn : t.Nodup) (hl : ∀ k ∈ t, k < n) : (List.range n).filter (fun k => !decide (k ∈ t)) = [] ↔ t.length = n := by
  have h := (tour_perm hn hl).length_eq
  rw [List.length_append, List.length_range] at h
  rw [← List.length_eq_zero_iff]
  omega
theorem cash_whole {r : Route} {t : List Nat} (hn : t.Nodup) (hl : ∀ k ∈ t, k < r.n) (h : t.length = r.n) : cashS r t = allCash r := by
  have := cash_all hn hl
  rw [(left_none hn hl).2 h] at this
  simp at this
  omega
theorem cash_eq {r : Route} (hr : RouteOk r) (hp : ∀ k, k < r.n → 0 < (r.s k).ca) {t : List Nat} (hn : t.Nodup) (hl : ∀ k ∈ t, k < r.n) (h : cashS r t = allCash r) : t.length = r.n := by
  refine (left_none hn hl).1 ?_
  have h2 := cash_all hn hl
  rw [List.eq_nil_iff_forall_not_mem]
  intro k hk
  have hk' := List.mem_filter.1 hk
  have h3 : ∀ l : List Nat, (∀ j ∈ l, j < r.n) → k ∈ l → 0 < (l.map fun k => (r.s k).ca).sum := by
    intro l
    induction l with
    | nil => intro _ h; cases h
    | cons a l ih =>
      intro hl hk
      simp only [List.map_cons, List.sum_cons]
      have ha := hp a (hl a (by simp))
      have h0 : 0 ≤ (l.map fun k => (r.s k).ca).sum := sum_nonneg fun x hx => by
        obtain ⟨j, hj, rfl⟩ := List.mem_map.1 hx
        have := hr.stop j (hl j (by simp [hj]))
        omega
      omega
  have := h3 _ (fun j hj => List.mem_range.1 (List.mem_filter.1 hj).1) hk
  omega
theorem most_all {r : Route} (hr : RouteOk r) : rmostB r (goodR r false) ≤ allCash r := by
  have h0 : 0 ≤ allCash r := sum_nonneg fun x hx => by
    obtain ⟨k, hk, rfl⟩ := List.mem_map.1 hx
    have := hr.stop k (List.mem_range.1 hk)
    omega
  rcases (rmost_mem r).2 with h | ⟨t, ht, h⟩
  · omega
  · rw [h]
    exact cash_le hr (goodR_mem ht).1 (goodR_mem ht).2.1
theorem most_whole {r : Route} (hr : RouteOk r) {t : List Nat} (h : t ∈ goodR r true) : rmostB r (goodR r false) = allCash r := by
  have h1 := rmost_le (goodR_false h)
  rw [cash_whole (goodR_mem h).1 (goodR_mem h).2.1 (goodR_true h).1] at h1
  have := most_all hr
  omega
theorem nil_good (r : Route) : [] ∈ goodR r false := mem_goodR List.nodup_nil (by simp) rfl
theorem whole_most {r : Route} (hr : RouteOk r) (hp : ∀ k, k < r.n → 0 < (r.s k).ca) (h : rmostB r (goodR r false) = allCash r) : goodR r true ≠ [] := by
  have hx : ∃ t ∈ goodR r false, cashS r t = allCash r := by
    rcases (rmost_mem r).2 with h1 | ⟨t, ht, h1⟩
    · exact ⟨[], nil_good r, by rw [← h, h1]; rfl⟩
    · exact ⟨t, ht, by rw [← h, h1]⟩
  obtain ⟨t, ht, h1⟩ := hx
  have := goodR_whole ht (cash_eq hr hp (goodR_mem ht).1 (goodR_mem ht).2.1 h1)
  intro e
  rw [e] at this
  cases this
theorem shut_none {r : Route} {t : List Nat} (h : t ∈ goodR r true) : rshutL (goodR r false) r.n = [] := by
  unfold rshutL
  rw [List.map_eq_nil_iff, List.filter_eq_nil_iff]
  intro k hk
  have hk := List.mem_range.1 hk
  have hm := goodR_mem h
  have : k ∈ t := by
    have hl := (left_none hm.1 hm.2.1).2 (goodR_true h).1
    have := List.eq_nil_iff_forall_not_mem.1 hl k
    simp only [List.mem_filter, List.mem_range, not_and, Bool.not_eq_true'] at this
    have := this hk
    simpa using this
  have h2 : inAny (goodR r false) k = true := List.any_eq_true.2 ⟨t, goodR_false h, by simpa using this⟩
  simp [h2]
theorem first_none {r : Route} (h : errR r = 0) : rfirstL (goodR r true) r.n = [] ↔ r.n = 0 := by
  obtain ⟨_, _, hlen⟩ := errR_eq h
  constructor
  · intro e
    obtain ⟨t, ht⟩ : ∃ t, t ∈ goodR r true := ⟨_, List.getElem_mem hlen⟩
    cases t with
    | nil => exact (goodR_true ht).1.symm
    | cons a t =>
      have := head_first ht
      rw [e] at this
      cases this
  · intro e
    rw [e]
    rfl
end Go.Proofs.Ytbejgfpaokcnpaa

namespace Go.Proofs.Ytbejgfpaokcnpaa
open Go Go.V
@[reducible] def o10_0 : List Ins := [⟨(some 1), .box 3 (.t 0), none, true⟩,
  ⟨(some 2), .mv (.k (.c (.bool false))), none, true⟩]
@[reducible] def o10_1 : List Ins := [⟨(some 14), .ld false 3 (.t 1), none, true⟩,
  ⟨(some 15), .call (.k (.fn 13 [])) [(.t 14)], none, true⟩,
  ⟨(some 16), .un .not (.t 15), none, true⟩]
@[reducible] def o10_2 : List Ins := [⟨(some 17), .call (.k (.fn 14 [])) [], none, true⟩,
  ⟨(some 2), .mv (.t 17), none, true⟩]
@[reducible] def v10_3 : VC := (.seq (.ops o10_2) .ret)
@[reducible] def v10_4 : VC := (.cond (.t 16) v10_3 .skip)
@[reducible] def o10_5 : List Ins := [⟨(some 19), .ld false 3 (.t 1), none, true⟩,
  ⟨(some 20), .call (.k (.fn 41 [])) [(.t 19)], none, true⟩,
  ⟨(some 18), .mv (.t 20), none, true⟩,
  ⟨(some 21), .ext (.t 18) 0, none, true⟩,
  ⟨(some 22), .ext (.t 18) 1, none, true⟩,
  ⟨(some 3), .mv (.t 21), none, true⟩,
  ⟨(some 4), .mv (.t 22), none, true⟩]
@[reducible] def o10_6 : List Ins := [⟨(some 24), .ld false 3 (.t 1), none, true⟩,
  ⟨(some 25), .call (.k (.fn 35 [])) [(.t 24)], none, true⟩,
  ⟨(some 23), .mv (.t 25), none, true⟩,
  ⟨(some 26), .ext (.t 23) 0, none, true⟩,
  ⟨(some 27), .ext (.t 23) 1, none, true⟩,
  ⟨(some 5), .mv (.t 26), none, true⟩,
  ⟨(some 6), .mv (.t 27), none, true⟩]
@[reducible] def o10_7 : List Ins := [⟨(some 29), .ld false 3 (.t 1), none, true⟩,
  ⟨(some 30), .call (.k (.fn 38 [])) [(.t 29)], none, true⟩,
  ⟨(some 28), .mv (.t 30), none, true⟩,
  ⟨(some 31), .ext (.t 28) 0, none, true⟩,
  ⟨(some 32), .ext (.t 28) 1, none, true⟩,
  ⟨(some 7), .mv (.t 31), none, true⟩,
  ⟨(some 8), .mv (.t 32), none, true⟩]
@[reducible] def o10_8 : List Ins := [⟨(some 34), .ld false 3 (.t 1), none, true⟩,
  ⟨(some 35), .call (.k (.fn 42 [])) [(.t 34)], none, true⟩,
  ⟨(some 33), .mv (.t 35), none, true⟩,
  ⟨(some 36), .ext (.t 33) 0, none, true⟩,
  ⟨(some 37), .ext (.t 33) 1, none, true⟩,
  ⟨(some 9), .mv (.t 36), none, true⟩,
  ⟨(some 10), .mv (.t 37), none, true⟩]
@[reducible] def o10_9 : List Ins := [⟨(some 38), .mv (.t 4), none, true⟩,
  ⟨(some 39), .bin .neq (.t 38) (.k (.c (.int .i64 0))), none, true⟩,
  ⟨(some 40), .mv (.t 39), none, true⟩,
  ⟨(some 41), .mv (.t 6), (some (40, false)), true⟩,
  ⟨(some 42), .call (.k (.fn 16 [])) [(.t 41)], (some (40, false)), true⟩,
  ⟨(some 43), .un .not (.t 42), (some (40, false)), true⟩,
  ⟨(some 44), .pick (.t 40) (.k (.c (.bool true))) (.t 43), none, true⟩,
  ⟨(some 45), .mv (.t 44), none, true⟩,
  ⟨(some 46), .mv (.t 8), (some (45, false)), true⟩,
  ⟨(some 47), .mv (.t 6), (some (45, false)), true⟩,
  ⟨(some 48), .bin .neq (.t 46) (.t 47), (some (45, false)), true⟩,
  ⟨(some 49), .pick (.t 45) (.k (.c (.bool true))) (.t 48), none, true⟩,
  ⟨(some 50), .mv (.t 49), none, true⟩,
  ⟨(some 51), .mv (.t 10), (some (50, false)), true⟩,
  ⟨(some 52), .bin .neq (.t 51) (.k (.c (.int .i64 0))), (some (50, false)), true⟩,
  ⟨(some 53), .pick (.t 50) (.k (.c (.bool true))) (.t 52), none, true⟩,
  ⟨(some 54), .mv (.t 53), none, true⟩,
  ⟨(some 55), .mv (.t 7), (some (54, false)), true⟩,
  ⟨(some 56), .len (.t 55), (some (54, false)), true⟩,
  ⟨(some 57), .bin .gtr (.t 56) (.k (.c (.int .i64 7))), (some (54, false)), true⟩,
  ⟨(some 58), .pick (.t 54) (.k (.c (.bool true))) (.t 57), none, true⟩,
  ⟨(some 59), .mv (.t 58), none, true⟩,
  ⟨(some 60), .mv (.t 7), (some (59, false)), true⟩,
  ⟨(some 61), .len (.t 60), (some (59, false)), true⟩,
  ⟨(some 62), .bin .eql (.t 61) (.k (.c (.int .i64 0))), (some (59, false)), true⟩,
  ⟨(some 63), .mv (.t 8), (some (59, false)), true⟩,
  ⟨(some 64), .bin .neq (.t 63) (.k (.c (.int .i64 0))), (some (59, false)), true⟩,
  ⟨(some 65), .mv (.t 64), (some (59, false)), true⟩,
  ⟨(some 66), .fa 0 (.t 1), (some (65, false)), true⟩,
  ⟨(some 67), .ld true 1 (.t 66), (some (65, false)), true⟩,
  ⟨(some 68), .len (.t 67), (some (65, false)), true⟩,
  ⟨(some 69), .bin .eql (.t 68) (.k (.c (.int .i64 0))), (some (65, false)), true⟩,
  ⟨(some 70), .pick (.t 65) (.k (.c (.bool true))) (.t 69), (some (59, false)), true⟩,
  ⟨(some 71), .eqs true (.t 62) (.t 70), (some (59, false)), true⟩,
  ⟨(some 72), .pick (.t 59) (.k (.c (.bool true))) (.t 71), none, true⟩,
  ⟨(some 73), .mv (.t 72), none, true⟩,
  ⟨(some 74), .mv (.t 6), (some (73, false)), true⟩,
  ⟨(some 75), .bin .eql (.t 74) (.k (.c (.int .i64 0))), (some (73, false)), true⟩,
  ⟨(some 76), .mv (.t 75), (some (73, false)), true⟩,
  ⟨(some 77), .mv (.t 9), (some (76, true)), true⟩,
  ⟨(some 78), .len (.t 77), (some (76, true)), true⟩,
  ⟨(some 79), .bin .gtr (.t 78) (.k (.c (.int .i64 0))), (some (76, true)), true⟩,
  ⟨(some 80), .pick (.t 76) (.t 79) (.k (.c (.bool false))), (some (73, false)), true⟩,
  ⟨(some 81), .pick (.t 73) (.k (.c (.bool true))) (.t 80), none, true⟩]
@[reducible] def o10_10 : List Ins := [⟨(some 2), .mv (.k (.c (.bool false))), none, true⟩]
@[reducible] def v10_11 : VC := (.seq (.ops o10_10) .ret)
@[reducible] def v10_12 : VC := (.cond (.t 81) v10_11 .skip)
@[reducible] def o10_13 : List Ins := [⟨(some 11), .mv (.k (.c (.int .i64 0))), none, true⟩,
  ⟨(some 12), .mv (.k (.c (.bool true))), none, true⟩]
@[reducible] def o10_14 : List Ins := [⟨(some 13), .mv (.k (.c (.int .i64 0))), none, true⟩]
@[reducible] def o10_15 : List Ins := [⟨(some 82), .mv (.t 13), none, true⟩,
  ⟨(some 83), .fa 0 (.t 1), none, true⟩,
  ⟨(some 84), .ld true 1 (.t 83), none, true⟩,
  ⟨(some 85), .len (.t 84), none, true⟩,
  ⟨(some 86), .bin .lss (.t 82) (.t 85), none, true⟩]
@[reducible] def v10_16 : VC := (.cond (.t 86) .skip (.exit 0))
@[reducible] def o10_17 : List Ins := [⟨(some 89), .mv (.t 11), none, true⟩,
  ⟨(some 90), .fa 0 (.t 1), none, true⟩,
  ⟨(some 91), .ld true 1 (.t 90), none, true⟩,
  ⟨(some 92), .mv (.t 13), none, true⟩,
  ⟨(some 93), .ia 4 (.t 91) (.t 92), none, true⟩,
  ⟨(some 94), .fa 3 (.t 93), none, true⟩,
  ⟨(some 95), .ld true 1 (.t 94), none, true⟩,
  ⟨(some 96), .bin .add (.t 89) (.t 95), none, true⟩,
  ⟨(some 11), .mv (.t 96), none, true⟩]
@[reducible] def o10_18 : List Ins := [⟨(some 97), .mv (.t 12), none, true⟩,
  ⟨(some 98), .mv (.t 97), none, true⟩,
  ⟨(some 99), .fa 0 (.t 1), (some (98, true)), true⟩,
  ⟨(some 100), .ld true 1 (.t 99), (some (98, true)), true⟩,
  ⟨(some 101), .mv (.t 13), (some (98, true)), true⟩,
  ⟨(some 102), .ia 4 (.t 100) (.t 101), (some (98, true)), true⟩,
  ⟨(some 103), .fa 3 (.t 102), (some (98, true)), true⟩,
  ⟨(some 104), .ld true 1 (.t 103), (some (98, true)), true⟩,
  ⟨(some 105), .bin .gtr (.t 104) (.k (.c (.int .i64 0))), (some (98, true)), true⟩,
  ⟨(some 106), .pick (.t 98) (.t 105) (.k (.c (.bool false))), none, true⟩,
  ⟨(some 12), .mv (.t 106), none, true⟩]
@[reducible] def v10_19 : VC := (.seq (.ops o10_17) (.ops o10_18))
@[reducible] def o10_20 : List Ins := [⟨(some 87), .mv (.t 13), none, true⟩,
  ⟨(some 88), .bin .add (.t 87) (.k (.c (.int .i64 1))), none, true⟩,
  ⟨(some 13), .mv (.t 88), none, true⟩]
@[reducible] def v10_21 : VC := (.seq (.block 1 v10_19) (.ops o10_20))
@[reducible] def v10_22 : VC := (.seq (.seq (.ops o10_15) v10_16) v10_21)
-- K10_1: changed and kept: [13, 11, 12]
@[reducible] def K10_1 : List Nat := [1, 3, 6]
@[reducible] def v10_23 : VC := (.loop v10_22)
@[reducible] def v10_24 : VC := (.block 0 v10_23)
@[reducible] def o10_25 : List Ins := [⟨(some 107), .mv (.t 6), none, true⟩,
  ⟨(some 108), .bin .eql (.t 107) (.k (.c (.int .i64 0))), none, true⟩,
  ⟨(some 109), .mv (.t 108), none, true⟩,
  ⟨(some 110), .mv (.t 3), (some (109, true)), true⟩,
  ⟨(some 111), .mv (.t 11), (some (109, true)), true⟩,
  ⟨(some 112), .bin .neq (.t 110) (.t 111), (some (109, true)), true⟩,
  ⟨(some 113), .pick (.t 109) (.t 112) (.k (.c (.bool false))), none, true⟩,
  ⟨(some 114), .mv (.t 113), none, true⟩,
  ⟨(some 115), .mv (.t 3), (some (114, false)), true⟩,
  ⟨(some 116), .bin .lss (.t 115) (.k (.c (.int .i64 0))), (some (114, false)), true⟩,
  ⟨(some 117), .pick (.t 114) (.k (.c (.bool true))) (.t 116), none, true⟩,
  ⟨(some 118), .mv (.t 117), none, true⟩,
  ⟨(some 119), .mv (.t 3), (some (118, false)), true⟩,
  ⟨(some 120), .mv (.t 11), (some (118, false)), true⟩,
  ⟨(some 121), .bin .gtr (.t 119) (.t 120), (some (118, false)), true⟩,
  ⟨(some 122), .pick (.t 118) (.k (.c (.bool true))) (.t 121), none, true⟩]
@[reducible] def o10_26 : List Ins := [⟨(some 2), .mv (.k (.c (.bool false))), none, true⟩]
@[reducible] def v10_27 : VC := (.seq (.ops o10_26) .ret)
@[reducible] def v10_28 : VC := (.cond (.t 122) v10_27 .skip)
@[reducible] def o10_29 : List Ins := [⟨(some 123), .mv (.t 12), none, true⟩,
  ⟨(some 124), .un .not (.t 123), none, true⟩,
  ⟨(some 125), .mv (.t 124), none, true⟩,
  ⟨(some 126), .mv (.t 6), (some (125, false)), true⟩,
  ⟨(some 127), .bin .eql (.t 126) (.k (.c (.int .i64 0))), (some (125, false)), true⟩,
  ⟨(some 128), .mv (.t 3), (some (125, false)), true⟩,
  ⟨(some 129), .mv (.t 11), (some (125, false)), true⟩,
  ⟨(some 130), .bin .eql (.t 128) (.t 129), (some (125, false)), true⟩,
  ⟨(some 131), .eqs false (.t 127) (.t 130), (some (125, false)), true⟩,
  ⟨(some 132), .pick (.t 125) (.k (.c (.bool true))) (.t 131), none, true⟩,
  ⟨(some 133), .mv (.t 132), none, true⟩,
  ⟨(some 134), .call (.k (.fn 14 [])) [], (some (133, true)), true⟩,
  ⟨(some 135), .pick (.t 133) (.t 134) (.k (.c (.bool false))), none, true⟩,
  ⟨(some 2), .mv (.t 135), none, true⟩]
@[reducible] def v10_30 : VC := (.seq (.ops o10_29) .ret)
@[reducible] def v10_31 : VC := (.seq (.seq (.ops o10_25) v10_28) v10_30)
@[reducible] def v10_32 : VC := (.seq (.seq (.ops o10_14) v10_24) v10_31)
@[reducible] def v10_33 : VC := (.seq (.ops o10_13) v10_32)
@[reducible] def v10_34 : VC := (.seq (.seq (.ops o10_9) v10_12) v10_33)
@[reducible] def v10_35 : VC := (.seq (.ops o10_8) v10_34)
@[reducible] def v10_36 : VC := (.seq (.ops o10_7) v10_35)
@[reducible] def v10_37 : VC := (.seq (.ops o10_6) v10_36)
@[reducible] def v10_38 : VC := (.seq (.ops o10_5) v10_37)
@[reducible] def v10_39 : VC := (.seq (.seq (.ops o10_1) v10_4) v10_38)
def ir10 : FC := ⟨1, 136, [.t 2], (.seq (.ops o10_0) v10_39)⟩
theorem c10 : compM Try.prog [] 10 = some ir10 := by kernel_rfl



def sumK (r : Route) (k : Nat) : Int := ((List.range k).map fun k => (r.s k).ca).sum
theorem sumK_succ (r : Route) (k : Nat) : sumK r (k + 1) = sumK r k + (r.s k).ca := by simp [sumK, List.range_succ]
theorem sumK_ok {r : Route} (hr : RouteOk r) : ∀ k, k ≤ r.n → 0 ≤ sumK r k ∧ sumK r k ≤ 99999 * k
  | 0, _ => by simp [sumK]
  | k + 1, h => by
    have := sumK_ok hr k (by omega)
    have h2 := hr.stop k (by omega)
    rw [sumK_succ]
    omega
def posK (r : Route) (k : Nat) : Bool := (List.range k).all fun k => decide (0 < (r.s k).ca)
theorem posK_succ (r : Route) (k : Nat) : posK r (k + 1) = (posK r k && decide (0 < (r.s k).ca)) := by simp [posK, List.range_succ]
theorem posK_all {r : Route} (h : posK r r.n = true) : ∀ k, k < r.n → 0 < (r.s k).ca := fun k hk => by
  have := List.all_eq_true.1 h k (List.mem_range.2 hk)
  simpa using this

set_option maxRecDepth 20000 in
set_option maxHeartbeats 16000000 in
theorem law10 (r : Route) : FSpec Try.prog 10 [r.av] (.c (.bool true)) := by
  have hmost := most41 r
  rw [most_eq] at hmost
  have hshut := shut42 r
  rw [shut_eq] at hshut
  have hsoon := soon35 r
  rw [soon_eq] at hsoon
  have hfirst := firsts38 r
  rw [first_eq] at hfirst
  by_cases hrd : readyS r = true
  rotate_left
  · have hrd : readyS r = false := by simpa using hrd
    refine FSpec_of c10 (Nat.le_refl _) (by decide) fun C hP hN hC hL => ?_
    simp only [ir10, Route.av]
    (repeat ((first | refine WV_seq_ ?_ | refine WV_block ?_ | refine WV_ops ?_ | refine WV_skip ?_ | refine WV_exit ?_); (try simp (maxSteps := 2000000) only [go_sem, init_env', Nat.reduceEqDiff, Nat.reduceAdd, Nat.reduceMul, reduceIte, Nat.reduceLeDiff, Nat.reduceLT, Nat.reduceBEq, reduceCtorEq, hP, ]); (repeat (refine And.intro (by first | omega | (intros; simp_all; done) | (intros; simp_all; omega)) ?_))))
    (refine AS_pure (ready13 r) rfl rfl rfl rfl rfl ?_; simp (maxSteps := 2000000) only [go_sem, init_env', Nat.reduceEqDiff, Nat.reduceAdd, Nat.reduceMul, reduceIte, Nat.reduceLeDiff, Nat.reduceLT, Nat.reduceBEq, reduceCtorEq, hP, Route.av, hrd]; (repeat (refine And.intro (by first | omega | (intros; simp_all; done) | (intros; simp_all; omega)) ?_)); (repeat ((first | refine WV_seq_ ?_ | refine WV_block ?_ | refine WV_ops ?_ | refine WV_skip ?_ | refine WV_exit ?_); (try simp (maxSteps := 2000000) only [go_sem, init_env', Nat.reduceEqDiff, Nat.reduceAdd, Nat.reduceMul, reduceIte, Nat.reduceLeDiff, Nat.reduceLT, Nat.reduceBEq, reduceCtorEq, hP, Route.av, hrd]); (repeat (refine And.intro (by first | omega | (intros; simp_all; done) | (intros; simp_all; omega)) ?_)))))
    (refine WV_cond rfl (fun h => ?_) (fun h => ?_))
    · (repeat ((first | refine WV_seq_ ?_ | refine WV_block ?_ | refine WV_ops ?_ | refine WV_skip ?_ | refine WV_exit ?_); (try simp (maxSteps := 2000000) only [go_sem, init_env', Nat.reduceEqDiff, Nat.reduceAdd, Nat.reduceMul, reduceIte, Nat.reduceLeDiff, Nat.reduceLT, Nat.reduceBEq, reduceCtorEq, hP, ]); (repeat (refine And.intro (by first | omega | (intros; simp_all; done) | (intros; simp_all; omega)) ?_))))
      (refine AS_pure (works14) rfl rfl rfl rfl rfl ?_; simp (maxSteps := 2000000) only [go_sem, init_env', Nat.reduceEqDiff, Nat.reduceAdd, Nat.reduceMul, reduceIte, Nat.reduceLeDiff, Nat.reduceLT, Nat.reduceBEq, reduceCtorEq, hP, ]; (repeat (refine And.intro (by first | omega | (intros; simp_all; done) | (intros; simp_all; omega)) ?_)); (repeat ((first | refine WV_seq_ ?_ | refine WV_block ?_ | refine WV_ops ?_ | refine WV_skip ?_ | refine WV_exit ?_); (try simp (maxSteps := 2000000) only [go_sem, init_env', Nat.reduceEqDiff, Nat.reduceAdd, Nat.reduceMul, reduceIte, Nat.reduceLeDiff, Nat.reduceLT, Nat.reduceBEq, reduceCtorEq, hP, ]); (repeat (refine And.intro (by first | omega | (intros; simp_all; done) | (intros; simp_all; omega)) ?_)))))
      (refine WV_ret ?_; simp only [thenQ, inQ, RetQ, RetOk, resAll, resA]; simp (maxSteps := 2000000) only [go_sem, init_env', Nat.reduceEqDiff, Nat.reduceAdd, Nat.reduceMul, reduceIte, Nat.reduceLeDiff, Nat.reduceLT, Nat.reduceBEq, reduceCtorEq, tupA, AV.port, AV.portL, exists_eq_left', ]; (first | exact AVle.of rfl | refine AVle.of ?_ | skip))
    · simp at h
  obtain ⟨hok, hnear⟩ := readyS_of hrd
  have hr := Route.ok_spec hok
  have hn7 := hr.n7
  have hS : rshutS r = (rshutL (goodR r false) r.n, 0) := by simp [rshutS, hok]
  have hM : rmostS r = (rmostB r (goodR r false), 0) := by simp [rmostS, hok]
  rw [hS] at hshut
  rw [hM] at hmost
  have hfl := rfirstL_len (goodR r true) r.n
  have hMA := most_all hr
  have hM0 := (rmost_mem r).1
  have hA : allCash r = sumK r r.n := rfl
  have hwm : errR r = 0 → rmostB r (goodR r false) = allCash r ∧ rshutL (goodR r false) r.n = [] ∧ (rfirstL (goodR r true) r.n = [] ↔ r.n = 0) := fun he => by
    obtain ⟨_, _, hlen⟩ := errR_eq he
    have ht := List.getElem_mem hlen
    exact ⟨most_whole hr ht, shut_none ht, first_none he⟩
  have hnm : errR r ≠ 0 → posK r r.n = true → rmostB r (goodR r false) ≠ allCash r := fun he hp e => by
    have := whole_most hr (posK_all hp) e
    exact he (by unfold errR; rw [if_pos hok, if_neg this])
  have h03 : errR r = 0 ∨ errR r = 3 := by
    unfold errR
    rw [if_pos hok]
    split
    · exact .inr rfl
    · exact .inl rfl
  have hsl0 : (r.stops.length : Int) = (r.n : Int) := rfl
  have hsK := sumK_ok hr
  rw [hA] at hMA
  simp only [hA] at hwm hnm
  have hd2 : decide (rmostB r (goodR r false) < 0) = false := by simp; omega
  have hd3 : decide (sumK r r.n < rmostB r (goodR r false)) = false := by simp; omega
  rcases h03 with he | he
  · obtain ⟨w1, w2, w3⟩ := hwm he
    have e1 : rsoonS r = (minS (fun t => (goS r t).2.2) (goodR r true) (goodR r true).length, 0) := if_pos he
    have e2 : rfirstS r = (rfirstL (goodR r true) r.n, 0) := if_pos he
    rw [e1] at hsoon
    rw [e2] at hfirst
    rw [w2] at hshut
    rw [w1] at hmost
    generalize rfirstL (goodR r true) r.n = F1 at *
    have hd1 : decide (7 < (F1.length : Int)) = false := by simp; omega
    have hd0 : ((F1.length : Int) == 0) = ((r.n : Int) == 0) := by
      rw [Bool.eq_iff_iff]
      simp only [beq_iff_eq]
      have : F1.length = 0 ↔ r.n = 0 := by rw [List.length_eq_zero_iff]; exact w3
      omega
    refine FSpec_of c10 (Nat.le_refl _) (by decide) fun C hP hN hC hL => ?_
    simp only [ir10, Route.av]
    (repeat ((first | refine WV_seq_ ?_ | refine WV_block ?_ | refine WV_ops ?_ | refine WV_skip ?_ | refine WV_exit ?_); (try simp (maxSteps := 2000000) only [go_sem, init_env', Nat.reduceEqDiff, Nat.reduceAdd, Nat.reduceMul, reduceIte, Nat.reduceLeDiff, Nat.reduceLT, Nat.reduceBEq, reduceCtorEq, hP, ]); (repeat (refine And.intro (by first | omega | (intros; simp_all; done) | (intros; simp_all; omega)) ?_))))
    (refine AS_pure (ready13 r) rfl rfl rfl rfl rfl ?_; simp (maxSteps := 2000000) only [go_sem, init_env', Nat.reduceEqDiff, Nat.reduceAdd, Nat.reduceMul, reduceIte, Nat.reduceLeDiff, Nat.reduceLT, Nat.reduceBEq, reduceCtorEq, hP, Route.av, hrd]; (repeat (refine And.intro (by first | omega | (intros; simp_all; done) | (intros; simp_all; omega)) ?_)); (repeat ((first | refine WV_seq_ ?_ | refine WV_block ?_ | refine WV_ops ?_ | refine WV_skip ?_ | refine WV_exit ?_); (try simp (maxSteps := 2000000) only [go_sem, init_env', Nat.reduceEqDiff, Nat.reduceAdd, Nat.reduceMul, reduceIte, Nat.reduceLeDiff, Nat.reduceLT, Nat.reduceBEq, reduceCtorEq, hP, Route.av, hrd]); (repeat (refine And.intro (by first | omega | (intros; simp_all; done) | (intros; simp_all; omega)) ?_)))))
    (refine WV_cond rfl (fun h => ?_) (fun h => ?_))
    · simp at h
    clear h
    (repeat ((first | refine WV_seq_ ?_ | refine WV_block ?_ | refine WV_ops ?_ | refine WV_skip ?_ | refine WV_exit ?_); (try simp (maxSteps := 2000000) only [go_sem, init_env', Nat.reduceEqDiff, Nat.reduceAdd, Nat.reduceMul, reduceIte, Nat.reduceLeDiff, Nat.reduceLT, Nat.reduceBEq, reduceCtorEq, hP, ]); (repeat (refine And.intro (by first | omega | (intros; simp_all; done) | (intros; simp_all; omega)) ?_))))
    (refine AS_pure (hmost) rfl rfl rfl rfl rfl ?_; simp (maxSteps := 2000000) only [go_sem, init_env', Nat.reduceEqDiff, Nat.reduceAdd, Nat.reduceMul, reduceIte, Nat.reduceLeDiff, Nat.reduceLT, Nat.reduceBEq, reduceCtorEq, hP, Route.av]; (repeat (refine And.intro (by first | omega | (intros; simp_all; done) | (intros; simp_all; omega)) ?_)); (repeat ((first | refine WV_seq_ ?_ | refine WV_block ?_ | refine WV_ops ?_ | refine WV_skip ?_ | refine WV_exit ?_); (try simp (maxSteps := 2000000) only [go_sem, init_env', Nat.reduceEqDiff, Nat.reduceAdd, Nat.reduceMul, reduceIte, Nat.reduceLeDiff, Nat.reduceLT, Nat.reduceBEq, reduceCtorEq, hP, Route.av]); (repeat (refine And.intro (by first | omega | (intros; simp_all; done) | (intros; simp_all; omega)) ?_)))))
    (refine AS_pure (hsoon) rfl rfl rfl rfl rfl ?_; simp (maxSteps := 2000000) only [go_sem, init_env', Nat.reduceEqDiff, Nat.reduceAdd, Nat.reduceMul, reduceIte, Nat.reduceLeDiff, Nat.reduceLT, Nat.reduceBEq, reduceCtorEq, hP, Route.av]; (repeat (refine And.intro (by first | omega | (intros; simp_all; done) | (intros; simp_all; omega)) ?_)); (repeat ((first | refine WV_seq_ ?_ | refine WV_block ?_ | refine WV_ops ?_ | refine WV_skip ?_ | refine WV_exit ?_); (try simp (maxSteps := 2000000) only [go_sem, init_env', Nat.reduceEqDiff, Nat.reduceAdd, Nat.reduceMul, reduceIte, Nat.reduceLeDiff, Nat.reduceLT, Nat.reduceBEq, reduceCtorEq, hP, Route.av]); (repeat (refine And.intro (by first | omega | (intros; simp_all; done) | (intros; simp_all; omega)) ?_)))))
    (refine AS_pure (hfirst) rfl rfl rfl rfl rfl ?_; simp (maxSteps := 2000000) only [go_sem, init_env', Nat.reduceEqDiff, Nat.reduceAdd, Nat.reduceMul, reduceIte, Nat.reduceLeDiff, Nat.reduceLT, Nat.reduceBEq, reduceCtorEq, hP, Route.av]; (repeat (refine And.intro (by first | omega | (intros; simp_all; done) | (intros; simp_all; omega)) ?_)); (repeat ((first | refine WV_seq_ ?_ | refine WV_block ?_ | refine WV_ops ?_ | refine WV_skip ?_ | refine WV_exit ?_); (try simp (maxSteps := 2000000) only [go_sem, init_env', Nat.reduceEqDiff, Nat.reduceAdd, Nat.reduceMul, reduceIte, Nat.reduceLeDiff, Nat.reduceLT, Nat.reduceBEq, reduceCtorEq, hP, Route.av]); (repeat (refine And.intro (by first | omega | (intros; simp_all; done) | (intros; simp_all; omega)) ?_)))))
    (refine AS_pure (hshut) rfl rfl rfl rfl rfl ?_; simp (maxSteps := 2000000) only [go_sem, init_env', Nat.reduceEqDiff, Nat.reduceAdd, Nat.reduceMul, reduceIte, Nat.reduceLeDiff, Nat.reduceLT, Nat.reduceBEq, reduceCtorEq, hP, Route.av, bne_self_eq_false]; (repeat (refine And.intro (by first | omega | (intros; simp_all; done) | (intros; simp_all; omega)) ?_)); (repeat ((first | refine WV_seq_ ?_ | refine WV_block ?_ | refine WV_ops ?_ | refine WV_skip ?_ | refine WV_exit ?_); (try simp (maxSteps := 2000000) only [go_sem, init_env', Nat.reduceEqDiff, Nat.reduceAdd, Nat.reduceMul, reduceIte, Nat.reduceLeDiff, Nat.reduceLT, Nat.reduceBEq, reduceCtorEq, hP, Route.av, bne_self_eq_false]); (repeat (refine And.intro (by first | omega | (intros; simp_all; done) | (intros; simp_all; omega)) ?_)))))
    (refine AG_pure (fun hG => known16 0) rfl (fun hG => by simp (maxSteps := 2000000) only [go_sem, init_env', Nat.reduceEqDiff, Nat.reduceAdd, Nat.reduceMul, reduceIte, Nat.reduceLeDiff, Nat.reduceLT, Nat.reduceBEq, reduceCtorEq, hG]) rfl rfl rfl ?_; simp (maxSteps := 2000000) only [go_sem, init_env', Nat.reduceEqDiff, Nat.reduceAdd, Nat.reduceMul, reduceIte, Nat.reduceLeDiff, Nat.reduceLT, Nat.reduceBEq, reduceCtorEq, hP, knownS, beq_self_eq_true, bne_self_eq_false, ints, List.length_map, hd1, hd0, stopsC, hsl0, List.length_nil, Int.natCast_zero]; (repeat (refine And.intro (by first | omega | (intros; simp_all; done) | (intros; simp_all; omega)) ?_)); (repeat ((first | refine WV_seq_ ?_ | refine WV_block ?_ | refine WV_ops ?_ | refine WV_skip ?_ | refine WV_exit ?_); (try simp (maxSteps := 2000000) only [go_sem, init_env', Nat.reduceEqDiff, Nat.reduceAdd, Nat.reduceMul, reduceIte, Nat.reduceLeDiff, Nat.reduceLT, Nat.reduceBEq, reduceCtorEq, hP, knownS, beq_self_eq_true, bne_self_eq_false, ints, List.length_map, hd1, hd0, stopsC, hsl0, List.length_nil, Int.natCast_zero]); (repeat (refine And.intro (by first | omega | (intros; simp_all; done) | (intros; simp_all; omega)) ?_)))))
    (refine WV_cond rfl (fun h => ?_) (fun h => ?_))
    · simp at h
    clear h
    (repeat ((first | refine WV_seq_ ?_ | refine WV_block ?_ | refine WV_ops ?_ | refine WV_skip ?_ | refine WV_exit ?_); (try simp (maxSteps := 2000000) only [go_sem, init_env', Nat.reduceEqDiff, Nat.reduceAdd, Nat.reduceMul, reduceIte, Nat.reduceLeDiff, Nat.reduceLT, Nat.reduceBEq, reduceCtorEq, hP, ]); (repeat (refine And.intro (by first | omega | (intros; simp_all; done) | (intros; simp_all; omega)) ?_))))
    refine WV_loopK K10_1 [] (fun k : Nat => k ≤ r.n) (fun k => r.n - k) (fun k => [(13, iv k), (11, iv (sumK r k)), (12, .c (.bool (posK r k)))]) (fun _ => []) 0 (Nat.zero_le _) ?_ ?_
    · (refine Sub_of (by simp (maxSteps := 2000000) only [go_sem, init_env', Nat.reduceEqDiff, Nat.reduceAdd, Nat.reduceMul, reduceIte, Nat.reduceLeDiff, Nat.reduceLT, Nat.reduceBEq, reduceCtorEq]; ((repeat' (first | exact EnvLe_e0 _ _ | refine EnvLe_upd ?_ ?_)) <;> ((try simp only [upd_app, e0_app, o0_app, Nat.reduceEqDiff, reduceIte]); first | exact AWk.refl _ _ | exact AWk.int (by omega) | exact AWk.int (by rw [w64 (by omega) (by omega)]; omega) | exact AWk.grow rfl | exact AWk.nil _ | exact AWk.of (by simp [sumK, posK])))) (by simp (maxSteps := 2000000) only [go_sem, init_env', Nat.reduceEqDiff, Nat.reduceAdd, Nat.reduceMul, reduceIte, Nat.reduceLeDiff, Nat.reduceLT, Nat.reduceBEq, reduceCtorEq]; ((repeat' (first | exact ObjLe_o0 _ | exact ObjLe.rfl' _ | refine ObjLe_same ?_ | refine ObjLe_upd ?_ ?_ | refine ObjLe_new rfl ?_)) <;> rfl)))
    · intro k hk
      simp (maxSteps := 2000000) only [go_sem, init_env', Nat.reduceEqDiff, Nat.reduceAdd, Nat.reduceMul, reduceIte, Nat.reduceLeDiff, Nat.reduceLT, Nat.reduceBEq, reduceCtorEq]
      (repeat ((first | refine WV_seq_ ?_ | refine WV_block ?_ | refine WV_ops ?_ | refine WV_skip ?_ | refine WV_exit ?_); (try simp (maxSteps := 2000000) only [go_sem, init_env', Nat.reduceEqDiff, Nat.reduceAdd, Nat.reduceMul, reduceIte, Nat.reduceLeDiff, Nat.reduceLT, Nat.reduceBEq, reduceCtorEq, hP, stopsC]); (repeat (refine And.intro (by first | omega | (intros; simp_all; done) | (intros; simp_all; omega)) ?_))))
      (refine WV_cond rfl (fun h => ?_) (fun h => ?_))
      · have h : k < r.n := by rw [hsl0] at h; simpa using h
        have hw2 := w64 (n := (k : Int) + 1) (by omega) (by omega)
        have hk1 := hsK k (by omega)
        have hst := hr.stop k h
        have hd : k < r.stops.length := h
        have e1 : r.stops[k] = r.s k := by simp [Route.s, hd]
        have hw3 := w64 (n := sumK r k + (r.s k).ca) (by omega) (by omega)
        have e2 := sumK_succ r k
        have e3 := posK_succ r k
        (repeat ((first | refine WV_seq_ ?_ | refine WV_block ?_ | refine WV_ops ?_ | refine WV_skip ?_ | refine WV_exit ?_); (try simp (maxSteps := 2000000) only [go_sem, init_env', Nat.reduceEqDiff, Nat.reduceAdd, Nat.reduceMul, reduceIte, Nat.reduceLeDiff, Nat.reduceLT, Nat.reduceBEq, reduceCtorEq, hP, Int.toNat_natCast, map_getD hd, List.length_map, Int.ofNat_lt, hd, Int.natCast_nonneg, stopsC, Stop.cds, e1, hw2, hw3]); (repeat (refine And.intro (by first | omega | (intros; simp_all; done) | (intros; simp_all; omega)) ?_))))
        refine ⟨k + 1, by omega, by omega, ?_⟩
        rw [e2, e3]
        (refine Sub_of (by simp (maxSteps := 2000000) only [go_sem, init_env', Nat.reduceEqDiff, Nat.reduceAdd, Nat.reduceMul, reduceIte, Nat.reduceLeDiff, Nat.reduceLT, Nat.reduceBEq, reduceCtorEq]; ((repeat' (first | exact EnvLe_e0 _ _ | refine EnvLe_upd ?_ ?_)) <;> ((try simp only [upd_app, e0_app, o0_app, Nat.reduceEqDiff, reduceIte]); first | exact AWk.refl _ _ | exact AWk.int (by omega) | exact AWk.int (by rw [w64 (by omega) (by omega)]; omega) | exact AWk.grow rfl | exact AWk.nil _ | exact AWk.of (by simp)))) (by simp (maxSteps := 2000000) only [go_sem, init_env', Nat.reduceEqDiff, Nat.reduceAdd, Nat.reduceMul, reduceIte, Nat.reduceLeDiff, Nat.reduceLT, Nat.reduceBEq, reduceCtorEq]; ((repeat' (first | exact ObjLe_o0 _ | exact ObjLe.rfl' _ | refine ObjLe_same ?_ | refine ObjLe_upd ?_ ?_ | refine ObjLe_new rfl ?_)) <;> rfl)))
      · have h : k = r.n := by rw [hsl0] at h; simp at h; omega
        subst h
        (repeat ((first | refine WV_seq_ ?_ | refine WV_block ?_ | refine WV_ops ?_ | refine WV_skip ?_ | refine WV_exit ?_); (try simp (maxSteps := 2000000) only [go_sem, init_env', Nat.reduceEqDiff, Nat.reduceAdd, Nat.reduceMul, reduceIte, Nat.reduceLeDiff, Nat.reduceLT, Nat.reduceBEq, reduceCtorEq, hP, beq_self_eq_true, bne_self_eq_false]); (repeat (refine And.intro (by first | omega | (intros; simp_all; done) | (intros; simp_all; omega)) ?_))))
        have hM0' : decide (sumK r r.n < 0) = false := by simp; omega
        (refine WV_cond rfl (fun h => ?_) (fun h => ?_))
        · simp at h; omega
        clear h
        (repeat ((first | refine WV_seq_ ?_ | refine WV_block ?_ | refine WV_ops ?_ | refine WV_skip ?_ | refine WV_exit ?_); (try simp (maxSteps := 2000000) only [go_sem, init_env', Nat.reduceEqDiff, Nat.reduceAdd, Nat.reduceMul, reduceIte, Nat.reduceLeDiff, Nat.reduceLT, Nat.reduceBEq, reduceCtorEq, hP, beq_self_eq_true]); (repeat (refine And.intro (by first | omega | (intros; simp_all; done) | (intros; simp_all; omega)) ?_))))
        (first | (refine AG_pure (fun hG => works14) rfl (fun hG => by simp (maxSteps := 2000000) only [go_sem, init_env', Nat.reduceEqDiff, Nat.reduceAdd, Nat.reduceMul, reduceIte, Nat.reduceLeDiff, Nat.reduceLT, Nat.reduceBEq, reduceCtorEq, hG]) rfl rfl rfl ?_; simp (maxSteps := 2000000) only [go_sem, init_env', Nat.reduceEqDiff, Nat.reduceAdd, Nat.reduceMul, reduceIte, Nat.reduceLeDiff, Nat.reduceLT, Nat.reduceBEq, reduceCtorEq, hP, beq_self_eq_true]; (repeat (refine And.intro (by first | omega | (intros; simp_all; done) | (intros; simp_all; omega)) ?_)); (repeat ((first | refine WV_seq_ ?_ | refine WV_block ?_ | refine WV_ops ?_ | refine WV_skip ?_ | refine WV_exit ?_); (try simp (maxSteps := 2000000) only [go_sem, init_env', Nat.reduceEqDiff, Nat.reduceAdd, Nat.reduceMul, reduceIte, Nat.reduceLeDiff, Nat.reduceLT, Nat.reduceBEq, reduceCtorEq, hP, beq_self_eq_true]); (repeat (refine And.intro (by first | omega | (intros; simp_all; done) | (intros; simp_all; omega)) ?_))))) | skip)
        cases posK r r.n
        all_goals (first | (refine WV_ret ?_; simp only [thenQ, inQ, RetQ, RetOk, resAll, resA]; simp (maxSteps := 2000000) only [go_sem, init_env', Nat.reduceEqDiff, Nat.reduceAdd, Nat.reduceMul, reduceIte, Nat.reduceLeDiff, Nat.reduceLT, Nat.reduceBEq, reduceCtorEq, tupA, AV.port, AV.portL, exists_eq_left', ]; (first | exact AVle.of rfl | refine AVle.of ?_ | skip)) | skip)
  · have e1 : rsoonS r = (0, 3) := by unfold rsoonS; rw [if_neg (by omega), he]
    have e2 : rfirstS r = ([], 3) := by unfold rfirstS; rw [if_neg (by omega), he]
    rw [e1] at hsoon
    rw [e2] at hfirst
    have hnm' := hnm (by omega)
    generalize rshutL (goodR r false) r.n = S at *
    refine FSpec_of c10 (Nat.le_refl _) (by decide) fun C hP hN hC hL => ?_
    simp only [ir10, Route.av]
    (repeat ((first | refine WV_seq_ ?_ | refine WV_block ?_ | refine WV_ops ?_ | refine WV_skip ?_ | refine WV_exit ?_); (try simp (maxSteps := 2000000) only [go_sem, init_env', Nat.reduceEqDiff, Nat.reduceAdd, Nat.reduceMul, reduceIte, Nat.reduceLeDiff, Nat.reduceLT, Nat.reduceBEq, reduceCtorEq, hP, ]); (repeat (refine And.intro (by first | omega | (intros; simp_all; done) | (intros; simp_all; omega)) ?_))))
    (refine AS_pure (ready13 r) rfl rfl rfl rfl rfl ?_; simp (maxSteps := 2000000) only [go_sem, init_env', Nat.reduceEqDiff, Nat.reduceAdd, Nat.reduceMul, reduceIte, Nat.reduceLeDiff, Nat.reduceLT, Nat.reduceBEq, reduceCtorEq, hP, Route.av, hrd]; (repeat (refine And.intro (by first | omega | (intros; simp_all; done) | (intros; simp_all; omega)) ?_)); (repeat ((first | refine WV_seq_ ?_ | refine WV_block ?_ | refine WV_ops ?_ | refine WV_skip ?_ | refine WV_exit ?_); (try simp (maxSteps := 2000000) only [go_sem, init_env', Nat.reduceEqDiff, Nat.reduceAdd, Nat.reduceMul, reduceIte, Nat.reduceLeDiff, Nat.reduceLT, Nat.reduceBEq, reduceCtorEq, hP, Route.av, hrd]); (repeat (refine And.intro (by first | omega | (intros; simp_all; done) | (intros; simp_all; omega)) ?_)))))
    (refine WV_cond rfl (fun h => ?_) (fun h => ?_))
    · simp at h
    clear h
    (repeat ((first | refine WV_seq_ ?_ | refine WV_block ?_ | refine WV_ops ?_ | refine WV_skip ?_ | refine WV_exit ?_); (try simp (maxSteps := 2000000) only [go_sem, init_env', Nat.reduceEqDiff, Nat.reduceAdd, Nat.reduceMul, reduceIte, Nat.reduceLeDiff, Nat.reduceLT, Nat.reduceBEq, reduceCtorEq, hP, ]); (repeat (refine And.intro (by first | omega | (intros; simp_all; done) | (intros; simp_all; omega)) ?_))))
    (refine AS_pure (hmost) rfl rfl rfl rfl rfl ?_; simp (maxSteps := 2000000) only [go_sem, init_env', Nat.reduceEqDiff, Nat.reduceAdd, Nat.reduceMul, reduceIte, Nat.reduceLeDiff, Nat.reduceLT, Nat.reduceBEq, reduceCtorEq, hP, Route.av]; (repeat (refine And.intro (by first | omega | (intros; simp_all; done) | (intros; simp_all; omega)) ?_)); (repeat ((first | refine WV_seq_ ?_ | refine WV_block ?_ | refine WV_ops ?_ | refine WV_skip ?_ | refine WV_exit ?_); (try simp (maxSteps := 2000000) only [go_sem, init_env', Nat.reduceEqDiff, Nat.reduceAdd, Nat.reduceMul, reduceIte, Nat.reduceLeDiff, Nat.reduceLT, Nat.reduceBEq, reduceCtorEq, hP, Route.av]); (repeat (refine And.intro (by first | omega | (intros; simp_all; done) | (intros; simp_all; omega)) ?_)))))
    (refine AS_pure (hsoon) rfl rfl rfl rfl rfl ?_; simp (maxSteps := 2000000) only [go_sem, init_env', Nat.reduceEqDiff, Nat.reduceAdd, Nat.reduceMul, reduceIte, Nat.reduceLeDiff, Nat.reduceLT, Nat.reduceBEq, reduceCtorEq, hP, Route.av]; (repeat (refine And.intro (by first | omega | (intros; simp_all; done) | (intros; simp_all; omega)) ?_)); (repeat ((first | refine WV_seq_ ?_ | refine WV_block ?_ | refine WV_ops ?_ | refine WV_skip ?_ | refine WV_exit ?_); (try simp (maxSteps := 2000000) only [go_sem, init_env', Nat.reduceEqDiff, Nat.reduceAdd, Nat.reduceMul, reduceIte, Nat.reduceLeDiff, Nat.reduceLT, Nat.reduceBEq, reduceCtorEq, hP, Route.av]); (repeat (refine And.intro (by first | omega | (intros; simp_all; done) | (intros; simp_all; omega)) ?_)))))
    (refine AS_pure (hfirst) rfl rfl rfl rfl rfl ?_; simp (maxSteps := 2000000) only [go_sem, init_env', Nat.reduceEqDiff, Nat.reduceAdd, Nat.reduceMul, reduceIte, Nat.reduceLeDiff, Nat.reduceLT, Nat.reduceBEq, reduceCtorEq, hP, Route.av]; (repeat (refine And.intro (by first | omega | (intros; simp_all; done) | (intros; simp_all; omega)) ?_)); (repeat ((first | refine WV_seq_ ?_ | refine WV_block ?_ | refine WV_ops ?_ | refine WV_skip ?_ | refine WV_exit ?_); (try simp (maxSteps := 2000000) only [go_sem, init_env', Nat.reduceEqDiff, Nat.reduceAdd, Nat.reduceMul, reduceIte, Nat.reduceLeDiff, Nat.reduceLT, Nat.reduceBEq, reduceCtorEq, hP, Route.av]); (repeat (refine And.intro (by first | omega | (intros; simp_all; done) | (intros; simp_all; omega)) ?_)))))
    (refine AS_pure (hshut) rfl rfl rfl rfl rfl ?_; simp (maxSteps := 2000000) only [go_sem, init_env', Nat.reduceEqDiff, Nat.reduceAdd, Nat.reduceMul, reduceIte, Nat.reduceLeDiff, Nat.reduceLT, Nat.reduceBEq, reduceCtorEq, hP, Route.av, bne_self_eq_false]; (repeat (refine And.intro (by first | omega | (intros; simp_all; done) | (intros; simp_all; omega)) ?_)); (repeat ((first | refine WV_seq_ ?_ | refine WV_block ?_ | refine WV_ops ?_ | refine WV_skip ?_ | refine WV_exit ?_); (try simp (maxSteps := 2000000) only [go_sem, init_env', Nat.reduceEqDiff, Nat.reduceAdd, Nat.reduceMul, reduceIte, Nat.reduceLeDiff, Nat.reduceLT, Nat.reduceBEq, reduceCtorEq, hP, Route.av, bne_self_eq_false]); (repeat (refine And.intro (by first | omega | (intros; simp_all; done) | (intros; simp_all; omega)) ?_)))))
    (refine AG_pure (fun hG => known16 3) rfl (fun hG => by simp (maxSteps := 2000000) only [go_sem, init_env', Nat.reduceEqDiff, Nat.reduceAdd, Nat.reduceMul, reduceIte, Nat.reduceLeDiff, Nat.reduceLT, Nat.reduceBEq, reduceCtorEq, hG]) rfl rfl rfl ?_; simp (maxSteps := 2000000) only [go_sem, init_env', Nat.reduceEqDiff, Nat.reduceAdd, Nat.reduceMul, reduceIte, Nat.reduceLeDiff, Nat.reduceLT, Nat.reduceBEq, reduceCtorEq, hP, knownS, beq_self_eq_true, bne_self_eq_false, ints, List.length_map, stopsC, hsl0, List.length_nil, Int.natCast_zero]; (repeat (refine And.intro (by first | omega | (intros; simp_all; done) | (intros; simp_all; omega)) ?_)); (repeat ((first | refine WV_seq_ ?_ | refine WV_block ?_ | refine WV_ops ?_ | refine WV_skip ?_ | refine WV_exit ?_); (try simp (maxSteps := 2000000) only [go_sem, init_env', Nat.reduceEqDiff, Nat.reduceAdd, Nat.reduceMul, reduceIte, Nat.reduceLeDiff, Nat.reduceLT, Nat.reduceBEq, reduceCtorEq, hP, knownS, beq_self_eq_true, bne_self_eq_false, ints, List.length_map, stopsC, hsl0, List.length_nil, Int.natCast_zero]); (repeat (refine And.intro (by first | omega | (intros; simp_all; done) | (intros; simp_all; omega)) ?_)))))
    (refine WV_cond rfl (fun h => ?_) (fun h => ?_))
    · simp at h
    clear h
    (repeat ((first | refine WV_seq_ ?_ | refine WV_block ?_ | refine WV_ops ?_ | refine WV_skip ?_ | refine WV_exit ?_); (try simp (maxSteps := 2000000) only [go_sem, init_env', Nat.reduceEqDiff, Nat.reduceAdd, Nat.reduceMul, reduceIte, Nat.reduceLeDiff, Nat.reduceLT, Nat.reduceBEq, reduceCtorEq, hP, ]); (repeat (refine And.intro (by first | omega | (intros; simp_all; done) | (intros; simp_all; omega)) ?_))))
    refine WV_loopK K10_1 [] (fun k : Nat => k ≤ r.n) (fun k => r.n - k) (fun k => [(13, iv k), (11, iv (sumK r k)), (12, .c (.bool (posK r k)))]) (fun _ => []) 0 (Nat.zero_le _) ?_ ?_
    · (refine Sub_of (by simp (maxSteps := 2000000) only [go_sem, init_env', Nat.reduceEqDiff, Nat.reduceAdd, Nat.reduceMul, reduceIte, Nat.reduceLeDiff, Nat.reduceLT, Nat.reduceBEq, reduceCtorEq]; ((repeat' (first | exact EnvLe_e0 _ _ | refine EnvLe_upd ?_ ?_)) <;> ((try simp only [upd_app, e0_app, o0_app, Nat.reduceEqDiff, reduceIte]); first | exact AWk.refl _ _ | exact AWk.int (by omega) | exact AWk.int (by rw [w64 (by omega) (by omega)]; omega) | exact AWk.grow rfl | exact AWk.nil _ | exact AWk.of (by simp [sumK, posK])))) (by simp (maxSteps := 2000000) only [go_sem, init_env', Nat.reduceEqDiff, Nat.reduceAdd, Nat.reduceMul, reduceIte, Nat.reduceLeDiff, Nat.reduceLT, Nat.reduceBEq, reduceCtorEq]; ((repeat' (first | exact ObjLe_o0 _ | exact ObjLe.rfl' _ | refine ObjLe_same ?_ | refine ObjLe_upd ?_ ?_ | refine ObjLe_new rfl ?_)) <;> rfl)))
    · intro k hk
      simp (maxSteps := 2000000) only [go_sem, init_env', Nat.reduceEqDiff, Nat.reduceAdd, Nat.reduceMul, reduceIte, Nat.reduceLeDiff, Nat.reduceLT, Nat.reduceBEq, reduceCtorEq]
      (repeat ((first | refine WV_seq_ ?_ | refine WV_block ?_ | refine WV_ops ?_ | refine WV_skip ?_ | refine WV_exit ?_); (try simp (maxSteps := 2000000) only [go_sem, init_env', Nat.reduceEqDiff, Nat.reduceAdd, Nat.reduceMul, reduceIte, Nat.reduceLeDiff, Nat.reduceLT, Nat.reduceBEq, reduceCtorEq, hP, stopsC]); (repeat (refine And.intro (by first | omega | (intros; simp_all; done) | (intros; simp_all; omega)) ?_))))
      (refine WV_cond rfl (fun h => ?_) (fun h => ?_))
      · have h : k < r.n := by rw [hsl0] at h; simpa using h
        have hw2 := w64 (n := (k : Int) + 1) (by omega) (by omega)
        have hk1 := hsK k (by omega)
        have hst := hr.stop k h
        have hd : k < r.stops.length := h
        have e1 : r.stops[k] = r.s k := by simp [Route.s, hd]
        have hw3 := w64 (n := sumK r k + (r.s k).ca) (by omega) (by omega)
        have e2 := sumK_succ r k
        have e3 := posK_succ r k
        (repeat ((first | refine WV_seq_ ?_ | refine WV_block ?_ | refine WV_ops ?_ | refine WV_skip ?_ | refine WV_exit ?_); (try simp (maxSteps := 2000000) only [go_sem, init_env', Nat.reduceEqDiff, Nat.reduceAdd, Nat.reduceMul, reduceIte, Nat.reduceLeDiff, Nat.reduceLT, Nat.reduceBEq, reduceCtorEq, hP, Int.toNat_natCast, map_getD hd, List.length_map, Int.ofNat_lt, hd, Int.natCast_nonneg, stopsC, Stop.cds, e1, hw2, hw3]); (repeat (refine And.intro (by first | omega | (intros; simp_all; done) | (intros; simp_all; omega)) ?_))))
        refine ⟨k + 1, by omega, by omega, ?_⟩
        rw [e2, e3]
        (refine Sub_of (by simp (maxSteps := 2000000) only [go_sem, init_env', Nat.reduceEqDiff, Nat.reduceAdd, Nat.reduceMul, reduceIte, Nat.reduceLeDiff, Nat.reduceLT, Nat.reduceBEq, reduceCtorEq]; ((repeat' (first | exact EnvLe_e0 _ _ | refine EnvLe_upd ?_ ?_)) <;> ((try simp only [upd_app, e0_app, o0_app, Nat.reduceEqDiff, reduceIte]); first | exact AWk.refl _ _ | exact AWk.int (by omega) | exact AWk.int (by rw [w64 (by omega) (by omega)]; omega) | exact AWk.grow rfl | exact AWk.nil _ | exact AWk.of (by simp)))) (by simp (maxSteps := 2000000) only [go_sem, init_env', Nat.reduceEqDiff, Nat.reduceAdd, Nat.reduceMul, reduceIte, Nat.reduceLeDiff, Nat.reduceLT, Nat.reduceBEq, reduceCtorEq]; ((repeat' (first | exact ObjLe_o0 _ | exact ObjLe.rfl' _ | refine ObjLe_same ?_ | refine ObjLe_upd ?_ ?_ | refine ObjLe_new rfl ?_)) <;> rfl)))
      · have h : k = r.n := by rw [hsl0] at h; simp at h; omega
        subst h
        (repeat ((first | refine WV_seq_ ?_ | refine WV_block ?_ | refine WV_ops ?_ | refine WV_skip ?_ | refine WV_exit ?_); (try simp (maxSteps := 2000000) only [go_sem, init_env', Nat.reduceEqDiff, Nat.reduceAdd, Nat.reduceMul, reduceIte, Nat.reduceLeDiff, Nat.reduceLT, Nat.reduceBEq, reduceCtorEq, hP, beq_self_eq_true, bne_self_eq_false, hd2, hd3]); (repeat (refine And.intro (by first | omega | (intros; simp_all; done) | (intros; simp_all; omega)) ?_))))
        have hM0' : decide (sumK r r.n < 0) = false := by simp; omega
        (refine WV_cond rfl (fun h => ?_) (fun h => ?_))
        · simp at h
        clear h
        by_cases hp : posK r r.n = true
        · have hmm : (rmostB r (goodR r false) == sumK r r.n) = false := by simpa using hnm' hp
          (repeat ((first | refine WV_seq_ ?_ | refine WV_block ?_ | refine WV_ops ?_ | refine WV_skip ?_ | refine WV_exit ?_); (try simp (maxSteps := 2000000) only [go_sem, init_env', Nat.reduceEqDiff, Nat.reduceAdd, Nat.reduceMul, reduceIte, Nat.reduceLeDiff, Nat.reduceLT, Nat.reduceBEq, reduceCtorEq, hP, hp, hmm, beq_self_eq_true]); (repeat (refine And.intro (by first | omega | (intros; simp_all; done) | (intros; simp_all; omega)) ?_))))
          (first | (refine AG_pure (fun hG => works14) rfl (fun hG => by simp (maxSteps := 2000000) only [go_sem, init_env', Nat.reduceEqDiff, Nat.reduceAdd, Nat.reduceMul, reduceIte, Nat.reduceLeDiff, Nat.reduceLT, Nat.reduceBEq, reduceCtorEq, hG]) rfl rfl rfl ?_; simp (maxSteps := 2000000) only [go_sem, init_env', Nat.reduceEqDiff, Nat.reduceAdd, Nat.reduceMul, reduceIte, Nat.reduceLeDiff, Nat.reduceLT, Nat.reduceBEq, reduceCtorEq, hP, beq_self_eq_true]; (repeat (refine And.intro (by first | omega | (intros; simp_all; done) | (intros; simp_all; omega)) ?_)); (repeat ((first | refine WV_seq_ ?_ | refine WV_block ?_ | refine WV_ops ?_ | refine WV_skip ?_ | refine WV_exit ?_); (try simp (maxSteps := 2000000) only [go_sem, init_env', Nat.reduceEqDiff, Nat.reduceAdd, Nat.reduceMul, reduceIte, Nat.reduceLeDiff, Nat.reduceLT, Nat.reduceBEq, reduceCtorEq, hP, beq_self_eq_true]); (repeat (refine And.intro (by first | omega | (intros; simp_all; done) | (intros; simp_all; omega)) ?_))))) | skip)
          (first | (refine WV_ret ?_; simp only [thenQ, inQ, RetQ, RetOk, resAll, resA]; simp (maxSteps := 2000000) only [go_sem, init_env', Nat.reduceEqDiff, Nat.reduceAdd, Nat.reduceMul, reduceIte, Nat.reduceLeDiff, Nat.reduceLT, Nat.reduceBEq, reduceCtorEq, tupA, AV.port, AV.portL, exists_eq_left', ]; (first | exact AVle.of rfl | refine AVle.of ?_ | skip)) | skip)
        · have hp : posK r r.n = false := by simpa using hp
          (repeat ((first | refine WV_seq_ ?_ | refine WV_block ?_ | refine WV_ops ?_ | refine WV_skip ?_ | refine WV_exit ?_); (try simp (maxSteps := 2000000) only [go_sem, init_env', Nat.reduceEqDiff, Nat.reduceAdd, Nat.reduceMul, reduceIte, Nat.reduceLeDiff, Nat.reduceLT, Nat.reduceBEq, reduceCtorEq, hP, hp, beq_self_eq_true]); (repeat (refine And.intro (by first | omega | (intros; simp_all; done) | (intros; simp_all; omega)) ?_))))
          (first | (refine AG_pure (fun hG => works14) rfl (fun hG => by simp (maxSteps := 2000000) only [go_sem, init_env', Nat.reduceEqDiff, Nat.reduceAdd, Nat.reduceMul, reduceIte, Nat.reduceLeDiff, Nat.reduceLT, Nat.reduceBEq, reduceCtorEq, hG]) rfl rfl rfl ?_; simp (maxSteps := 2000000) only [go_sem, init_env', Nat.reduceEqDiff, Nat.reduceAdd, Nat.reduceMul, reduceIte, Nat.reduceLeDiff, Nat.reduceLT, Nat.reduceBEq, reduceCtorEq, hP, beq_self_eq_true]; (repeat (refine And.intro (by first | omega | (intros; simp_all; done) | (intros; simp_all; omega)) ?_)); (repeat ((first | refine WV_seq_ ?_ | refine WV_block ?_ | refine WV_ops ?_ | refine WV_skip ?_ | refine WV_exit ?_); (try simp (maxSteps := 2000000) only [go_sem, init_env', Nat.reduceEqDiff, Nat.reduceAdd, Nat.reduceMul, reduceIte, Nat.reduceLeDiff, Nat.reduceLT, Nat.reduceBEq, reduceCtorEq, hP, beq_self_eq_true]); (repeat (refine And.intro (by first | omega | (intros; simp_all; done) | (intros; simp_all; omega)) ?_))))) | skip)
          (first | (refine WV_ret ?_; simp only [thenQ, inQ, RetQ, RetOk, resAll, resA]; simp (maxSteps := 2000000) only [go_sem, init_env', Nat.reduceEqDiff, Nat.reduceAdd, Nat.reduceMul, reduceIte, Nat.reduceLeDiff, Nat.reduceLT, Nat.reduceBEq, reduceCtorEq, tupA, AV.port, AV.portL, exists_eq_left', ]; (first | exact AVle.of rfl | refine AVle.of ?_ | skip)) | skip)
end Go.Proofs.Ytbejgfpaokcnpaa
