/-
  Contracts of functions of package route, of its reference and of the law RouteTimes; conditions: as each theorem states.
-/
import Derived.Test.YtbejgfpaokcnpaaU4
set_option linter.unusedVariables false
set_option linter.unusedSimpArgs false
/-
  The program's tours are the reference's: plain.
-/
namespace Go.Proofs.Ytbejgfpaokcnpaa
open Go Go.V

theorem toursR_begin {n : Nat} : ∀ (f : Nat) (t p : List Nat), p ∈ toursR n f t → ∃ l, p = t ++ l
  | 0, t, p, h => by simp only [toursR, List.mem_singleton] at h; exact ⟨[], by simp [h]⟩
  | f + 1, t, p, h => by
    simp only [toursR, List.mem_cons, List.mem_flatMap, List.mem_range] at h
    rcases h with rfl | ⟨k, _, h⟩
    · exact ⟨[], by simp⟩
    · split at h
      · cases h
      · obtain ⟨l, rfl⟩ := toursR_begin f _ p h
        exact ⟨k :: l, by simp⟩
/-- Behind a stop that is missed no tour is good. -/
theorem toursR_bad {r : Route} (f : Nat) (t : List Nat) (h : (ride r (leave r) t).2.1 ≠ none) : (toursR r.n f t).filter (ridden r) = [] := by
  rw [List.filter_eq_nil_iff]
  intro p hp
  obtain ⟨l, rfl⟩ := toursR_begin f t p hp
  unfold ridden
  rw [ride_stop r t _ l h]
  cases hx : (ride r (leave r) t).2.1 with
  | none => exact absurd hx h
  | some k => simp
theorem ext_eq {r : Route} : ∀ (f : Nat) (t : List Nat), (ride r (leave r) t).2.1 = none → (ext r f t (ride r (leave r) t).2.2).map (·.1) = (toursR r.n f t).filter (ridden r)
  | 0, t, h => by simp [ext, toursR, ridden, h]
  | f + 1, t, h => by
    have hr : ridden r t = true := by simp [ridden, h]
    simp only [ext, toursR, List.map_cons, List.filter_cons, hr, if_true, List.map_flatMap, List.filter_flatMap]
    congr 1
    congr 1
    funext k
    by_cases hk : k ∈ t
    · simp [hk]
    · rw [if_neg hk, if_neg hk]
      have hs := ride_snoc r t (leave r) k h
      by_cases hv : (visit r (ride r (leave r) t).2.2 k).2.2 = true
      · rw [if_pos hv] at hs ⊢
        have := ext_eq f (t ++ [k]) (by rw [hs])
        rw [hs] at this
        exact this
      · rw [if_neg hv] at hs ⊢
        rw [toursR_bad f (t ++ [k]) (by rw [hs]; simp)]
        rfl
theorem goods_eq (r : Route) : (goods r).map (·.1) = goodR r false := by
  have := ext_eq (r := r) (r.n + 1) [] rfl
  have e : goodP r false = ridden r := by funext t; simp [goodP]
  unfold goodR allR
  rw [e]
  exact this
theorem wholes_eq (r : Route) : (wholes r).map (·.1) = goodR r true := by
  have h1 : (wholes r).map (·.1) = ((goods r).map (·.1)).filter fun t => !decide (t.length < r.n) := by
    unfold wholes
    rw [List.filter_map]
    rfl
  rw [h1, goods_eq]
  unfold goodR
  rw [List.filter_filter]
  refine List.filter_congr fun t ht => ?_
  have := allR_len ht
  simp only [goodP, Bool.not_false, Bool.true_or, Bool.true_and, Bool.not_true, Bool.false_or]
  congr 1
  rw [Bool.eq_iff_iff]
  simp
  omega
/-- The van behind the last stop is that of the ride. -/
theorem ext_ride {r : Route} : ∀ (f : Nat) (t : List Nat), (ride r (leave r) t).2.1 = none → ∀ p ∈ ext r f t (ride r (leave r) t).2.2, (ride r (leave r) p.1).2.1 = none ∧ p.2 = (ride r (leave r) p.1).2.2
  | 0, t, h, p, hp => by simp only [ext, List.mem_singleton] at hp; subst hp; exact ⟨h, rfl⟩
  | f + 1, t, h, p, hp => by
    simp only [ext, List.mem_cons, List.mem_flatMap, List.mem_range] at hp
    rcases hp with rfl | ⟨k, _, hp⟩
    · exact ⟨h, rfl⟩
    · split at hp
      · cases hp
      · split at hp
        · rename_i hv
          have hs := ride_snoc r t (leave r) k h
          rw [if_pos hv] at hs
          have := ext_ride f (t ++ [k]) (by rw [hs]) p
          rw [hs] at this
          exact this hp
        · cases hp
theorem goods_ride {r : Route} : ∀ p ∈ goods r, (ride r (leave r) p.1).2.1 = none ∧ p.2 = (ride r (leave r) p.1).2.2 := ext_ride (r := r) (r.n + 1) [] rfl
end Go.Proofs.Ytbejgfpaokcnpaa

/-
  Least and greatest: the program's answers are the reference's: plain.
-/
namespace Go.Proofs.Ytbejgfpaokcnpaa
open Go Go.V

theorem less_min : ∀ (l : List Int) (b : Int), 0 ≤ b → (∀ n ∈ l, 0 ≤ n) → l.foldl lessS b = l.foldl min b
  | [], b, _, _ => rfl
  | n :: l, b, hb, h => by
    have hn := h n (by simp)
    have e : lessS b n = min b n := by unfold lessS; split <;> omega
    simp only [List.foldl_cons, e]
    exact less_min l _ (by omega) fun m hm => h m (by simp [hm])
theorem least_min (f : List Nat → Int) (L : List (List Nat)) (hL : L ≠ []) (h : ∀ t ∈ L, 0 ≤ f t) : leastS (L.map f) = minS f L L.length := by
  cases L with
  | nil => exact absurd rfl hL
  | cons t L =>
    have ht := h t (by simp)
    unfold leastS minS
    rw [List.take_length]
    simp only [List.map_cons, List.foldl_cons, List.getD_cons_zero]
    have e : lessS (-1) (f t) = f t := by unfold lessS; rw [if_pos (by omega)]
    rw [e, less_min _ _ ht (by
      intro n hn
      obtain ⟨u, hu, rfl⟩ := List.mem_map.1 hn
      exact h u (by simp [hu])), List.foldl_map, Int.min_self]
theorem shortB_one (r : Route) (l : List (List Nat × Van)) : (shortB r l).1 = leastS (l.map fun p => (atHome r p).long) := by
  have h : ∀ (l : List (List Nat × Van)) (s : Int × Option (List Nat)), (l.foldl (fun s p => shortT s (atHome r p).long p.1) s).1 = (l.map fun p => (atHome r p).long).foldl lessS s.1 := by
    intro l
    induction l with
    | nil => intro s; rfl
    | cons p l ih =>
      intro s
      simp only [List.foldl_cons, List.map_cons]
      rw [ih]
      congr 1
      unfold shortT lessS
      split <;> rfl
  exact h l _
theorem someE_eq (r : Route) : someE r = errR r := by
  unfold someE errR
  rw [← wholes_eq]
  cases r.ok
  · rfl
  · by_cases h : wholes r = [] <;> simp [h]
theorem ride_long (r : Route) : ∀ (t : List Nat) (v : Van), (ride r v t).2.1 = none → t.foldl (fun s k => (k, s.2 + r.d s.1 k)) (v.at_, v.long) = ((ride r v t).2.2.at_, (ride r v t).2.2.long)
  | [], v, _ => rfl
  | k :: t, v, h => by
    simp only [ride] at h ⊢
    by_cases hv : (visit r v k).2.2 = true
    · simp only [hv, if_true] at h ⊢
      have ih := ride_long r t (visit r v k).1 h
      rw [List.foldl_cons, ← ih]
      congr 1
      unfold visit at hv ⊢
      split at hv
      · cases hv
      · rename_i hc
        rw [if_neg hc]
        rfl
    · simp [hv] at h
theorem atHome_eq {r : Route} (hr : RouteOk r) {p : List Nat × Van} (hp : p ∈ goods r) : (atHome r p).now = (goS r p.1).2.2 ∧ (atHome r p).long = longS r p.1 := by
  obtain ⟨h1, h2⟩ := goods_ride p hp
  have hl := ride_long r p.1 (leave r) h1
  have hh := home_back hr p.1 (w := (ride r (leave r) p.1).2.2) (ts := (ride r (leave r) p.1).1) (by rw [← h1])
  unfold atHome
  rw [h2]
  refine ⟨?_, ?_⟩
  · rw [hh.1]
    unfold goS
    revert h1
    generalize ride r (leave r) p.1 = x
    obtain ⟨x1, x2, x3⟩ := x
    intro h1
    simp only at h1
    subst h1
    rfl
  · rw [hh.2]
    unfold longS longP
    have e : ((leave r).at_, (leave r).long) = (r.n, (0 : Int)) := rfl
    rw [e] at hl
    rw [hl]
theorem atHome_pos {r : Route} (hr : RouteOk r) {p : List Nat × Van} (hp : p ∈ goods r) : 0 ≤ (atHome r p).now ∧ 0 ≤ (atHome r p).long := by
  have hv := (goods_ok hr p hp).2.2
  have h1 := hv.now
  have h2 := hv.long
  have hc := hr.cell p.2.at_ r.n hv.at_ (Nat.lt_succ_self _)
  unfold atHome home
  split
  · exact ⟨h1.1, h2.1⟩
  · simp only [drv]; omega
theorem wholes_goods {r : Route} {p : List Nat × Van} (hp : p ∈ wholes r) : p ∈ goods r := (List.mem_filter.1 hp).1

theorem soon_eq (r : Route) : soonS r = rsoonS r := by
  unfold soonS rsoonS
  rw [someE_eq]
  by_cases h : errR r = 0
  · rw [if_pos h, if_pos h]
    obtain ⟨hr, _, hlen⟩ := errR_eq h
    have e : ((wholes r).map fun p => (atHome r p).now) = (goodR r true).map fun t => (goS r t).2.2 := by
      rw [← wholes_eq, List.map_map]
      exact List.map_congr_left fun p hp => (atHome_eq hr (wholes_goods hp)).1
    rw [e, least_min _ _ (List.length_pos_iff.1 hlen)]
    intro t ht
    rw [← wholes_eq] at ht
    obtain ⟨p, hp, rfl⟩ := List.mem_map.1 ht
    rw [← (atHome_eq hr (wholes_goods hp)).1]
    exact (atHome_pos hr (wholes_goods hp)).1
  · rw [if_neg h, if_neg h]
theorem shortest_eq (r : Route) : shortestS r = rshortS r := by
  unfold shortestS rshortS
  rw [someE_eq]
  by_cases h : errR r = 0
  · rw [if_pos h, if_pos h]
    obtain ⟨hr, _, hlen⟩ := errR_eq h
    have e : ((wholes r).map fun p => (atHome r p).long) = (goodR r true).map (longS r) := by
      rw [← wholes_eq, List.map_map]
      exact List.map_congr_left fun p hp => (atHome_eq hr (wholes_goods hp)).2
    rw [shortB_one, e, least_min _ _ (List.length_pos_iff.1 hlen)]
    intro t ht
    rw [← wholes_eq] at ht
    obtain ⟨p, hp, rfl⟩ := List.mem_map.1 ht
    rw [← (atHome_eq hr (wholes_goods hp)).2]
    exact (atHome_pos hr (wholes_goods hp)).2
  · rw [if_neg h, if_neg h]
theorem most_eq (r : Route) : mostS r = rmostS r := by
  unfold mostS rmostS
  cases r.ok
  · rfl
  · simp only [if_true, mostB, rmostB]
    rw [← goods_eq, List.foldl_map, List.foldl_map]
end Go.Proofs.Ytbejgfpaokcnpaa

/-
  What Way returns, and Shut: plain.
-/
namespace Go.Proofs.Ytbejgfpaokcnpaa
open Go Go.V

end Go.Proofs.Ytbejgfpaokcnpaa

/-
  The latest start: a tour is good from a start just if this is not above what leavesS says; and Latest is the reference's: plain.
-/
namespace Go.Proofs.Ytbejgfpaokcnpaa
open Go Go.V

end Go.Proofs.Ytbejgfpaokcnpaa

namespace Go.Proofs.Ytbejgfpaokcnpaa
open Go Go.V
@[reducible] def o13_0 : List Ins := [⟨(some 1), .box 3 (.t 0), none, true⟩,
  ⟨(some 2), .mv (.k (.c (.bool false))), none, true⟩]
@[reducible] def o13_1 : List Ins := [⟨(some 3), .ld false 3 (.t 1), none, true⟩,
  ⟨(some 4), .call (.k (.fn 19 [])) [(.t 3)], none, true⟩,
  ⟨(some 5), .un .not (.t 4), none, true⟩,
  ⟨(some 6), .mv (.t 5), none, true⟩,
  ⟨(some 7), .ld false 3 (.t 1), (some (6, true)), true⟩,
  ⟨(some 8), .call (.k (.fn 27 [])) [(.t 7)], (some (6, true)), true⟩,
  ⟨(some 9), .bin .eql (.t 8) (.k (.c (.int .i64 0))), (some (6, true)), true⟩,
  ⟨(some 10), .pick (.t 6) (.t 9) (.k (.c (.bool false))), none, true⟩,
  ⟨(some 2), .mv (.t 10), none, true⟩]
@[reducible] def v13_2 : VC := (.seq (.ops o13_1) .ret)
def ir13 : FC := ⟨1, 11, [.t 2], (.seq (.ops o13_0) v13_2)⟩
@[reducible] def o16_0 : List Ins := [⟨(some 2), .mv (.k (.c (.bool false))), none, true⟩]
@[reducible] def o16_1 : List Ins := [⟨(some 3), .mv (.t 0), none, true⟩,
  ⟨(some 4), .bin .eql (.t 3) (.k (.c (.int .i64 0))), none, true⟩,
  ⟨(some 5), .mv (.t 4), none, true⟩,
  ⟨(some 6), .mv (.t 0), (some (5, false)), true⟩,
  ⟨(some 7), .bin .eql (.t 6) (.k (.c (.int .i64 3))), (some (5, false)), true⟩,
  ⟨(some 8), .pick (.t 5) (.k (.c (.bool true))) (.t 7), none, true⟩,
  ⟨(some 2), .mv (.t 8), none, true⟩]
@[reducible] def v16_2 : VC := (.seq (.ops o16_1) .ret)
def ir16 : FC := ⟨1, 9, [.t 2], (.seq (.ops o16_0) v16_2)⟩
@[reducible] def o3_0 : List Ins := [⟨(some 2), .box 3 (.t 0), none, true⟩,
  ⟨(some 4), .mv (.k (.c (.bool false))), none, true⟩]
@[reducible] def o3_1 : List Ins := [⟨(some 10), .ld false 3 (.t 2), none, true⟩,
  ⟨(some 11), .call (.k (.fn 13 [])) [(.t 10)], none, true⟩,
  ⟨(some 12), .un .not (.t 11), none, true⟩,
  ⟨(some 13), .mv (.t 12), none, true⟩,
  ⟨(some 14), .mv (.t 1), (some (13, false)), true⟩,
  ⟨(some 15), .bin .lss (.t 14) (.k (.c (.int .i64 0))), (some (13, false)), true⟩,
  ⟨(some 16), .pick (.t 13) (.k (.c (.bool true))) (.t 15), none, true⟩,
  ⟨(some 17), .mv (.t 16), none, true⟩,
  ⟨(some 18), .mv (.t 1), (some (17, false)), true⟩,
  ⟨(some 19), .bin .gtr (.t 18) (.k (.c (.int .i64 1440))), (some (17, false)), true⟩,
  ⟨(some 20), .pick (.t 17) (.k (.c (.bool true))) (.t 19), none, true⟩]
@[reducible] def o3_2 : List Ins := [⟨(some 21), .call (.k (.fn 14 [])) [], none, true⟩,
  ⟨(some 4), .mv (.t 21), none, true⟩]
@[reducible] def v3_3 : VC := (.seq (.ops o3_2) .ret)
@[reducible] def v3_4 : VC := (.cond (.t 20) v3_3 .skip)
@[reducible] def o3_5 : List Ins := [⟨(some 23), .ld false 3 (.t 2), none, true⟩,
  ⟨(some 24), .call (.k (.fn 15 [])) [(.t 23)], none, true⟩,
  ⟨(some 22), .mv (.t 24), none, true⟩,
  ⟨(some 25), .ext (.t 22) 0, none, true⟩,
  ⟨(some 26), .ext (.t 22) 1, none, true⟩,
  ⟨(some 5), .mv (.t 25), none, true⟩,
  ⟨(some 6), .mv (.t 26), none, true⟩]
@[reducible] def o3_6 : List Ins := [⟨(some 27), .mv (.t 6), none, true⟩,
  ⟨(some 28), .call (.k (.fn 16 [])) [(.t 27)], none, true⟩,
  ⟨(some 29), .un .not (.t 28), none, true⟩,
  ⟨(some 30), .mv (.t 29), none, true⟩,
  ⟨(some 31), .mv (.t 6), (some (30, false)), true⟩,
  ⟨(some 32), .bin .eql (.t 31) (.k (.c (.int .i64 0))), (some (30, false)), true⟩,
  ⟨(some 33), .mv (.t 32), (some (30, false)), true⟩,
  ⟨(some 34), .mv (.t 5), (some (33, true)), true⟩,
  ⟨(some 35), .bin .lss (.t 34) (.k (.c (.int .i64 0))), (some (33, true)), true⟩,
  ⟨(some 36), .mv (.t 35), (some (33, true)), true⟩,
  ⟨(some 37), .mv (.t 5), (some (36, false)), true⟩,
  ⟨(some 38), .bin .gtr (.t 37) (.k (.c (.int .i64 1440))), (some (36, false)), true⟩,
  ⟨(some 39), .pick (.t 36) (.k (.c (.bool true))) (.t 38), (some (33, true)), true⟩,
  ⟨(some 40), .pick (.t 33) (.t 39) (.k (.c (.bool false))), (some (30, false)), true⟩,
  ⟨(some 41), .pick (.t 30) (.k (.c (.bool true))) (.t 40), none, true⟩]
@[reducible] def o3_7 : List Ins := [⟨(some 4), .mv (.k (.c (.bool false))), none, true⟩]
@[reducible] def v3_8 : VC := (.seq (.ops o3_7) .ret)
@[reducible] def v3_9 : VC := (.cond (.t 41) v3_8 .skip)
@[reducible] def o3_10 : List Ins := [⟨(some 42), .ld false 3 (.t 2), none, true⟩,
  ⟨(some 43), .call (.k (.fn 17 [])) [(.t 42)], none, true⟩,
  ⟨(some 7), .alloc [(.c (.raw (.slice none 0 0))), (.c (.raw (.slice none 0 0))), (.c (.int .i64 0))], none, true⟩,
  ⟨none, .st 3 (.t 7) (.t 43), none, true⟩]
@[reducible] def o3_11 : List Ins := [⟨(some 44), .mv (.t 1), none, true⟩,
  ⟨(some 45), .fa 2 (.t 7), none, true⟩,
  ⟨none, .st 1 (.t 45) (.t 44), none, true⟩]
@[reducible] def o3_12 : List Ins := [⟨(some 47), .ld false 3 (.t 7), none, true⟩,
  ⟨(some 48), .call (.k (.fn 18 [])) [(.t 47)], none, true⟩,
  ⟨(some 46), .mv (.t 48), none, true⟩,
  ⟨(some 49), .ext (.t 46) 0, none, true⟩,
  ⟨(some 50), .ext (.t 46) 1, none, true⟩,
  ⟨(some 8), .mv (.t 49), none, true⟩,
  ⟨(some 9), .mv (.t 50), none, true⟩]
@[reducible] def o3_13 : List Ins := [⟨(some 51), .mv (.t 9), none, true⟩,
  ⟨(some 52), .call (.k (.fn 16 [])) [(.t 51)], none, true⟩,
  ⟨(some 53), .un .not (.t 52), none, true⟩,
  ⟨(some 54), .mv (.t 53), none, true⟩,
  ⟨(some 55), .mv (.t 9), (some (54, false)), true⟩,
  ⟨(some 56), .bin .eql (.t 55) (.k (.c (.int .i64 0))), (some (54, false)), true⟩,
  ⟨(some 57), .mv (.t 6), (some (54, false)), true⟩,
  ⟨(some 58), .bin .eql (.t 57) (.k (.c (.int .i64 0))), (some (54, false)), true⟩,
  ⟨(some 59), .mv (.t 58), (some (54, false)), true⟩,
  ⟨(some 60), .mv (.t 1), (some (59, true)), true⟩,
  ⟨(some 61), .mv (.t 5), (some (59, true)), true⟩,
  ⟨(some 62), .bin .leq (.t 60) (.t 61), (some (59, true)), true⟩,
  ⟨(some 63), .pick (.t 59) (.t 62) (.k (.c (.bool false))), (some (54, false)), true⟩,
  ⟨(some 64), .eqs true (.t 56) (.t 63), (some (54, false)), true⟩,
  ⟨(some 65), .pick (.t 54) (.k (.c (.bool true))) (.t 64), none, true⟩]
@[reducible] def o3_14 : List Ins := [⟨(some 4), .mv (.k (.c (.bool false))), none, true⟩]
@[reducible] def v3_15 : VC := (.seq (.ops o3_14) .ret)
@[reducible] def v3_16 : VC := (.cond (.t 65) v3_15 .skip)
@[reducible] def o3_17 : List Ins := [⟨(some 66), .mv (.t 6), none, true⟩,
  ⟨(some 67), .bin .neq (.t 66) (.k (.c (.int .i64 0))), none, true⟩]
@[reducible] def o3_18 : List Ins := [⟨(some 68), .call (.k (.fn 14 [])) [], none, true⟩,
  ⟨(some 4), .mv (.t 68), none, true⟩]
@[reducible] def v3_19 : VC := (.seq (.ops o3_18) .ret)
@[reducible] def v3_20 : VC := (.cond (.t 67) v3_19 .skip)
@[reducible] def o3_21 : List Ins := [⟨(some 69), .mv (.t 5), none, true⟩,
  ⟨(some 70), .fa 2 (.t 7), none, true⟩,
  ⟨none, .st 1 (.t 70) (.t 69), none, true⟩]
@[reducible] def o3_22 : List Ins := [⟨(some 72), .ld false 3 (.t 7), none, true⟩,
  ⟨(some 73), .call (.k (.fn 18 [])) [(.t 72)], none, true⟩,
  ⟨(some 71), .mv (.t 73), none, true⟩,
  ⟨(some 74), .ext (.t 71) 0, none, true⟩,
  ⟨(some 75), .ext (.t 71) 1, none, true⟩,
  ⟨(some 9), .mv (.t 75), none, true⟩]
@[reducible] def o3_23 : List Ins := [⟨(some 76), .mv (.t 9), none, true⟩,
  ⟨(some 77), .bin .neq (.t 76) (.k (.c (.int .i64 0))), none, true⟩,
  ⟨(some 78), .mv (.t 77), none, true⟩,
  ⟨(some 79), .mv (.t 5), (some (78, false)), true⟩,
  ⟨(some 80), .bin .eql (.t 79) (.k (.c (.int .i64 1440))), (some (78, false)), true⟩,
  ⟨(some 81), .pick (.t 78) (.k (.c (.bool true))) (.t 80), none, true⟩]
@[reducible] def o3_24 : List Ins := [⟨(some 82), .mv (.t 9), none, true⟩,
  ⟨(some 83), .bin .eql (.t 82) (.k (.c (.int .i64 0))), none, true⟩,
  ⟨(some 84), .mv (.t 83), none, true⟩,
  ⟨(some 85), .call (.k (.fn 14 [])) [], (some (84, true)), true⟩,
  ⟨(some 86), .pick (.t 84) (.t 85) (.k (.c (.bool false))), none, true⟩,
  ⟨(some 4), .mv (.t 86), none, true⟩]
@[reducible] def v3_25 : VC := (.seq (.ops o3_24) .ret)
@[reducible] def v3_26 : VC := (.cond (.t 81) v3_25 .skip)
@[reducible] def o3_27 : List Ins := [⟨(some 87), .fa 2 (.t 7), none, true⟩,
  ⟨(some 88), .ld true 1 (.t 87), none, true⟩,
  ⟨(some 89), .bin .add (.t 88) (.k (.c (.int .i64 1))), none, true⟩,
  ⟨(some 90), .fa 2 (.t 7), none, true⟩,
  ⟨none, .st 1 (.t 90) (.t 89), none, true⟩]
@[reducible] def o3_28 : List Ins := [⟨(some 92), .ld false 3 (.t 7), none, true⟩,
  ⟨(some 93), .call (.k (.fn 18 [])) [(.t 92)], none, true⟩,
  ⟨(some 91), .mv (.t 93), none, true⟩,
  ⟨(some 94), .ext (.t 91) 0, none, true⟩,
  ⟨(some 95), .ext (.t 91) 1, none, true⟩,
  ⟨(some 9), .mv (.t 95), none, true⟩]
@[reducible] def o3_29 : List Ins := [⟨(some 96), .mv (.t 9), none, true⟩,
  ⟨(some 97), .bin .eql (.t 96) (.k (.c (.int .i64 3))), none, true⟩,
  ⟨(some 98), .mv (.t 97), none, true⟩,
  ⟨(some 99), .call (.k (.fn 14 [])) [], (some (98, true)), true⟩,
  ⟨(some 100), .pick (.t 98) (.t 99) (.k (.c (.bool false))), none, true⟩,
  ⟨(some 4), .mv (.t 100), none, true⟩]
@[reducible] def v3_30 : VC := (.seq (.ops o3_29) .ret)
@[reducible] def v3_31 : VC := (.seq (.ops o3_28) v3_30)
@[reducible] def v3_32 : VC := (.seq (.ops o3_27) v3_31)
@[reducible] def v3_33 : VC := (.seq (.seq (.ops o3_23) v3_26) v3_32)
@[reducible] def v3_34 : VC := (.seq (.ops o3_22) v3_33)
@[reducible] def v3_35 : VC := (.seq (.ops o3_21) v3_34)
@[reducible] def v3_36 : VC := (.seq (.seq (.ops o3_17) v3_20) v3_35)
@[reducible] def v3_37 : VC := (.seq (.seq (.ops o3_13) v3_16) v3_36)
@[reducible] def v3_38 : VC := (.seq (.ops o3_12) v3_37)
@[reducible] def v3_39 : VC := (.seq (.ops o3_11) v3_38)
@[reducible] def v3_40 : VC := (.seq (.ops o3_10) v3_39)
@[reducible] def v3_41 : VC := (.seq (.seq (.ops o3_6) v3_9) v3_40)
@[reducible] def v3_42 : VC := (.seq (.ops o3_5) v3_41)
@[reducible] def v3_43 : VC := (.seq (.seq (.ops o3_1) v3_4) v3_42)
def ir3 : FC := ⟨2, 101, [.t 4], (.seq (.ops o3_0) v3_43)⟩
theorem c13 : compM Try.prog [] 13 = some ir13 := by kernel_rfl
theorem c16 : compM Try.prog [] 16 = some ir16 := by kernel_rfl
theorem c3 : compM Try.prog [] 3 = some ir3 := by kernel_rfl



def readyS (r : Route) : Bool := !farS r && r.ok
theorem readyS_of {r : Route} (h : readyS r = true) : r.ok = true ∧ near r = true := by
  unfold readyS at h
  simp only [Bool.and_eq_true, Bool.not_eq_true'] at h
  refine ⟨h.2, ?_⟩
  have hf := h.1
  unfold farS at hf
  by_cases hn : near r = true
  · exact hn
  · rw [if_neg hn] at hf; cases hf

set_option maxHeartbeats 2000000 in
theorem ready13 (r : Route) : FSpec Try.prog 13 [r.av] (.c (.bool (readyS r))) := by
  refine FSpec_of c13 (Nat.le_refl _) (by decide) fun C hP hN hC hL => ?_
  simp only [ir13, Route.av]
  (repeat ((first | refine WV_seq_ ?_ | refine WV_block ?_ | refine WV_ops ?_ | refine WV_skip ?_ | refine WV_exit ?_); (try simp only [go_sem, init_env', Nat.reduceEqDiff, Nat.reduceAdd, Nat.reduceMul, reduceIte, Nat.reduceLeDiff, Nat.reduceLT, Nat.reduceBEq, reduceCtorEq, hP, ]); (repeat (refine And.intro (by first | omega | (intros; simp_all; done) | (intros; simp_all; omega)) ?_))))
  (refine AS_pure (far19 r) rfl rfl rfl rfl rfl ?_; simp only [go_sem, init_env', Nat.reduceEqDiff, Nat.reduceAdd, Nat.reduceMul, reduceIte, Nat.reduceLeDiff, Nat.reduceLT, Nat.reduceBEq, reduceCtorEq, hP, Route.av]; (repeat (refine And.intro (by first | omega | (intros; simp_all; done) | (intros; simp_all; omega)) ?_)); (repeat ((first | refine WV_seq_ ?_ | refine WV_block ?_ | refine WV_ops ?_ | refine WV_skip ?_ | refine WV_exit ?_); (try simp only [go_sem, init_env', Nat.reduceEqDiff, Nat.reduceAdd, Nat.reduceMul, reduceIte, Nat.reduceLeDiff, Nat.reduceLT, Nat.reduceBEq, reduceCtorEq, hP, Route.av]); (repeat (refine And.intro (by first | omega | (intros; simp_all; done) | (intros; simp_all; omega)) ?_)))))
  (refine AG_pure (fun hG => check_spec r) rfl (fun hG => by simp only [go_sem, init_env', Nat.reduceEqDiff, Nat.reduceAdd, Nat.reduceMul, reduceIte, Nat.reduceLeDiff, Nat.reduceLT, Nat.reduceBEq, reduceCtorEq, hG]) rfl rfl rfl ?_; simp only [go_sem, init_env', Nat.reduceEqDiff, Nat.reduceAdd, Nat.reduceMul, reduceIte, Nat.reduceLeDiff, Nat.reduceLT, Nat.reduceBEq, reduceCtorEq, hP, Route.av]; (repeat (refine And.intro (by first | omega | (intros; simp_all; done) | (intros; simp_all; omega)) ?_)); (repeat ((first | refine WV_seq_ ?_ | refine WV_block ?_ | refine WV_ops ?_ | refine WV_skip ?_ | refine WV_exit ?_); (try simp only [go_sem, init_env', Nat.reduceEqDiff, Nat.reduceAdd, Nat.reduceMul, reduceIte, Nat.reduceLeDiff, Nat.reduceLT, Nat.reduceBEq, reduceCtorEq, hP, Route.av]); (repeat (refine And.intro (by first | omega | (intros; simp_all; done) | (intros; simp_all; omega)) ?_)))))
  by_cases hok : r.ok = true
  · simp only [hok, if_true, beq_self_eq_true]
    (try refine ⟨fun h => by simpa using h, ?_⟩)
    (repeat ((first | refine WV_seq_ ?_ | refine WV_block ?_ | refine WV_ops ?_ | refine WV_skip ?_ | refine WV_exit ?_); (try simp only [go_sem, init_env', Nat.reduceEqDiff, Nat.reduceAdd, Nat.reduceMul, reduceIte, Nat.reduceLeDiff, Nat.reduceLT, Nat.reduceBEq, reduceCtorEq, hP, ]); (repeat (refine And.intro (by first | omega | (intros; simp_all; done) | (intros; simp_all; omega)) ?_))))
    (refine WV_ret ?_; simp only [thenQ, inQ, RetQ, RetOk, resAll, resA]; simp only [go_sem, init_env', Nat.reduceEqDiff, Nat.reduceAdd, Nat.reduceMul, reduceIte, Nat.reduceLeDiff, Nat.reduceLT, Nat.reduceBEq, reduceCtorEq, tupA, AV.port, AV.portL, exists_eq_left', ]; (first | exact AVle.of rfl | refine AVle.of ?_ | skip))
    simp [readyS, hok]
  · have hok : r.ok = false := by simpa using hok
    simp only [hok, Bool.false_eq_true, if_false]
    (try refine ⟨fun h => by simpa using h, ?_⟩)
    (repeat ((first | refine WV_seq_ ?_ | refine WV_block ?_ | refine WV_ops ?_ | refine WV_skip ?_ | refine WV_exit ?_); (try simp only [go_sem, init_env', Nat.reduceEqDiff, Nat.reduceAdd, Nat.reduceMul, reduceIte, Nat.reduceLeDiff, Nat.reduceLT, Nat.reduceBEq, reduceCtorEq, hP, ]); (repeat (refine And.intro (by first | omega | (intros; simp_all; done) | (intros; simp_all; omega)) ?_))))
    (refine WV_ret ?_; simp only [thenQ, inQ, RetQ, RetOk, resAll, resA]; simp only [go_sem, init_env', Nat.reduceEqDiff, Nat.reduceAdd, Nat.reduceMul, reduceIte, Nat.reduceLeDiff, Nat.reduceLT, Nat.reduceBEq, reduceCtorEq, tupA, AV.port, AV.portL, exists_eq_left', ]; (first | exact AVle.of rfl | refine AVle.of ?_ | skip))
    simp [readyS, hok]

def knownS (e : Int) : Bool := e == 0 || e == 3
theorem known16 (e : Int) : FSpec Try.prog 16 [iv e] (.c (.bool (knownS e))) := by
  refine FSpec_of c16 (Nat.le_refl _) (by decide) fun C hP hN hC hL => ?_
  simp only [ir16]
  (repeat ((first | refine WV_seq_ ?_ | refine WV_block ?_ | refine WV_ops ?_ | refine WV_skip ?_ | refine WV_exit ?_); (try simp only [go_sem, init_env', Nat.reduceEqDiff, Nat.reduceAdd, Nat.reduceMul, reduceIte, Nat.reduceLeDiff, Nat.reduceLT, Nat.reduceBEq, reduceCtorEq, hP, ]); (repeat (refine And.intro (by first | omega | (intros; simp_all; done) | (intros; simp_all; omega)) ?_))))
  (refine WV_ret ?_; simp only [thenQ, inQ, RetQ, RetOk, resAll, resA]; simp only [go_sem, init_env', Nat.reduceEqDiff, Nat.reduceAdd, Nat.reduceMul, reduceIte, Nat.reduceLeDiff, Nat.reduceLT, Nat.reduceBEq, reduceCtorEq, tupA, AV.port, AV.portL, exists_eq_left', ]; (first | exact AVle.of rfl | refine AVle.of ?_ | skip))

end Go.Proofs.Ytbejgfpaokcnpaa

namespace Go.Proofs.Ytbejgfpaokcnpaa
open Go Go.V
@[reducible] def o42_0 : List Ins := [⟨(some 1), .box 3 (.t 0), none, true⟩,
  ⟨(some 2), .mv (.k (.c (.raw (.slice none 0 0)))), none, true⟩,
  ⟨(some 3), .mv (.k (.c (.int .i64 0))), none, true⟩]
@[reducible] def o42_1 : List Ins := [⟨(some 9), .ld false 3 (.t 1), none, true⟩,
  ⟨(some 10), .call (.k (.fn 26 [])) [(.t 9)], none, true⟩,
  ⟨(some 4), .mv (.t 10), none, true⟩]
@[reducible] def o42_2 : List Ins := [⟨(some 11), .mv (.t 4), none, true⟩,
  ⟨(some 12), .bin .neq (.t 11) (.k (.c (.int .i64 0))), none, true⟩]
@[reducible] def o42_3 : List Ins := [⟨(some 13), .mv (.t 4), none, true⟩,
  ⟨(some 2), .mv (.k (.c (.raw (.slice none 0 0)))), none, true⟩,
  ⟨(some 3), .mv (.t 13), none, true⟩]
@[reducible] def v42_4 : VC := (.seq (.ops o42_3) .ret)
@[reducible] def v42_5 : VC := (.cond (.t 12) v42_4 .skip)
@[reducible] def v42_6 : VC := (.seq (.ops o42_2) v42_5)
@[reducible] def o42_7 : List Ins := [⟨(some 5), .alloc [(.c (.bool false)), (.c (.bool false)), (.c (.bool false)), (.c (.bool false)), (.c (.bool false)), (.c (.bool false)), (.c (.bool false))], none, true⟩]
@[reducible] def o42_8 : List Ins := [⟨(some 14), .call (.k (.fn 66 [])) [(.t 1)], none, true⟩]
@[reducible] def o42_9 : List Ins := [⟨(some 17), .mv (.t 6), none, true⟩,
  ⟨(some 18), .len (.t 17), none, true⟩,
  ⟨(some 19), .bin .gtr (.t 18) (.k (.c (.int .i64 0))), none, true⟩]
@[reducible] def o42_10 : List Ins := [⟨(some 20), .mv (.t 6), none, true⟩,
  ⟨(some 21), .mv (.t 6), none, true⟩,
  ⟨(some 22), .len (.t 21), none, true⟩,
  ⟨(some 23), .bin .sub (.t 22) (.k (.c (.int .i64 1))), none, true⟩,
  ⟨(some 24), .ia 1 (.t 20) (.t 23), none, true⟩,
  ⟨(some 25), .ld true 1 (.t 24), none, true⟩,
  ⟨(some 26), .iap 7 1 (.t 5) (.t 25), none, true⟩,
  ⟨none, .st 1 (.t 26) (.k (.c (.bool true))), none, true⟩]
@[reducible] def v42_11 : VC := (.cond (.t 19) (.ops o42_10) .skip)
@[reducible] def v42_12 : VC := (.seq (.ops o42_9) v42_11)
@[reducible] def v42_13 : VC := (.block 1 v42_12)
@[reducible] def o42_14 : List Ins := [⟨(some 6), .mv (.t 15), none, true⟩]
@[reducible] def K42_1 : List Nat := [1, 5, 14]
@[reducible] def v42_15 : VC := (.rng (.t 14) [15, 16] (.ops o42_14) v42_13)
@[reducible] def v42_16 : VC := (.block 0 v42_15)
@[reducible] def o42_17 : List Ins := [⟨(some 7), .mv (.k (.c (.raw (.slice none 0 0)))), none, true⟩]
@[reducible] def o42_18 : List Ins := [⟨(some 27), .fa 0 (.t 1), none, true⟩,
  ⟨(some 28), .ld true 1 (.t 27), none, true⟩,
  ⟨(some 29), .len (.t 28), none, true⟩,
  ⟨(some 30), .mv (.k (.c (.int .i64 0))), none, true⟩]
@[reducible] def o42_19 : List Ins := [⟨(some 31), .bin .lss (.t 30) (.t 29), none, true⟩]
@[reducible] def o42_20 : List Ins := [⟨(some 32), .mv (.t 30), none, true⟩,
  ⟨(some 8), .mv (.t 32), none, true⟩]
@[reducible] def o42_21 : List Ins := [⟨(some 33), .mv (.t 8), none, true⟩,
  ⟨(some 34), .iap 7 1 (.t 5) (.t 33), none, true⟩,
  ⟨(some 35), .ld true 1 (.t 34), none, true⟩,
  ⟨(some 36), .un .not (.t 35), none, true⟩]
@[reducible] def o42_22 : List Ins := [⟨(some 37), .mv (.t 7), none, true⟩,
  ⟨(some 38), .mv (.t 8), none, true⟩,
  ⟨(some 39), .bsl 3 1 [(.t 38)], none, true⟩,
  ⟨(some 40), .app 3 1 8 (.t 37) (.t 39), none, true⟩,
  ⟨(some 7), .mv (.t 40), none, true⟩]
@[reducible] def v42_23 : VC := (.cond (.t 36) (.ops o42_22) .skip)
@[reducible] def v42_24 : VC := (.seq (.ops o42_21) v42_23)
@[reducible] def v42_25 : VC := (.seq (.ops o42_20) v42_24)
@[reducible] def o42_26 : List Ins := [⟨(some 41), .bin .add (.t 30) (.k (.c (.int .i64 1))), none, true⟩,
  ⟨(some 30), .mv (.t 41), none, true⟩]
@[reducible] def v42_27 : VC := (.seq (.block 3 v42_25) (.ops o42_26))
@[reducible] def v42_28 : VC := (.seq (.cond (.t 31) .skip (.exit 2)) v42_27)
@[reducible] def v42_29 : VC := (.seq (.ops o42_19) v42_28)
-- K42_2: changed and kept: [30, 7]
@[reducible] def K42_2 : List Nat := [5, 29]
@[reducible] def v42_30 : VC := (.loop v42_29)
@[reducible] def v42_31 : VC := (.block 2 v42_30)
@[reducible] def o42_32 : List Ins := [⟨(some 42), .mv (.t 7), none, true⟩,
  ⟨(some 2), .mv (.t 42), none, true⟩,
  ⟨(some 3), .mv (.k (.c (.int .i64 0))), none, true⟩]
@[reducible] def v42_33 : VC := (.seq (.ops o42_32) .ret)
@[reducible] def v42_34 : VC := (.seq (.seq (.ops o42_18) v42_31) v42_33)
@[reducible] def v42_35 : VC := (.seq (.ops o42_17) v42_34)
@[reducible] def v42_36 : VC := (.seq (.seq (.ops o42_8) v42_16) v42_35)
@[reducible] def v42_37 : VC := (.seq (.ops o42_7) v42_36)
@[reducible] def v42_38 : VC := (.seq (.seq (.ops o42_1) v42_6) v42_37)
def ir42 : FC := ⟨1, 43, [.t 2, .t 3], (.seq (.ops o42_0) v42_38)⟩
theorem c42 : compM Try.prog [] 42 = some ir42 := by kernel_rfl



theorem seenC_pure (l : List Int) : AV.pureL (seenC l) = true := rfl
theorem seenC_solid (l : List Int) : AV.isSolidL (seenC l) = true := rfl
/-- The last stops of tours. -/
def lasts (l : List (List Nat × Van)) : List Int := l.filterMap fun p => p.1.getLast?.map fun (k : Nat) => (k : Int)
theorem lasts_snoc (l : List (List Nat × Van)) (p : List Nat × Van) : lasts (l ++ [p]) = lasts l ++ (p.1.getLast?.map fun (k : Nat) => (k : Int)).toList := by
  unfold lasts
  rw [List.filterMap_append]
  cases h : p.1.getLast? <;> simp [h]
/-- The stops up to k that are none of these. -/
def shutL (s : List Int) (k : Nat) : List Int := ((List.range k).map fun (n : Nat) => (n : Int)).filter fun n => !decide (n ∈ s)
theorem shutL_succ (s : List Int) (k : Nat) : shutL s (k + 1) = shutL s k ++ (if (k : Int) ∈ s then [] else [(k : Int)]) := by
  unfold shutL
  rw [List.range_succ, List.map_append, List.filter_append]
  by_cases h : (k : Int) ∈ s <;> simp [h]
theorem shutL_len (s : List Int) (k : Nat) : (shutL s k).length ≤ k := by
  unfold shutL
  exact Nat.le_trans (List.length_filter_le _ _) (by simp)
def shutS (r : Route) : List Int × Int := if r.ok then (shutL (lasts (goods r)) r.n, 0) else ([], 80)

set_option maxHeartbeats 4000000 in
theorem shut42 (r : Route) : FSpec Try.prog 42 [r.av] (.tup [.c (ints (shutS r).1), iv (shutS r).2]) := by
  refine FSpec_of c42 (Nat.le_refl _) (by decide) fun C hP hN hC hL => ?_
  simp only [ir42, Route.av]
  (repeat ((first | refine WV_seq_ ?_ | refine WV_block ?_ | refine WV_ops ?_ | refine WV_skip ?_ | refine WV_exit ?_); (try simp only [go_sem, init_env', Nat.reduceEqDiff, Nat.reduceAdd, Nat.reduceMul, reduceIte, Nat.reduceLeDiff, Nat.reduceLT, Nat.reduceBEq, reduceCtorEq, hP, ]); (repeat (refine And.intro (by first | omega | (intros; simp_all; done) | (intros; simp_all; omega)) ?_))))
  (refine AS_pure (rcheck_spec r) rfl rfl rfl rfl rfl ?_; simp only [go_sem, init_env', Nat.reduceEqDiff, Nat.reduceAdd, Nat.reduceMul, reduceIte, Nat.reduceLeDiff, Nat.reduceLT, Nat.reduceBEq, reduceCtorEq, hP, Route.av]; (repeat (refine And.intro (by first | omega | (intros; simp_all; done) | (intros; simp_all; omega)) ?_)); (repeat ((first | refine WV_seq_ ?_ | refine WV_block ?_ | refine WV_ops ?_ | refine WV_skip ?_ | refine WV_exit ?_); (try simp only [go_sem, init_env', Nat.reduceEqDiff, Nat.reduceAdd, Nat.reduceMul, reduceIte, Nat.reduceLeDiff, Nat.reduceLT, Nat.reduceBEq, reduceCtorEq, hP, Route.av]); (repeat (refine And.intro (by first | omega | (intros; simp_all; done) | (intros; simp_all; omega)) ?_)))))
  by_cases hok : r.ok = true
  · have hr := Route.ok_spec hok
    have hn7 := hr.n7
    simp only [hok, if_true]
    (refine WV_cond rfl (fun h => ?_) (fun h => ?_))
    · simp at h
    · clear h
      have hsl : (r.stops.length : Int) = (r.n : Int) := rfl
      refine WV_freeze 1 (ds := r.cds) rfl rfl ?_
      (repeat ((first | refine WV_seq_ ?_ | refine WV_block ?_ | refine WV_ops ?_ | refine WV_skip ?_ | refine WV_exit ?_); (try simp only [go_sem, init_env', Nat.reduceEqDiff, Nat.reduceAdd, Nat.reduceMul, reduceIte, Nat.reduceLeDiff, Nat.reduceLT, Nat.reduceBEq, reduceCtorEq, hP, ]); (repeat (refine And.intro (by first | omega | (intros; simp_all; done) | (intros; simp_all; omega)) ?_))))
      (refine AS_pure (tours66 r) rfl rfl rfl rfl rfl ?_; simp only [go_sem, init_env', Nat.reduceEqDiff, Nat.reduceAdd, Nat.reduceMul, reduceIte, Nat.reduceLeDiff, Nat.reduceLT, Nat.reduceBEq, reduceCtorEq, hP, ]; (repeat (refine And.intro (by first | omega | (intros; simp_all; done) | (intros; simp_all; omega)) ?_)); (repeat ((first | refine WV_seq_ ?_ | refine WV_block ?_ | refine WV_ops ?_ | refine WV_skip ?_ | refine WV_exit ?_); (try simp only [go_sem, init_env', Nat.reduceEqDiff, Nat.reduceAdd, Nat.reduceMul, reduceIte, Nat.reduceLeDiff, Nat.reduceLT, Nat.reduceBEq, reduceCtorEq, hP, ]); (repeat (refine And.intro (by first | omega | (intros; simp_all; done) | (intros; simp_all; omega)) ?_)))))
      refine WV_keep K42_1 ?_
      simp only [go_sem, init_env', Nat.reduceEqDiff, Nat.reduceAdd, Nat.reduceMul, reduceIte, Nat.reduceLeDiff, Nat.reduceLT, Nat.reduceBEq, reduceCtorEq]
      refine WV_rng hC (L := [5]) (l := [.box (seenC (lasts []))]) (env' := lendF [5] _ _) (rem := (goods r).map (entT r)) (Fin := fun pend lf => pend = none ∧ lf = [.box (seenC (lasts (goods r)))]) rfl rfl rfl (by decide) (by decide) ?_ (by rw [hN]; decide) (lendF_ok _ _ _) (fun g' => ?_) ?_ ?_
      · simp only [go_sem, init_env', Nat.reduceEqDiff, Nat.reduceAdd, Nat.reduceMul, reduceIte, Nat.reduceLeDiff, Nat.reduceLT, Nat.reduceBEq, reduceCtorEq, obsLend, Ob.lend, AV.lendL, AV.lend]
        rfl
      · rw [hP]; exact ⟨_, tours74 hr g', fun _ _ h => h⟩
      · refine RunR_pre (entT r) (fun pre => [.box (seenC (lasts pre))]) (goods r) (fun p => rfl) (fun t _ => ⟨rfl, rfl⟩) (fun pre p post hts => ?_) (goods r) [] rfl
        have hpo := goods_ok hr p (by rw [hts]; simp)
        have hple := goods_len hr (p := p) (by rw [hts]; simp)
        have hprg : ∀ d, AV.prgL d (cellsT p.1) = cellsT p.1 := fun d => prgL_pure d (cellsT_pure _)
        simp only [lasts_snoc]
        intro C1 h1 h2 h3
        have hP0 := hP
        replace hP := h1.trans hP0
        rw [ownW_upd (by simp)]
        generalize lasts pre = s
        have hpsg : ∀ d s, AV.prgL d (seenC s) = seenC s := fun d s => prgL_pure d (seenC_pure _)
        simp only [go_sem, init_env', Nat.reduceEqDiff, Nat.reduceAdd, Nat.reduceMul, reduceIte, Nat.reduceLeDiff, Nat.reduceLT, Nat.reduceBEq, reduceCtorEq, lendF_upd, lendF_e0, AV.lend, AV.lendL, Option.getD_some, Option.getD_none, List.zip_cons_cons, List.zip_nil_right, updLo, entT, vanv]
        (repeat ((first | refine WV_seq_ ?_ | refine WV_block ?_ | refine WV_ops ?_ | refine WV_skip ?_ | refine WV_exit ?_); (try simp only [go_sem, init_env', Nat.reduceEqDiff, Nat.reduceAdd, Nat.reduceMul, reduceIte, Nat.reduceLeDiff, Nat.reduceLT, Nat.reduceBEq, reduceCtorEq, hP, hpsg]); (repeat (refine And.intro (by first | omega | (intros; simp_all; done) | (intros; simp_all; omega)) ?_))))
        intro C2 h1 h2 h3
        replace hP := h1.trans hP0
        (repeat ((first | refine WV_seq_ ?_ | refine WV_block ?_ | refine WV_ops ?_ | refine WV_skip ?_ | refine WV_exit ?_); (try simp only [go_sem, init_env', Nat.reduceEqDiff, Nat.reduceAdd, Nat.reduceMul, reduceIte, Nat.reduceLeDiff, Nat.reduceLT, Nat.reduceBEq, reduceCtorEq, hP, hprg, hpsg]); (repeat (refine And.intro (by first | omega | (intros; simp_all; done) | (intros; simp_all; omega)) ?_))))
        (refine WV_cond rfl (fun h => ?_) (fun h => ?_))
        · have h : 0 < p.1.length := by simpa using h
          obtain ⟨m, hm⟩ : ∃ m, p.1.length = m + 1 := ⟨p.1.length - 1, by omega⟩
          have hml : m < p.1.length := by omega
          have hkk := hpo.2.1 _ (List.getElem_mem hml)
          have hm7 : p.1[m] < 7 := by omega
          have hla : p.1.getLast? = some p.1[m] := by rw [List.getLast?_eq_getElem?, hm, Nat.add_sub_cancel, List.getElem?_eq_getElem]
          have hw := w64 (n := ((m + 1 : Nat) : Int) - 1) (by omega) (by omega)
          have ew : ((m + 1 : Nat) : Int) - 1 = (m : Int) := by omega
          rw [ew] at hw
          rw [hla]
          simp only [Option.map_some, Option.toList_some]
          (repeat ((first | refine WV_seq_ ?_ | refine WV_block ?_ | refine WV_ops ?_ | refine WV_skip ?_ | refine WV_exit ?_); (try simp only [go_sem, init_env', Nat.reduceEqDiff, Nat.reduceAdd, Nat.reduceMul, reduceIte, Nat.reduceLeDiff, Nat.reduceLT, Nat.reduceBEq, reduceCtorEq, hP, hprg, hpsg, hm, ew, hw, cellsT_len, cellsT_getD hml, Int.toNat_natCast, Nat.mul_one, Int.natCast_nonneg, seenC_len, seenC_set _ hm7]); (repeat (refine And.intro (by first | omega | (intros; simp_all; done) | (intros; simp_all; omega)) ?_))))
          refine ⟨none, _, rfl, ?_, rfl, rfl⟩
          refine KeepL_mk rfl rfl ?_ ?_ rfl
          · simp only [go_sem, init_env', Nat.reduceEqDiff, Nat.reduceAdd, Nat.reduceMul, reduceIte, Nat.reduceLeDiff, Nat.reduceLT, Nat.reduceBEq, reduceCtorEq, keepAll, Ob.keepP, keepPL_pure (seenC_pure _) (seenC_solid _)]
          · simp only [go_sem, init_env', Nat.reduceEqDiff, Nat.reduceAdd, Nat.reduceMul, reduceIte, Nat.reduceLeDiff, Nat.reduceLT, Nat.reduceBEq, reduceCtorEq, winAll]
        · have h : p.1 = [] := by simpa using h
          rw [h]
          simp only [List.getLast?_nil, Option.map_none, Option.toList_none, List.append_nil]
          (repeat ((first | refine WV_seq_ ?_ | refine WV_block ?_ | refine WV_ops ?_ | refine WV_skip ?_ | refine WV_exit ?_); (try simp only [go_sem, init_env', Nat.reduceEqDiff, Nat.reduceAdd, Nat.reduceMul, reduceIte, Nat.reduceLeDiff, Nat.reduceLT, Nat.reduceBEq, reduceCtorEq, hP, ]); (repeat (refine And.intro (by first | omega | (intros; simp_all; done) | (intros; simp_all; omega)) ?_))))
          refine ⟨none, _, rfl, ?_, rfl, rfl⟩
          refine KeepL_mk rfl rfl ?_ ?_ rfl
          · simp only [go_sem, init_env', Nat.reduceEqDiff, Nat.reduceAdd, Nat.reduceMul, reduceIte, Nat.reduceLeDiff, Nat.reduceLT, Nat.reduceBEq, reduceCtorEq, keepAll, Ob.keepP, keepPL_pure (seenC_pure _) (seenC_solid _)]
          · simp only [go_sem, init_env', Nat.reduceEqDiff, Nat.reduceAdd, Nat.reduceMul, reduceIte, Nat.reduceLeDiff, Nat.reduceLT, Nat.reduceBEq, reduceCtorEq, winAll]
      · rintro _ _ ⟨rfl, rfl⟩
        have hbk := backs_pure (L := [5]) (seenC_pure (lasts (goods r)))
        refine ⟨[.box (seenC (lasts (goods r)))], by simp only [obsBack, Ob.back, hbk]; rfl, rfl, ?_⟩
        simp only [go_sem, init_env', Nat.reduceEqDiff, Nat.reduceAdd, Nat.reduceMul, reduceIte, Nat.reduceLeDiff, Nat.reduceLT, Nat.reduceBEq, reduceCtorEq, exitOf, ownBack]
        (repeat ((first | refine WV_seq_ ?_ | refine WV_block ?_ | refine WV_ops ?_ | refine WV_skip ?_ | refine WV_exit ?_); (try simp only [go_sem, init_env', Nat.reduceEqDiff, Nat.reduceAdd, Nat.reduceMul, reduceIte, Nat.reduceLeDiff, Nat.reduceLT, Nat.reduceBEq, reduceCtorEq, hP, Route.cds, stopsC]); (repeat (refine And.intro (by first | omega | (intros; simp_all; done) | (intros; simp_all; omega)) ?_))))
        generalize hs : lasts (goods r) = s
        have hpsg : ∀ d s, AV.prgL d (seenC s) = seenC s := fun d s => prgL_pure d (seenC_pure _)
        refine WV_nilslot 7 40 3 1 (by decide) (by decide) rfl rfl ?_
        simp only [go_sem, init_env', Nat.reduceEqDiff, Nat.reduceAdd, Nat.reduceMul, reduceIte, Nat.reduceLeDiff, Nat.reduceLT, Nat.reduceBEq, reduceCtorEq, hpsg]
        have hmax : maxLen = 9223372036854775807 := rfl
        refine WV_loopK K42_2 [5, 40] (fun k : Nat => k ≤ r.n) (fun k => r.n - k) (fun k => [(30, iv k), (7, .gr 40)]) (fun k => [(5, .box (seenC s)), (40, .grow 3 1 ((shutL s k).map fun n => [.int .i64 n]))]) 0 (Nat.zero_le _) ?_ ?_
        · (refine Sub_of (by simp only [go_sem, init_env', Nat.reduceEqDiff, Nat.reduceAdd, Nat.reduceMul, reduceIte, Nat.reduceLeDiff, Nat.reduceLT, Nat.reduceBEq, reduceCtorEq]; ((repeat' (first | exact EnvLe_e0 _ _ | refine EnvLe_upd ?_ ?_)) <;> ((try simp only [upd_app, e0_app, o0_app, Nat.reduceEqDiff, reduceIte]); first | exact AWk.refl _ _ | exact AWk.int (by omega) | exact AWk.int (by rw [w64 (by omega) (by omega)]; omega) | exact AWk.grow rfl | exact AWk.nil _ | exact AWk.of (by simp)))) (by simp only [go_sem, init_env', Nat.reduceEqDiff, Nat.reduceAdd, Nat.reduceMul, reduceIte, Nat.reduceLeDiff, Nat.reduceLT, Nat.reduceBEq, reduceCtorEq]; ((repeat' (first | exact ObjLe_o0 _ | exact ObjLe.rfl' _ | refine ObjLe_same ?_ | refine ObjLe_upd ?_ ?_ | refine ObjLe_new rfl ?_)) <;> rfl)))
        · intro k hk
          have hsll := shutL_len s k
          simp only [go_sem, init_env', Nat.reduceEqDiff, Nat.reduceAdd, Nat.reduceMul, reduceIte, Nat.reduceLeDiff, Nat.reduceLT, Nat.reduceBEq, reduceCtorEq, hpsg]
          (repeat ((first | refine WV_seq_ ?_ | refine WV_block ?_ | refine WV_ops ?_ | refine WV_skip ?_ | refine WV_exit ?_); (try simp only [go_sem, init_env', Nat.reduceEqDiff, Nat.reduceAdd, Nat.reduceMul, reduceIte, Nat.reduceLeDiff, Nat.reduceLT, Nat.reduceBEq, reduceCtorEq, hP, hpsg]); (repeat (refine And.intro (by first | omega | (intros; simp_all; done) | (intros; simp_all; omega)) ?_))))
          (refine WV_cond rfl (fun h => ?_) (fun h => ?_))
          · have h : k < r.n := by rw [hsl] at h; simpa using h
            have hk7 : k < 7 := by omega
            have hw2 := w64 (n := (k : Int) + 1) (by omega) (by omega)
            (repeat ((first | refine WV_seq_ ?_ | refine WV_block ?_ | refine WV_ops ?_ | refine WV_skip ?_ | refine WV_exit ?_); (try simp only [go_sem, init_env', Nat.reduceEqDiff, Nat.reduceAdd, Nat.reduceMul, reduceIte, Nat.reduceLeDiff, Nat.reduceLT, Nat.reduceBEq, reduceCtorEq, hP, hpsg, Int.toNat_natCast, Nat.mul_one, Int.natCast_nonneg, seenC_len, seenC_get _ hk7, hw2]); (repeat (refine And.intro (by first | omega | (intros; simp_all; done) | (intros; simp_all; omega)) ?_))))
            (refine WV_cond rfl (fun h => ?_) (fun h => ?_))
            · have h : ¬ (k : Int) ∈ s := by simpa using h
              have e := shutL_succ s k
              rw [if_neg h] at e
              (repeat ((first | refine WV_seq_ ?_ | refine WV_block ?_ | refine WV_ops ?_ | refine WV_skip ?_ | refine WV_exit ?_); (try simp only [go_sem, init_env', Nat.reduceEqDiff, Nat.reduceAdd, Nat.reduceMul, reduceIte, Nat.reduceLeDiff, Nat.reduceLT, Nat.reduceBEq, reduceCtorEq, hP, hpsg, hw2]); (repeat (refine And.intro (by first | omega | (intros; simp_all; done) | (intros; simp_all; omega)) ?_))))
              refine ⟨k + 1, by omega, by omega, ?_⟩
              rw [e]
              (refine Sub_of (by simp only [go_sem, init_env', Nat.reduceEqDiff, Nat.reduceAdd, Nat.reduceMul, reduceIte, Nat.reduceLeDiff, Nat.reduceLT, Nat.reduceBEq, reduceCtorEq]; ((repeat' (first | exact EnvLe_e0 _ _ | refine EnvLe_upd ?_ ?_)) <;> ((try simp only [upd_app, e0_app, o0_app, Nat.reduceEqDiff, reduceIte]); first | exact AWk.refl _ _ | exact AWk.int (by omega) | exact AWk.int (by rw [w64 (by omega) (by omega)]; omega) | exact AWk.grow rfl | exact AWk.nil _ | exact AWk.of (by simp)))) (by simp only [go_sem, init_env', Nat.reduceEqDiff, Nat.reduceAdd, Nat.reduceMul, reduceIte, Nat.reduceLeDiff, Nat.reduceLT, Nat.reduceBEq, reduceCtorEq]; ((repeat' (first | exact ObjLe_o0 _ | exact ObjLe.rfl' _ | refine ObjLe_same ?_ | refine ObjLe_upd ?_ ?_ | refine ObjLe_new rfl ?_)) <;> rfl)))
            · have h : (k : Int) ∈ s := by simpa using h
              have e := shutL_succ s k
              rw [if_pos h, List.append_nil] at e
              (repeat ((first | refine WV_seq_ ?_ | refine WV_block ?_ | refine WV_ops ?_ | refine WV_skip ?_ | refine WV_exit ?_); (try simp only [go_sem, init_env', Nat.reduceEqDiff, Nat.reduceAdd, Nat.reduceMul, reduceIte, Nat.reduceLeDiff, Nat.reduceLT, Nat.reduceBEq, reduceCtorEq, hP, hpsg, hw2]); (repeat (refine And.intro (by first | omega | (intros; simp_all; done) | (intros; simp_all; omega)) ?_))))
              refine ⟨k + 1, by omega, by omega, ?_⟩
              rw [e]
              (refine Sub_of (by simp only [go_sem, init_env', Nat.reduceEqDiff, Nat.reduceAdd, Nat.reduceMul, reduceIte, Nat.reduceLeDiff, Nat.reduceLT, Nat.reduceBEq, reduceCtorEq]; ((repeat' (first | exact EnvLe_e0 _ _ | refine EnvLe_upd ?_ ?_)) <;> ((try simp only [upd_app, e0_app, o0_app, Nat.reduceEqDiff, reduceIte]); first | exact AWk.refl _ _ | exact AWk.int (by omega) | exact AWk.int (by rw [w64 (by omega) (by omega)]; omega) | exact AWk.grow rfl | exact AWk.nil _ | exact AWk.of (by simp)))) (by simp only [go_sem, init_env', Nat.reduceEqDiff, Nat.reduceAdd, Nat.reduceMul, reduceIte, Nat.reduceLeDiff, Nat.reduceLT, Nat.reduceBEq, reduceCtorEq]; ((repeat' (first | exact ObjLe_o0 _ | exact ObjLe.rfl' _ | refine ObjLe_same ?_ | refine ObjLe_upd ?_ ?_ | refine ObjLe_new rfl ?_)) <;> rfl)))
          · have h : k = r.n := by rw [hsl] at h; simp at h; omega
            subst h
            (repeat ((first | refine WV_seq_ ?_ | refine WV_block ?_ | refine WV_ops ?_ | refine WV_skip ?_ | refine WV_exit ?_); (try simp only [go_sem, init_env', Nat.reduceEqDiff, Nat.reduceAdd, Nat.reduceMul, reduceIte, Nat.reduceLeDiff, Nat.reduceLT, Nat.reduceBEq, reduceCtorEq, hP, hpsg]); (repeat (refine And.intro (by first | omega | (intros; simp_all; done) | (intros; simp_all; omega)) ?_))))
            (refine WV_ret ?_; simp only [thenQ, inQ, RetQ, RetOk, resAll, resA]; simp only [go_sem, init_env', Nat.reduceEqDiff, Nat.reduceAdd, Nat.reduceMul, reduceIte, Nat.reduceLeDiff, Nat.reduceLT, Nat.reduceBEq, reduceCtorEq, tupA, AV.port, AV.portL, exists_eq_left', ]; (first | exact AVle.of rfl | refine AVle.of ?_ | skip))
            simp [shutS, hok, hs, ints]
  · have hok : r.ok = false := by simpa using hok
    simp only [hok, Bool.false_eq_true, if_false]
    (refine WV_cond rfl (fun h => ?_) (fun h => ?_))
    · (repeat ((first | refine WV_seq_ ?_ | refine WV_block ?_ | refine WV_ops ?_ | refine WV_skip ?_ | refine WV_exit ?_); (try simp only [go_sem, init_env', Nat.reduceEqDiff, Nat.reduceAdd, Nat.reduceMul, reduceIte, Nat.reduceLeDiff, Nat.reduceLT, Nat.reduceBEq, reduceCtorEq, hP, ]); (repeat (refine And.intro (by first | omega | (intros; simp_all; done) | (intros; simp_all; omega)) ?_))))
      (refine WV_ret ?_; simp only [thenQ, inQ, RetQ, RetOk, resAll, resA]; simp only [go_sem, init_env', Nat.reduceEqDiff, Nat.reduceAdd, Nat.reduceMul, reduceIte, Nat.reduceLeDiff, Nat.reduceLT, Nat.reduceBEq, reduceCtorEq, tupA, AV.port, AV.portL, exists_eq_left', ])
      simp only [shutS, hok, Bool.false_eq_true, if_false]
      exact AVle.tup (AVles.cons (AVle.nil 1) (AVles.refl _))
    · simp at h
end Go.Proofs.Ytbejgfpaokcnpaa

namespace Go.Proofs.Ytbejgfpaokcnpaa
open Go Go.V
@[reducible] def o65_0 : List Ins := [⟨(some 4), .box 4 (.t 1), none, true⟩]
@[reducible] def o65_1 : List Ins := [⟨(some 5), .mv (.t 0), none, true⟩,
  ⟨(some 6), .len (.t 5), none, true⟩,
  ⟨(some 7), .bin .gtr (.t 6) (.k (.c (.int .i64 0))), none, true⟩]
@[reducible] def t65_2 : OT := (.cons ⟨(some 9), .mv (.t 0), none, false⟩
  (.br [(.cons ⟨(some 8), .ld true 1 (.t 2), none, false⟩
    (.cons ⟨(some 10), .ia 1 (.t 9) (.k (.c (.int .i64 0))), none, true⟩
    (.cons ⟨(some 11), .ld true 1 (.t 10), none, true⟩
    (.cons ⟨(some 12), .mget .i64 .i64 (.t 8) (.t 11), none, true⟩
    (.cons ⟨(some 13), .bin .add (.t 12) (.k (.c (.int .i64 1))), none, true⟩
    (.cons ⟨none, .mput .i64 .i64 (.t 8) (.t 11) (.t 13), none, true⟩
    .nil)))))), (.cons ⟨(some 10), .ia 1 (.t 9) (.k (.c (.int .i64 0))), none, true⟩
    (.br [(.cons ⟨(some 8), .ld true 1 (.t 2), none, false⟩
      (.cons ⟨(some 11), .ld true 1 (.t 10), none, true⟩
      (.cons ⟨(some 12), .mget .i64 .i64 (.t 8) (.t 11), none, true⟩
      (.cons ⟨(some 13), .bin .add (.t 12) (.k (.c (.int .i64 1))), none, true⟩
      (.cons ⟨none, .mput .i64 .i64 (.t 8) (.t 11) (.t 13), none, true⟩
      .nil))))), (.cons ⟨(some 11), .ld true 1 (.t 10), none, true⟩
      (.cons ⟨(some 8), .ld true 1 (.t 2), none, false⟩
      (.cons ⟨(some 12), .mget .i64 .i64 (.t 8) (.t 11), none, true⟩
      (.cons ⟨(some 13), .bin .add (.t 12) (.k (.c (.int .i64 1))), none, true⟩
      (.cons ⟨none, .mput .i64 .i64 (.t 8) (.t 11) (.t 13), none, true⟩
      .nil)))))]))]))
@[reducible] def v65_3 : VC := (.cond (.t 7) (.drw t65_2) .skip)
@[reducible] def v65_4 : VC := (.seq (.ops o65_1) v65_3)
def ir65 : FC := ⟨3, 14, [], (.seq (.ops o65_0) v65_4)⟩
@[reducible] def o38_0 : List Ins := [⟨(some 1), .box 3 (.t 0), none, true⟩,
  ⟨(some 2), .mv (.k (.c (.raw (.slice none 0 0)))), none, true⟩,
  ⟨(some 3), .mv (.k (.c (.int .i64 0))), none, true⟩]
@[reducible] def o38_1 : List Ins := [⟨(some 8), .mkm .i64 .i64, none, true⟩,
  ⟨(some 4), .alloc [(.c (.raw (.map none)))], none, true⟩,
  ⟨none, .st 1 (.t 4) (.t 8), none, true⟩]
@[reducible] def o38_2 : List Ins := [⟨(some 9), .ld false 3 (.t 1), none, true⟩,
  ⟨(some 10), .mkfn 65 [(.t 4)], none, true⟩,
  ⟨(some 11), .call (.k (.fn 61 [])) [(.t 9), (.t 10)], none, true⟩,
  ⟨(some 5), .mv (.t 11), none, true⟩]
@[reducible] def o38_3 : List Ins := [⟨(some 12), .mv (.t 5), none, true⟩,
  ⟨(some 13), .bin .neq (.t 12) (.k (.c (.int .i64 0))), none, true⟩]
@[reducible] def o38_4 : List Ins := [⟨(some 14), .mv (.t 5), none, true⟩,
  ⟨(some 2), .mv (.k (.c (.raw (.slice none 0 0)))), none, true⟩,
  ⟨(some 3), .mv (.t 14), none, true⟩]
@[reducible] def v38_5 : VC := (.seq (.ops o38_4) .ret)
@[reducible] def v38_6 : VC := (.cond (.t 13) v38_5 .skip)
@[reducible] def v38_7 : VC := (.seq (.ops o38_3) v38_6)
@[reducible] def o38_8 : List Ins := [⟨(some 6), .mv (.k (.c (.raw (.slice none 0 0)))), none, true⟩]
@[reducible] def o38_9 : List Ins := [⟨(some 15), .fa 0 (.t 1), none, true⟩,
  ⟨(some 16), .ld true 1 (.t 15), none, true⟩,
  ⟨(some 17), .len (.t 16), none, true⟩,
  ⟨(some 18), .mv (.k (.c (.int .i64 0))), none, true⟩]
@[reducible] def o38_10 : List Ins := [⟨(some 19), .bin .lss (.t 18) (.t 17), none, true⟩]
@[reducible] def o38_11 : List Ins := [⟨(some 20), .mv (.t 18), none, true⟩,
  ⟨(some 7), .mv (.t 20), none, true⟩]
@[reducible] def o38_12 : List Ins := [⟨(some 21), .ld true 1 (.t 4), none, true⟩,
  ⟨(some 22), .mv (.t 7), none, true⟩,
  ⟨(some 23), .mget .i64 .i64 (.t 21) (.t 22), none, true⟩,
  ⟨(some 24), .bin .gtr (.t 23) (.k (.c (.int .i64 0))), none, true⟩]
@[reducible] def o38_13 : List Ins := [⟨(some 25), .mv (.t 6), none, true⟩,
  ⟨(some 26), .mv (.t 7), none, true⟩,
  ⟨(some 27), .bsl 3 1 [(.t 26)], none, true⟩,
  ⟨(some 28), .app 3 1 8 (.t 25) (.t 27), none, true⟩,
  ⟨(some 6), .mv (.t 28), none, true⟩]
@[reducible] def v38_14 : VC := (.cond (.t 24) (.ops o38_13) .skip)
@[reducible] def v38_15 : VC := (.seq (.ops o38_12) v38_14)
@[reducible] def v38_16 : VC := (.seq (.ops o38_11) v38_15)
@[reducible] def o38_17 : List Ins := [⟨(some 29), .bin .add (.t 18) (.k (.c (.int .i64 1))), none, true⟩,
  ⟨(some 18), .mv (.t 29), none, true⟩]
@[reducible] def v38_18 : VC := (.seq (.block 1 v38_16) (.ops o38_17))
@[reducible] def v38_19 : VC := (.seq (.cond (.t 19) .skip (.exit 0)) v38_18)
@[reducible] def v38_20 : VC := (.seq (.ops o38_10) v38_19)
-- K38_1: changed and kept: [18, 6]
@[reducible] def K38_1 : List Nat := [4, 17]
@[reducible] def v38_21 : VC := (.loop v38_20)
@[reducible] def v38_22 : VC := (.block 0 v38_21)
@[reducible] def o38_23 : List Ins := [⟨(some 30), .mv (.t 6), none, true⟩,
  ⟨(some 2), .mv (.t 30), none, true⟩,
  ⟨(some 3), .mv (.k (.c (.int .i64 0))), none, true⟩]
@[reducible] def v38_24 : VC := (.seq (.ops o38_23) .ret)
@[reducible] def v38_25 : VC := (.seq (.seq (.ops o38_9) v38_22) v38_24)
@[reducible] def v38_26 : VC := (.seq (.ops o38_8) v38_25)
@[reducible] def v38_27 : VC := (.seq (.seq (.ops o38_2) v38_7) v38_26)
@[reducible] def v38_28 : VC := (.seq (.ops o38_1) v38_27)
def ir38 : FC := ⟨1, 31, [.t 2, .t 3], (.seq (.ops o38_0) v38_28)⟩
theorem c65 : compM Try.prog [10,11] 65 = some ir65 := by kernel_rfl
theorem c38 : compM Try.prog [] 38 = some ir38 := by kernel_rfl



/-- One tour more that begins with its first stop. -/
def firstM (m : List (Int × Int)) (t : List Nat) : List (Int × Int) := match t with
  | [] => m
  | k :: _ => mput m k (IntKind.i64.wrap (mget m k + 1))
def firstMs (l : List (List Nat × Van)) : List (Int × Int) := l.foldl (fun m p => firstM m p.1) []
theorem firstMs_snoc (l : List (List Nat × Van)) (p : List Nat × Van) : firstMs (l ++ [p]) = firstM (firstMs l) p.1 := by simp [firstMs]

set_option maxHeartbeats 1000000 in
theorem first65 (r : Route) (v : Van) (m : List (Int × Int)) (t : List Nat) : FSpecL Try.prog 65 [.vw 1 2000 0 t.length r.n, vanv r v, .bp 1000 0] [.box [.gr 1001], .mp .i64 .i64 m] [cellsT t] (fun res l' => res = .tup [] ∧ l' = [.box [.gr 1001], .mp .i64 .i64 (firstM m t)]) := by
  have hprg : ∀ d, AV.prgL d (cellsT t) = cellsT t := fun d => prgL_pure d (cellsT_pure _)
  refine FSpecL_of c65 (by simp) (Nat.le_refl _) (by decide) (by decide) fun C hP hN hC hL => ?_; rw [init_env', ownW_upd (by simp)]; simp only [ir65, updL, updLo, List.map_nil, List.map_cons, Nat.reduceAdd, vanv]
  (repeat ((first | refine WV_seq_ ?_ | refine WV_block ?_ | refine WV_ops ?_ | refine WV_skip ?_ | refine WV_exit ?_); (try simp only [go_sem, init_env', Nat.reduceEqDiff, Nat.reduceAdd, Nat.reduceMul, reduceIte, Nat.reduceLeDiff, Nat.reduceLT, Nat.reduceBEq, reduceCtorEq, hP, hprg]); (repeat (refine And.intro (by first | omega | (intros; simp_all; done) | (intros; simp_all; omega)) ?_))))
  (refine WV_cond rfl (fun h => ?_) (fun h => ?_))
  · cases t with
    | nil => simp at h
    | cons k t =>
      have e : cellsT (k :: t) = iv k :: cellsT t := rfl
      clear hprg
      have hprg : ∀ d, AV.prgL d (cellsT t) = cellsT t := fun d => prgL_pure d (cellsT_pure _)
      rw [e]
      (refine WV_drw ?_; simp only [go_sem, init_env', Nat.reduceEqDiff, Nat.reduceAdd, Nat.reduceMul, reduceIte, Nat.reduceLeDiff, Nat.reduceLT, Nat.reduceBEq, reduceCtorEq, hP, hprg, Int.toNat_zero, Nat.zero_mul]; (repeat' (refine And.intro ?_ ?_)))
      all_goals first
        | exact trivial
        | omega
        | (((try simp only [thenQ, inQ, RetQL, RetOkL, resAll, resA]); (try simp only [go_sem, init_env', Nat.reduceEqDiff, Nat.reduceAdd, Nat.reduceMul, reduceIte, Nat.reduceLeDiff, Nat.reduceLT, Nat.reduceBEq, reduceCtorEq, tupA, AV.keepP, AV.keepPL]); refine ⟨_, [.box [.gr 1001], .mp .i64 .i64 (firstM m (k :: t))], rfl, KeepL_mk rfl rfl ?_ ?_ rfl, ?_⟩)
           · simp only [go_sem, init_env', Nat.reduceEqDiff, Nat.reduceAdd, Nat.reduceMul, reduceIte, Nat.reduceLeDiff, Nat.reduceLT, Nat.reduceBEq, reduceCtorEq, keepAll, Ob.keepP, AV.keepP, AV.keepPL, firstM]
           · simp only [go_sem, init_env', Nat.reduceEqDiff, Nat.reduceAdd, Nat.reduceMul, reduceIte, Nat.reduceLeDiff, Nat.reduceLT, Nat.reduceBEq, reduceCtorEq, winAll]
           · exact ⟨rfl, rfl⟩)
  · cases t with
    | cons k t => simp at h
    | nil =>
      (repeat ((first | refine WV_seq_ ?_ | refine WV_block ?_ | refine WV_ops ?_ | refine WV_skip ?_ | refine WV_exit ?_); (try simp only [go_sem, init_env', Nat.reduceEqDiff, Nat.reduceAdd, Nat.reduceMul, reduceIte, Nat.reduceLeDiff, Nat.reduceLT, Nat.reduceBEq, reduceCtorEq, hP, hprg]); (repeat (refine And.intro (by first | omega | (intros; simp_all; done) | (intros; simp_all; omega)) ?_))))
      ((try simp only [thenQ, inQ, RetQL, RetOkL, resAll, resA]); (try simp only [go_sem, init_env', Nat.reduceEqDiff, Nat.reduceAdd, Nat.reduceMul, reduceIte, Nat.reduceLeDiff, Nat.reduceLT, Nat.reduceBEq, reduceCtorEq, tupA, AV.keepP, AV.keepPL]); refine ⟨_, [.box [.gr 1001], .mp .i64 .i64 (firstM m [])], rfl, KeepL_mk rfl rfl ?_ ?_ rfl, ?_⟩)
      · simp only [go_sem, init_env', Nat.reduceEqDiff, Nat.reduceAdd, Nat.reduceMul, reduceIte, Nat.reduceLeDiff, Nat.reduceLT, Nat.reduceBEq, reduceCtorEq, keepAll, Ob.keepP, AV.keepP, AV.keepPL, firstM]
      · simp only [go_sem, init_env', Nat.reduceEqDiff, Nat.reduceAdd, Nat.reduceMul, reduceIte, Nat.reduceLeDiff, Nat.reduceLT, Nat.reduceBEq, reduceCtorEq, winAll]
      · exact ⟨rfl, rfl⟩

/-- The numbers up to k of which there is one. -/
def firstL (m : List (Int × Int)) (k : Nat) : List Int := ((List.range k).map fun (n : Nat) => (n : Int)).filter fun n => decide (0 < mget m n)
theorem firstL_succ (m : List (Int × Int)) (k : Nat) : firstL m (k + 1) = firstL m k ++ (if 0 < mget m k then [(k : Int)] else []) := by
  unfold firstL
  rw [List.range_succ, List.map_append, List.filter_append]
  by_cases h : 0 < mget m k <;> simp [h]
theorem firstL_len (m : List (Int × Int)) (k : Nat) : (firstL m k).length ≤ k := by
  unfold firstL
  exact Nat.le_trans (List.length_filter_le _ _) (by simp)
def firstS (r : Route) : List Int × Int := if someE r = 0 then (firstL (firstMs (wholes r)) r.n, 0) else ([], someE r)
def firstF (pre : List (List Nat × Van)) : List Ob := [.box [.gr 1001], .mp .i64 .i64 (firstMs pre)]

theorem upd_back2 {α : Type} {f : Nat → α} {n m : Nat} {a b b' c d : α} (h : n ≠ m) : upd (upd (upd (upd (upd f n a) m b') m b) n c) m d = upd (upd f n c) m d := by
  funext t
  simp only [upd]
  split
  · rfl
  · rename_i hm
    split <;> rfl

set_option maxHeartbeats 4000000 in
theorem firsts38 (r : Route) : FSpec Try.prog 38 [r.av] (.tup [.c (ints (firstS r).1), iv (firstS r).2]) := by
  refine FSpec_of c38 (Nat.le_refl _) (by decide) fun C hP hN hC hL => ?_
  simp only [ir38, Route.av]
  (repeat ((first | refine WV_seq_ ?_ | refine WV_block ?_ | refine WV_ops ?_ | refine WV_skip ?_ | refine WV_exit ?_); (try simp only [go_sem, init_env', Nat.reduceEqDiff, Nat.reduceAdd, Nat.reduceMul, reduceIte, Nat.reduceLeDiff, Nat.reduceLT, Nat.reduceBEq, reduceCtorEq, hP, ]); (repeat (refine And.intro (by first | omega | (intros; simp_all; done) | (intros; simp_all; omega)) ?_))))
  · refine AS_clos [4, 8] [r.av] [] (l := firstF []) (lf := firstF (wholesOf r)) (r := iv (someE r)) (some61 r) rfl rfl rfl (by decide) (by decide) rfl rfl rfl rfl ?_ (first65 r (leave r) [] []).1 ?_ rfl ?_
    · simp only [go_sem, init_env', Nat.reduceEqDiff, Nat.reduceAdd, Nat.reduceMul, reduceIte, Nat.reduceLeDiff, Nat.reduceLT, Nat.reduceBEq, reduceCtorEq, obsLend, Ob.lend, AV.lendL, AV.lend, firstF, firstMs, List.foldl_nil]
    · refine Run_pre (entW r) firstF (wholesOf r) (fun p => rfl) (fun t _ => rfl) (fun pre p post hts => ?_) _ [] rfl
      have := first65 r (atHome r p) (firstMs pre) p.1
      simp only [firstF, firstMs_snoc]
      exact this
    · refine ⟨_, rfl, rfl, ?_⟩
      simp only [go_sem, init_env', Nat.reduceEqDiff, Nat.reduceAdd, Nat.reduceMul, reduceIte, Nat.reduceLeDiff, Nat.reduceLT, Nat.reduceBEq, reduceCtorEq, ownBack]
      (repeat ((first | refine WV_seq_ ?_ | refine WV_block ?_ | refine WV_ops ?_ | refine WV_skip ?_ | refine WV_exit ?_); (try simp only [go_sem, init_env', Nat.reduceEqDiff, Nat.reduceAdd, Nat.reduceMul, reduceIte, Nat.reduceLeDiff, Nat.reduceLT, Nat.reduceBEq, reduceCtorEq, hP, ]); (repeat (refine And.intro (by first | omega | (intros; simp_all; done) | (intros; simp_all; omega)) ?_))))
      (refine WV_cond rfl (fun h => ?_) (fun h => ?_))
      · have h : someE r ≠ 0 := by simpa using h
        (repeat ((first | refine WV_seq_ ?_ | refine WV_block ?_ | refine WV_ops ?_ | refine WV_skip ?_ | refine WV_exit ?_); (try simp only [go_sem, init_env', Nat.reduceEqDiff, Nat.reduceAdd, Nat.reduceMul, reduceIte, Nat.reduceLeDiff, Nat.reduceLT, Nat.reduceBEq, reduceCtorEq, hP, ]); (repeat (refine And.intro (by first | omega | (intros; simp_all; done) | (intros; simp_all; omega)) ?_))))
        (refine WV_ret ?_; simp only [thenQ, inQ, RetQ, RetOk, resAll, resA]; simp only [go_sem, init_env', Nat.reduceEqDiff, Nat.reduceAdd, Nat.reduceMul, reduceIte, Nat.reduceLeDiff, Nat.reduceLT, Nat.reduceBEq, reduceCtorEq, tupA, AV.port, AV.portL, exists_eq_left', ])
        simp only [firstS, h, if_false]
        exact AVle.tup (AVles.cons (AVle.nil 1) (AVles.refl _))
      · have h : someE r = 0 := by simpa using h
        have hok := (someE_ok h).1
        have hr := Route.ok_spec hok
        have hn7 := hr.n7
        have hsl : (r.stops.length : Int) = (r.n : Int) := rfl
        have hf : firstS r = (firstL (firstMs (wholesOf r)) r.n, 0) := by simp [firstS, h, wholesOf, hok]
        generalize firstMs (wholesOf r) = s at *
        rw [hf]
        (repeat ((first | refine WV_seq_ ?_ | refine WV_block ?_ | refine WV_ops ?_ | refine WV_skip ?_ | refine WV_exit ?_); (try simp only [go_sem, init_env', Nat.reduceEqDiff, Nat.reduceAdd, Nat.reduceMul, reduceIte, Nat.reduceLeDiff, Nat.reduceLT, Nat.reduceBEq, reduceCtorEq, hP, stopsC]); (repeat (refine And.intro (by first | omega | (intros; simp_all; done) | (intros; simp_all; omega)) ?_))))
        rw [upd_back2 (n := 8) (m := 4) (by decide)]
        refine WV_nilslot 6 28 3 1 (by decide) (by decide) rfl rfl ?_
        simp only [go_sem, init_env', Nat.reduceEqDiff, Nat.reduceAdd, Nat.reduceMul, reduceIte, Nat.reduceLeDiff, Nat.reduceLT, Nat.reduceBEq, reduceCtorEq]
        have hmax : maxLen = 9223372036854775807 := rfl
        refine WV_loopK K38_1 [28] (fun k : Nat => k ≤ r.n) (fun k => r.n - k) (fun k => [(18, iv k), (6, .gr 28)]) (fun k => [(28, .grow 3 1 ((firstL s k).map fun n => [.int .i64 n]))]) 0 (Nat.zero_le _) ?_ ?_
        · (refine Sub_of (by simp only [go_sem, init_env', Nat.reduceEqDiff, Nat.reduceAdd, Nat.reduceMul, reduceIte, Nat.reduceLeDiff, Nat.reduceLT, Nat.reduceBEq, reduceCtorEq]; ((repeat' (first | exact EnvLe_e0 _ _ | refine EnvLe_upd ?_ ?_)) <;> ((try simp only [upd_app, e0_app, o0_app, Nat.reduceEqDiff, reduceIte]); first | exact AWk.refl _ _ | exact AWk.int (by omega) | exact AWk.int (by rw [w64 (by omega) (by omega)]; omega) | exact AWk.grow rfl | exact AWk.nil _ | exact AWk.of (by simp)))) (by simp only [go_sem, init_env', Nat.reduceEqDiff, Nat.reduceAdd, Nat.reduceMul, reduceIte, Nat.reduceLeDiff, Nat.reduceLT, Nat.reduceBEq, reduceCtorEq]; ((repeat' (first | exact ObjLe_o0 _ | exact ObjLe.rfl' _ | refine ObjLe_same ?_ | refine ObjLe_upd ?_ ?_ | refine ObjLe_new rfl ?_)) <;> rfl)))
        · intro k hk
          have hsll := firstL_len s k
          simp only [go_sem, init_env', Nat.reduceEqDiff, Nat.reduceAdd, Nat.reduceMul, reduceIte, Nat.reduceLeDiff, Nat.reduceLT, Nat.reduceBEq, reduceCtorEq]
          (repeat ((first | refine WV_seq_ ?_ | refine WV_block ?_ | refine WV_ops ?_ | refine WV_skip ?_ | refine WV_exit ?_); (try simp only [go_sem, init_env', Nat.reduceEqDiff, Nat.reduceAdd, Nat.reduceMul, reduceIte, Nat.reduceLeDiff, Nat.reduceLT, Nat.reduceBEq, reduceCtorEq, hP, ]); (repeat (refine And.intro (by first | omega | (intros; simp_all; done) | (intros; simp_all; omega)) ?_))))
          (refine WV_cond rfl (fun h => ?_) (fun h => ?_))
          · have h : k < r.n := by rw [hsl] at h; simpa using h
            have hw2 := w64 (n := (k : Int) + 1) (by omega) (by omega)
            (repeat ((first | refine WV_seq_ ?_ | refine WV_block ?_ | refine WV_ops ?_ | refine WV_skip ?_ | refine WV_exit ?_); (try simp only [go_sem, init_env', Nat.reduceEqDiff, Nat.reduceAdd, Nat.reduceMul, reduceIte, Nat.reduceLeDiff, Nat.reduceLT, Nat.reduceBEq, reduceCtorEq, hP, hw2]); (repeat (refine And.intro (by first | omega | (intros; simp_all; done) | (intros; simp_all; omega)) ?_))))
            (refine WV_cond rfl (fun h => ?_) (fun h => ?_))
            · have h : 0 < mget s k := by simpa using h
              have e := firstL_succ s k
              rw [if_pos h] at e
              (repeat ((first | refine WV_seq_ ?_ | refine WV_block ?_ | refine WV_ops ?_ | refine WV_skip ?_ | refine WV_exit ?_); (try simp only [go_sem, init_env', Nat.reduceEqDiff, Nat.reduceAdd, Nat.reduceMul, reduceIte, Nat.reduceLeDiff, Nat.reduceLT, Nat.reduceBEq, reduceCtorEq, hP, hw2]); (repeat (refine And.intro (by first | omega | (intros; simp_all; done) | (intros; simp_all; omega)) ?_))))
              refine ⟨k + 1, by omega, by omega, ?_⟩
              rw [e]
              (refine Sub_of (by simp only [go_sem, init_env', Nat.reduceEqDiff, Nat.reduceAdd, Nat.reduceMul, reduceIte, Nat.reduceLeDiff, Nat.reduceLT, Nat.reduceBEq, reduceCtorEq]; ((repeat' (first | exact EnvLe_e0 _ _ | refine EnvLe_upd ?_ ?_)) <;> ((try simp only [upd_app, e0_app, o0_app, Nat.reduceEqDiff, reduceIte]); first | exact AWk.refl _ _ | exact AWk.int (by omega) | exact AWk.int (by rw [w64 (by omega) (by omega)]; omega) | exact AWk.grow rfl | exact AWk.nil _ | exact AWk.of (by simp)))) (by simp only [go_sem, init_env', Nat.reduceEqDiff, Nat.reduceAdd, Nat.reduceMul, reduceIte, Nat.reduceLeDiff, Nat.reduceLT, Nat.reduceBEq, reduceCtorEq]; ((repeat' (first | exact ObjLe_o0 _ | exact ObjLe.rfl' _ | refine ObjLe_same ?_ | refine ObjLe_upd ?_ ?_ | refine ObjLe_new rfl ?_)) <;> rfl)))
            · have h : ¬ 0 < mget s k := by simpa using h
              have e := firstL_succ s k
              rw [if_neg h, List.append_nil] at e
              (repeat ((first | refine WV_seq_ ?_ | refine WV_block ?_ | refine WV_ops ?_ | refine WV_skip ?_ | refine WV_exit ?_); (try simp only [go_sem, init_env', Nat.reduceEqDiff, Nat.reduceAdd, Nat.reduceMul, reduceIte, Nat.reduceLeDiff, Nat.reduceLT, Nat.reduceBEq, reduceCtorEq, hP, hw2]); (repeat (refine And.intro (by first | omega | (intros; simp_all; done) | (intros; simp_all; omega)) ?_))))
              refine ⟨k + 1, by omega, by omega, ?_⟩
              rw [e]
              (refine Sub_of (by simp only [go_sem, init_env', Nat.reduceEqDiff, Nat.reduceAdd, Nat.reduceMul, reduceIte, Nat.reduceLeDiff, Nat.reduceLT, Nat.reduceBEq, reduceCtorEq]; ((repeat' (first | exact EnvLe_e0 _ _ | refine EnvLe_upd ?_ ?_)) <;> ((try simp only [upd_app, e0_app, o0_app, Nat.reduceEqDiff, reduceIte]); first | exact AWk.refl _ _ | exact AWk.int (by omega) | exact AWk.int (by rw [w64 (by omega) (by omega)]; omega) | exact AWk.grow rfl | exact AWk.nil _ | exact AWk.of (by simp)))) (by simp only [go_sem, init_env', Nat.reduceEqDiff, Nat.reduceAdd, Nat.reduceMul, reduceIte, Nat.reduceLeDiff, Nat.reduceLT, Nat.reduceBEq, reduceCtorEq]; ((repeat' (first | exact ObjLe_o0 _ | exact ObjLe.rfl' _ | refine ObjLe_same ?_ | refine ObjLe_upd ?_ ?_ | refine ObjLe_new rfl ?_)) <;> rfl)))
          · have h : k = r.n := by rw [hsl] at h; simp at h; omega
            subst h
            (repeat ((first | refine WV_seq_ ?_ | refine WV_block ?_ | refine WV_ops ?_ | refine WV_skip ?_ | refine WV_exit ?_); (try simp only [go_sem, init_env', Nat.reduceEqDiff, Nat.reduceAdd, Nat.reduceMul, reduceIte, Nat.reduceLeDiff, Nat.reduceLT, Nat.reduceBEq, reduceCtorEq, hP, ]); (repeat (refine And.intro (by first | omega | (intros; simp_all; done) | (intros; simp_all; omega)) ?_))))
            (refine WV_ret ?_; simp only [thenQ, inQ, RetQ, RetOk, resAll, resA]; simp only [go_sem, init_env', Nat.reduceEqDiff, Nat.reduceAdd, Nat.reduceMul, reduceIte, Nat.reduceLeDiff, Nat.reduceLT, Nat.reduceBEq, reduceCtorEq, tupA, AV.port, AV.portL, exists_eq_left', ]; (first | exact AVle.of rfl | refine AVle.of ?_ | skip))
end Go.Proofs.Ytbejgfpaokcnpaa

namespace Go.Proofs.Ytbejgfpaokcnpaa
open Go Go.V
def begins (l : List (List Nat)) (k : Nat) : Bool := l.any fun t => t.headD 0 == k
def rfirstL (l : List (List Nat)) (k : Nat) : List Int := ((List.range k).filter fun n => begins l n).map fun (n : Nat) => (n : Int)
def rfirstS (r : Route) : List Int × Int := if errR r = 0 then (rfirstL (goodR r true) r.n, 0) else ([], errR r)

end Go.Proofs.Ytbejgfpaokcnpaa

/-
  Firsts: the map counts the whole good tours by their first stops: plain.
-/
namespace Go.Proofs.Ytbejgfpaokcnpaa
open Go Go.V

theorem mget_mput (m : List (Int × Int)) (a b v : Int) : mget (mput m a v) b = if b = a then v else mget m b := by
  induction m with
  | nil => simp only [mput, mget]
  | cons x m ih =>
    obtain ⟨c, d⟩ := x
    simp only [mput]
    by_cases h : a = c
    · subst h
      simp only [if_true, mget]
      split <;> rfl
    · simp only [h, if_false, mget, ih]
      by_cases h2 : b = c
      · subst h2
        rw [if_pos rfl, if_neg (fun e => h e.symm)]
        simp
      · simp only [h2, if_false]
theorem firstMs_get (l : List (List Nat × Van)) (h : (l.length : Int) ≤ 16777216) (k : Nat) : mget (firstMs l) k = ((l.filter fun p => p.1.head? == some k).length : Int) := by
  have key : ∀ (l : List (List Nat × Van)) (m : List (Int × Int)) (c : Int), 0 ≤ c → c + l.length ≤ 33554432 → (∀ j : Nat, 0 ≤ mget m j ∧ mget m j ≤ c) → mget (l.foldl (fun m p => firstM m p.1) m) k = mget m k + ((l.filter fun p => p.1.head? == some k).length : Int) := by
    intro l
    induction l with
    | nil => intro m c _ _ _; simp
    | cons p l ih =>
      intro m c hc hl hm
      simp only [List.length_cons] at hl
      rw [List.foldl_cons, List.filter_cons]
      have hl' : c + 1 + (l.length : Int) ≤ 33554432 := by omega
      obtain ⟨t, v⟩ := p
      cases t with
      | nil =>
        rw [ih _ (c + 1) (by omega) hl' (fun j => by have := hm j; simp only [firstM]; omega)]
        simp [firstM]
      | cons a t =>
        have ha := hm a
        have hw : IntKind.i64.wrap (mget m a + 1) = mget m a + 1 := w64 (by omega) (by omega)
        rw [ih _ (c + 1) (by omega) hl' (fun j => by
          have hj := hm j
          simp only [firstM, hw, mget_mput]
          split <;> omega)]
        simp only [firstM, hw, mget_mput, List.head?_cons]
        by_cases e : k = a
        · subst e
          simp; omega
        · have e1 : ¬ (k : Int) = (a : Int) := by omega
          have e2 : ¬ a = k := fun h => e h.symm
          rw [if_neg e1]
          simp [e2]
  have := key l [] 0 (by omega) (by omega) (fun j => by simp [mget])
  simpa [mget, firstMs] using this
theorem firstL_eq {r : Route} (hr : RouteOk r) : firstL (firstMs (wholes r)) r.n = rfirstL (goodR r true) r.n := by
  have hc : ((wholes r).length : Int) ≤ 16777216 := by
    have := Nat.le_trans (List.length_filter_le (isW r) (goods r)) (goods_count hr.n7)
    unfold wholes
    omega
  unfold firstL rfirstL
  rw [List.filter_map]
  congr 1
  refine List.filter_congr fun k hk => ?_
  simp only [Function.comp, firstMs_get _ hc]
  have hk : k < r.n := by simpa using hk
  unfold begins
  rw [← wholes_eq, List.any_map, Bool.eq_iff_iff, decide_eq_true_eq, List.any_eq_true]
  have e : (0 < (((wholes r).filter fun p => p.1.head? == some k).length : Int)) ↔ 0 < ((wholes r).filter fun p => p.1.head? == some k).length := by omega
  rw [e, List.length_pos_iff_exists_mem]
  refine exists_congr fun p => ?_
  rw [List.mem_filter]
  refine and_congr_right fun hp => ?_
  have hl : r.n ≤ p.1.length := by
    have := (List.mem_filter.1 hp).2
    simp [isW] at this
    exact this
  cases ht : p.1 with
  | nil => rw [ht] at hl; simp at hl; omega
  | cons a t => simp [ht]
theorem first_eq (r : Route) : firstS r = rfirstS r := by
  unfold firstS rfirstS
  rw [someE_eq]
  by_cases h : errR r = 0
  · rw [if_pos h, if_pos h, firstL_eq (errR_eq h).1]
  · rw [if_neg h, if_neg h]
end Go.Proofs.Ytbejgfpaokcnpaa

namespace Go.Proofs.Ytbejgfpaokcnpaa
open Go Go.V
def inAny (l : List (List Nat)) (k : Nat) : Bool := l.any fun t => decide (k ∈ t)
def rshutL (l : List (List Nat)) (k : Nat) : List Int := ((List.range k).filter fun n => !inAny l n).map fun (n : Nat) => (n : Int)
def rshutS (r : Route) : List Int × Int := if r.ok then (rshutL (goodR r false) r.n, 0) else ([], 80)

end Go.Proofs.Ytbejgfpaokcnpaa

/-
  Shut: the stops that are the last one of no good tour are in none: plain.
-/
namespace Go.Proofs.Ytbejgfpaokcnpaa
open Go Go.V

theorem mem_toursR {n : Nat} : ∀ (l : List Nat) (f : Nat) (t : List Nat), (t ++ l).Nodup → (∀ k ∈ l, k < n) → l.length ≤ f → t ++ l ∈ toursR n f t
  | [], f, t, _, _, _ => by cases f <;> simp [toursR]
  | k :: l, 0, t, _, _, h => by simp at h
  | k :: l, f + 1, t, hn, hk, h => by
    simp only [toursR, List.mem_cons, List.mem_flatMap, List.mem_range]
    refine .inr ⟨k, hk k (by simp), ?_⟩
    have hnk : k ∉ t := by
      intro hm
      rw [List.nodup_append] at hn
      exact hn.2.2 k hm k (by simp) rfl
    rw [if_neg hnk]
    have := mem_toursR l f (t ++ [k]) (by simpa using hn) (fun j hj => hk j (by simp [hj])) (by simpa using h)
    simpa using this
theorem goodR_prefix {r : Route} {a b : List Nat} (h : a ++ b ∈ goodR r false) : a ∈ goodR r false := by
  obtain ⟨h1, h2, h3, h4⟩ := goodR_mem h
  have h5 : ridden r (a ++ b) = true := by simpa [goodP] using h4
  have ha : a.Nodup := (List.nodup_append.1 h1).1
  have hal : ∀ k ∈ a, k < r.n := fun k hk => h2 k (by simp [hk])
  refine List.mem_filter.2 ⟨?_, ?_⟩
  · have := mem_toursR (n := r.n) a (r.n + 1) [] (by simpa using ha) hal (Nat.le_succ_of_le (tour_len ha hal))
    simpa [allR] using this
  · have : ridden r a = true := by
      unfold ridden at h5 ⊢
      by_cases hx : (ride r (leave r) a).2.1 = none
      · rw [hx]; rfl
      · rw [ride_stop r a _ b hx] at h5
        exact h5
    simp [goodP, this]
theorem lasts_mem {r : Route} {k : Nat} : (k : Int) ∈ lasts (goods r) ↔ inAny (goodR r false) k = true := by
  unfold lasts inAny
  rw [List.mem_filterMap, List.any_eq_true, ← goods_eq]
  constructor
  · rintro ⟨p, hp, hk⟩
    refine ⟨p.1, List.mem_map_of_mem hp, ?_⟩
    rw [Option.map_eq_some_iff] at hk
    obtain ⟨j, hj, e⟩ := hk
    have : j = k := by omega
    subst this
    simpa using List.mem_of_getLast? hj
  · rintro ⟨t, ht, hk⟩
    have hk : k ∈ t := by simpa using hk
    rw [goods_eq] at ht
    obtain ⟨a, b, rfl⟩ := List.append_of_mem hk
    have hp := goodR_prefix (a := a ++ [k]) (b := b) (by simpa using ht)
    rw [← goods_eq] at hp
    obtain ⟨p, hp, e⟩ := List.mem_map.1 hp
    exact ⟨p, hp, by rw [e]; simp⟩
theorem shut_eq (r : Route) : shutS r = rshutS r := by
  unfold shutS rshutS
  cases r.ok
  · rfl
  · simp only [if_true]
    congr 1
    unfold shutL rshutL
    rw [List.filter_map]
    congr 1
    refine List.filter_congr fun k _ => ?_
    simp only [Function.comp]
    congr 1
    rw [Bool.eq_iff_iff, decide_eq_true_eq]
    exact lasts_mem
end Go.Proofs.Ytbejgfpaokcnpaa

/-
  What is true of each good tour, and of all stops: plain.
-/
namespace Go.Proofs.Ytbejgfpaokcnpaa
open Go Go.V

theorem ridden_none {r : Route} {t : List Nat} (h : ridden r t = true) : (ride r (leave r) t).2.1 = none := by
  unfold ridden at h
  simpa using h
theorem goS_home {r : Route} (hr : RouteOk r) {t : List Nat} (h : ridden r t = true) : (goS r t).2.2 = (home r t (ride r (leave r) t).2.2).now ∧ longS r t = (home r t (ride r (leave r) t).2.2).long := by
  have h0 := ridden_none h
  have hb := home_back hr t (w := (ride r (leave r) t).2.2) (ts := (ride r (leave r) t).1) (by rw [← h0])
  have hl := ride_long r t (leave r) h0
  constructor
  · rw [hb.1]
    unfold goS
    revert h0
    generalize ride r (leave r) t = x
    obtain ⟨x1, x2, x3⟩ := x
    intro h0
    simp only at h0
    subst h0
    rfl
  · rw [hb.2]
    unfold longS longP
    have e : ((leave r).at_, (leave r).long) = (r.n, (0 : Int)) := rfl
    rw [e] at hl
    rw [hl]
theorem ride_later {r : Route} (hr : RouteOk r) : ∀ (t : List Nat) (v : Van), (∀ k ∈ t, k < r.n) → v.at_ < r.n + 1 → (ride r v t).2.1 = none → v.now ≤ (ride r v t).2.2.now ∧ (ride r v t).2.2.at_ < r.n + 1
  | [], v, _, ha, _ => by simpa [ride] using ha
  | k :: t, v, hk, ha, h => by
    simp only [ride] at h ⊢
    have hkn := hk k (by simp)
    by_cases hv : (visit r v k).2.2 = true
    · simp only [hv, if_true] at h ⊢
      have hs := hr.stop k hkn
      have hc := hr.cell v.at_ k ha (by omega)
      have e : v.now ≤ (visit r v k).1.now ∧ (visit r v k).1.at_ = k := by
        unfold visit at hv ⊢
        split at hv
        · cases hv
        · rename_i hc2
          rw [if_neg hc2]
          simp only [drv]
          exact ⟨by omega, trivial⟩
      have ih := ride_later hr t _ (fun j hj => hk j (by simp [hj])) (by rw [e.2]; omega) h
      exact ⟨Int.le_trans e.1 ih.1, ih.2⟩
    · simp [hv] at h
theorem goS_start {r : Route} (hr : RouteOk r) {t : List Nat} (hk : ∀ k ∈ t, k < r.n) (h : ridden r t = true) : r.start ≤ (goS r t).2.2 := by
  have h1 := ride_later hr t (leave r) hk (Nat.lt_succ_self _) (ridden_none h)
  have hb := home_back hr t (w := (ride r (leave r) t).2.2) (ts := (ride r (leave r) t).1) (by rw [← ridden_none h])
  rw [(goS_home hr h).1, hb.1]
  have hc := hr.cell _ r.n h1.2 (Nat.lt_succ_self _)
  have : (leave r).now = r.start := rfl
  omega
theorem min_fold : ∀ (l : List Int) (b : Int), l.foldl min b ≤ b ∧ (∀ x ∈ l, l.foldl min b ≤ x) ∧ (l.foldl min b = b ∨ l.foldl min b ∈ l)
  | [], b => ⟨Int.le_refl _, by simp, .inl rfl⟩
  | x :: l, b => by
    obtain ⟨h1, h2, h3⟩ := min_fold l (min b x)
    rw [List.foldl_cons]
    refine ⟨by omega, fun y hy => ?_, ?_⟩
    · rcases List.mem_cons.1 hy with rfl | hy
      · omega
      · exact h2 y hy
    · rcases h3 with h3 | h3
      · by_cases hb : b ≤ x
        · exact .inl (by rw [h3]; omega)
        · exact .inr (by rw [h3, show min b x = x from by omega]; simp)
      · exact .inr (by simp [h3])
theorem minS_le (f : List Nat → Int) (L : List (List Nat)) : ∀ t ∈ L, minS f L L.length ≤ f t := by
  intro t ht
  have e : minS f L L.length = (L.map f).foldl min (f (L.getD 0 [])) := by unfold minS; rw [List.take_length, List.foldl_map]
  rw [e]
  exact (min_fold _ _).2.1 _ (List.mem_map_of_mem ht)
theorem minS_mem (f : List Nat → Int) (L : List (List Nat)) (h : 0 < L.length) : ∃ t ∈ L, minS f L L.length = f t := by
  have e : minS f L L.length = (L.map f).foldl min (f (L.getD 0 [])) := by unfold minS; rw [List.take_length, List.foldl_map]
  rw [e]
  rcases (min_fold (L.map f) (f (L.getD 0 []))).2.2 with h1 | h1
  · rw [h1]
    refine ⟨L.getD 0 [], ?_, rfl⟩
    rw [List.getD_eq_getElem?_getD, List.getElem?_eq_getElem h]
    exact List.getElem_mem h
  · obtain ⟨t, ht, e⟩ := List.mem_map.1 h1
    exact ⟨t, ht, e.symm⟩
/-! ### All stops -/
end Go.Proofs.Ytbejgfpaokcnpaa

namespace Go.Proofs.Ytbejgfpaokcnpaa
open Go Go.V

/-! ### The stops of a route as cells that may be written -/
def flatS (l : List Stop) : List CD := (l.map Stop.cds).flatten
def cellsS (l : List Stop) (j : Nat) : List AV := (flatS l).map .c ++ List.replicate j .non
theorem flatS_len (l : List Stop) : (flatS l).length = l.length * 4 := by
  induction l with
  | nil => rfl
  | cons s l ih => simp only [flatS, List.map_cons, List.flatten_cons, List.length_append, List.length_cons] at ih ⊢; rw [ih]; simp [Stop.cds]; omega
theorem cellsS_len (l : List Stop) (j : Nat) : (cellsS l j).length = l.length * 4 + j := by simp [cellsS, flatS_len]
theorem flatS_cons (s : Stop) (l : List Stop) : flatS (s :: l) = s.cds ++ flatS l := rfl
theorem flatS_get {l : List Stop} {k : Nat} (h : k < l.length) (i : Nat) (hi : i < 4) : (flatS l)[k * 4 + i]? = (l[k].cds)[i]? := by
  induction l generalizing k with
  | nil => simp at h
  | cons s l ih =>
    rw [flatS_cons]
    cases k with
    | zero => rw [Nat.zero_mul, Nat.zero_add, List.getElem?_append_left (by simp [Stop.cds]; omega)]; rfl
    | succ k =>
      rw [List.getElem?_append_right (by simp [Stop.cds]; omega)]
      rw [show (k + 1) * 4 + i - s.cds.length = k * 4 + i from by simp [Stop.cds]; omega]
      simpa using ih (by simpa using h)
theorem cellsS_get {l : List Stop} {k : Nat} (h : k < l.length) (j i : Nat) (hi : i < 4) {d : CD} (hd : (l[k].cds)[i]? = some d) (x : AV) : (cellsS l j).getD (k * 4 + i) x = .c d := by
  rw [List.getD_eq_getElem?_getD]
  have h1 := flatS_get h i hi
  rw [hd] at h1
  have hlt := (List.getElem?_eq_some_iff.1 h1).1
  unfold cellsS
  rw [List.getElem?_append_left (by simpa using hlt), List.getElem?_map, h1]
  rfl
theorem flatS_set {l : List Stop} {k : Nat} (h : k < l.length) (i : Nat) (hi : i < 4) (d : CD) (s : Stop) (hs : s.cds = (l[k].cds).set i d) : (flatS l).set (k * 4 + i) d = flatS (l.set k s) := by
  induction l generalizing k with
  | nil => simp at h
  | cons t l ih =>
    cases k with
    | zero =>
      simp only [List.getElem_cons_zero] at hs
      rw [flatS_cons, List.set_cons_zero, flatS_cons, hs, Nat.zero_mul, Nat.zero_add, List.set_append_left _ _ (by simp [Stop.cds]; omega)]
    | succ k =>
      simp only [List.getElem_cons_succ] at hs
      rw [flatS_cons, List.set_cons_succ, flatS_cons, List.set_append_right _ _ (by simp [Stop.cds]; omega)]
      rw [show (k + 1) * 4 + i - t.cds.length = k * 4 + i from by simp [Stop.cds]; omega]
      rw [ih (by simpa using h) hs]
theorem cellsS_set {l : List Stop} {k : Nat} (h : k < l.length) (j i : Nat) (hi : i < 4) (d : CD) (s : Stop) (hs : s.cds = (l[k].cds).set i d) : (cellsS l j).set (k * 4 + i) (.c d) = cellsS (l.set k s) j := by
  unfold cellsS
  rw [List.set_append_left _ _ (by simp [flatS_len]; omega), ← flatS_set h i hi d s hs, List.map_set]
theorem grp_flatS : ∀ l : List Stop, grp 4 l.length (flatS l) = l.map Stop.cds
  | [] => rfl
  | s :: l => by
    simp only [List.length_cons, grp, flatS_cons, List.map_cons]
    rw [List.take_left' (by rfl), List.drop_left' (by rfl), grp_flatS l]
theorem flatS_c (l : List Stop) : ((l.map Stop.cds).flatten.map AV.c) = (flatS l).map .c := rfl
theorem prg_cs (d : Nat) : ∀ l : List CD, AV.prgL d (l.map .c) = l.map .c
  | [] => rfl
  | a :: l => by simp only [List.map_cons, AV.prgL, AV.prg, prg_cs d l]
theorem prg_non (d : Nat) : ∀ j : Nat, AV.prgL d (List.replicate j .non) = List.replicate j .non
  | 0 => rfl
  | j + 1 => by simp only [List.replicate_succ, AV.prgL, AV.prg, prg_non d j]
theorem prgL_append (d : Nat) : ∀ a b : List AV, AV.prgL d (a ++ b) = AV.prgL d a ++ AV.prgL d b
  | [], b => rfl
  | x :: a, b => by simp only [List.cons_append, AV.prgL, prgL_append d a b]
theorem cellsS_fold (l : List Stop) (j : Nat) : (flatS l).map .c ++ List.replicate j .non = cellsS l j := rfl
theorem lend_cs (b : Nat) (L : List Nat) (own : Nat → Ob) : ∀ l : List CD, AV.lendL b L own (l.map .c) = some (l.map .c)
  | [] => rfl
  | a :: l => by simp only [List.map_cons, AV.lendL, AV.lend, lend_cs b L own l]
theorem lend_non (b : Nat) (L : List Nat) (own : Nat → Ob) : ∀ j : Nat, AV.lendL b L own (List.replicate j .non) = some (List.replicate j .non)
  | 0 => rfl
  | j + 1 => by simp only [List.replicate_succ, AV.lendL, AV.lend, lend_non b L own j]
theorem lendL_append (b : Nat) (L : List Nat) (own : Nat → Ob) : ∀ x y : List AV, AV.lendL b L own (x ++ y) = (AV.lendL b L own x).bind fun x' => (AV.lendL b L own y).map fun y' => x' ++ y'
  | [], y => by simp [AV.lendL]
  | a :: x, y => by
    simp only [List.cons_append, AV.lendL, lendL_append b L own x y]
    cases AV.lend b L own a <;> cases AV.lendL b L own x <;> cases AV.lendL b L own y <;> rfl
theorem prg_cellsS (d : Nat) (l : List Stop) (j : Nat) : AV.prgL d (cellsS l j) = cellsS l j := by
  unfold cellsS; rw [prgL_append, prg_cs, prg_non]
theorem lend_cellsS (b : Nat) (L : List Nat) (own : Nat → Ob) (l : List Stop) (j : Nat) : AV.lendL b L own (cellsS l j) = some (cellsS l j) := by
  unfold cellsS; rw [lendL_append, lend_cs, lend_non]; rfl
theorem frz_cs (n : Nat) (ds : List CD) : ∀ l : List CD, AV.frzL n ds (l.map .c) = l.map .c
  | [] => rfl
  | a :: l => by simp only [List.map_cons, AV.frzL, AV.frz, frz_cs n ds l]
theorem frz_non (n : Nat) (ds : List CD) : ∀ j : Nat, AV.frzL n ds (List.replicate j .non) = List.replicate j .non
  | 0 => rfl
  | j + 1 => by simp only [List.replicate_succ, AV.frzL, AV.frz, frz_non n ds j]
theorem frzL_append (n : Nat) (ds : List CD) : ∀ a b : List AV, AV.frzL n ds (a ++ b) = AV.frzL n ds a ++ AV.frzL n ds b
  | [], b => rfl
  | x :: a, b => by simp only [List.cons_append, AV.frzL, frzL_append n ds a b]
theorem frz_cellsS (n : Nat) (ds : List CD) (l : List Stop) (j : Nat) : AV.frzL n ds (cellsS l j) = cellsS l j := by
  unfold cellsS; rw [frzL_append, frz_cs, frz_non]
theorem back_cellsS (L : List Nat) (l : List Stop) (j : Nat) : AV.backL L (cellsS l j) = some (cellsS l j) := by
  refine backs_pure ?_
  unfold cellsS
  refine pureL_append ?_ ?_
  · generalize flatS l = ds
    induction ds with
    | nil => rfl
    | cons a ds ih => simp only [List.map_cons, AV.pureL, AV.pureB, Bool.true_and]; exact ih
  · induction j with
    | zero => rfl
    | succ j ih => simp only [List.replicate_succ, AV.pureL, AV.pureB, Bool.true_and]; exact ih

namespace W
@[reducible] def o17_0 : List Ins := [⟨(some 1), .box 3 (.t 0), none, true⟩,
  ⟨(some 2), .alloc [(.c (.raw (.slice none 0 0))), (.c (.raw (.slice none 0 0))), (.c (.int .i64 0))], none, true⟩]
@[reducible] def o17_1 : List Ins := [⟨(some 5), .ld false 3 (.t 1), none, true⟩,
  ⟨(some 3), .alloc [(.c (.raw (.slice none 0 0))), (.c (.raw (.slice none 0 0))), (.c (.int .i64 0))], none, true⟩,
  ⟨none, .st 3 (.t 3) (.t 5), none, true⟩]
@[reducible] def o17_2 : List Ins := [⟨(some 6), .bsl 53 4 [], none, true⟩,
  ⟨(some 7), .fa 0 (.t 1), none, true⟩,
  ⟨(some 8), .ld true 1 (.t 7), none, true⟩,
  ⟨(some 9), .appv 53 4 32 (.t 6) (.t 8), none, true⟩,
  ⟨(some 10), .fa 0 (.t 3), none, true⟩,
  ⟨none, .st 1 (.t 10) (.t 9), none, true⟩,
  ⟨(some 11), .fa 1 (.t 3), none, true⟩,
  ⟨none, .st 1 (.t 11) (.k (.c (.raw (.slice none 0 0)))), none, true⟩]
@[reducible] def o17_3 : List Ins := [⟨(some 4), .mv (.k (.c (.int .i64 0))), none, true⟩]
@[reducible] def o17_4 : List Ins := [⟨(some 12), .mv (.t 4), none, true⟩,
  ⟨(some 13), .fa 1 (.t 1), none, true⟩,
  ⟨(some 14), .ld true 1 (.t 13), none, true⟩,
  ⟨(some 15), .len (.t 14), none, true⟩,
  ⟨(some 16), .bin .lss (.t 12) (.t 15), none, true⟩]
@[reducible] def v17_5 : VC := (.cond (.t 16) .skip (.exit 0))
@[reducible] def o17_6 : List Ins := [⟨(some 19), .fa 1 (.t 3), none, false⟩,
  ⟨(some 20), .ld true 1 (.t 19), none, false⟩,
  ⟨(some 21), .bsl 3 1 [], none, false⟩,
  ⟨(some 22), .fa 1 (.t 1), none, false⟩,
  ⟨(some 23), .ld true 1 (.t 22), none, false⟩,
  ⟨(some 24), .mv (.t 4), none, false⟩,
  ⟨(some 25), .ia 1 (.t 23) (.t 24), none, false⟩,
  ⟨(some 26), .ld true 1 (.t 25), none, false⟩,
  ⟨(some 27), .app 3 1 8 (.t 21) (.t 26), none, false⟩,
  ⟨(some 28), .bsl 33 1 [(.t 27)], none, false⟩,
  ⟨(some 29), .app 33 1 24 (.t 20) (.t 28), none, true⟩,
  ⟨(some 30), .fa 1 (.t 3), none, true⟩,
  ⟨none, .st 1 (.t 30) (.t 29), none, true⟩]
@[reducible] def o17_7 : List Ins := [⟨(some 17), .mv (.t 4), none, true⟩,
  ⟨(some 18), .bin .add (.t 17) (.k (.c (.int .i64 1))), none, true⟩,
  ⟨(some 4), .mv (.t 18), none, true⟩]
@[reducible] def v17_8 : VC := (.seq (.block 1 (.ops o17_6)) (.ops o17_7))
@[reducible] def v17_9 : VC := (.seq (.seq (.ops o17_4) v17_5) v17_8)
-- K17_1: changed and kept: [4]
@[reducible] def K17_1 : List Nat := [1, 2, 3]
@[reducible] def v17_10 : VC := (.loop v17_9)
@[reducible] def v17_11 : VC := (.block 0 v17_10)
@[reducible] def o17_12 : List Ins := [⟨(some 31), .ld false 3 (.t 3), none, true⟩,
  ⟨none, .st 3 (.t 2) (.t 31), none, true⟩]
@[reducible] def v17_13 : VC := (.seq (.ops o17_12) .ret)
@[reducible] def v17_14 : VC := (.seq (.seq (.ops o17_3) v17_11) v17_13)
@[reducible] def v17_15 : VC := (.seq (.ops o17_2) v17_14)
@[reducible] def v17_16 : VC := (.seq (.ops o17_1) v17_15)
def ir17 : FC := ⟨1, 32, [.cell 2 false 3], (.seq (.ops o17_0) v17_16)⟩
theorem c17 : compM Try.prog [100009] 17 = some ir17 := by kernel_rfl



/-- Copy, of which the stops may be written. -/
def copyP (r : Route) (res : AV) (os : List Ob) : Prop := ∃ cap j, r.stops.length ≤ cap ∧ cap ≤ maxLen ∧ cap * 4 ≤ r.stops.length * 4 + j ∧ res = .agg [.vw 4 1000 0 r.stops.length cap, .c (driveC r.drive), iv r.start] ∧ os = [.box (cellsS r.stops j)]

set_option maxHeartbeats 4000000 in
theorem copyN (r : Route) (hnear : near r = true) (hne : r.stops ≠ []) : FSpecN Try.prog 17 [r.av] (copyP r) := by
  obtain ⟨hn1, hn2, hn3⟩ := near_eq hnear
  have hmax : maxLen = 9223372036854775807 := rfl
  have hl0 : (r.stops.length = 0) = False := by simpa using hne
  refine FSpecN_of c17 (Nat.le_refl _) (by decide) fun C hP hN hC hL => ?_
  simp only [ir17, Route.av]
  (repeat ((first | refine WV_seq_ ?_ | refine WV_block ?_ | refine WV_ops ?_ | refine WV_skip ?_ | refine WV_exit ?_); (try simp only [go_sem, init_env', Nat.reduceEqDiff, Nat.reduceAdd, Nat.reduceMul, reduceIte, Nat.reduceLeDiff, Nat.reduceLT, Nat.reduceBEq, reduceCtorEq, hP, stopsC, stops_four, hl0, List.length_map, flatS_c]); (repeat (refine And.intro (by first | omega | (intros; simp_all; done) | (intros; simp_all; omega)) ?_))))
  intro cap j h1 h2 h3
  rw [prgL_append, prg_cs, prg_non, cellsS_fold]
  have hpc := fun d => prg_cellsS d r.stops j
  have hfc := fun n ds => frz_cellsS n ds r.stops j
  (repeat ((first | refine WV_seq_ ?_ | refine WV_block ?_ | refine WV_ops ?_ | refine WV_skip ?_ | refine WV_exit ?_); (try simp only [go_sem, init_env', Nat.reduceEqDiff, Nat.reduceAdd, Nat.reduceMul, reduceIte, Nat.reduceLeDiff, Nat.reduceLT, Nat.reduceBEq, reduceCtorEq, hP, hpc]); (repeat (refine And.intro (by first | omega | (intros; simp_all; done) | (intros; simp_all; omega)) ?_))))
  refine WV_freeze 1 (ds := r.cds) rfl rfl ?_
  simp only [go_sem, init_env', Nat.reduceEqDiff, Nat.reduceAdd, Nat.reduceMul, reduceIte, Nat.reduceLeDiff, Nat.reduceLT, Nat.reduceBEq, reduceCtorEq, hfc]
  refine WV_nilbox 3 1 29 33 1 (by decide) (by decide) (by decide) rfl rfl rfl ?_
  simp only [go_sem, init_env', Nat.reduceEqDiff, Nat.reduceAdd, Nat.reduceMul, reduceIte, Nat.reduceLeDiff, Nat.reduceLT, Nat.reduceBEq, reduceCtorEq, hpc]
  refine WV_loopK K17_1 [2, 3, 6, 9, 29] (fun k : Nat => k ≤ r.drive.length) (fun k => r.drive.length - k) (fun k => [(4, iv k)])
    (fun k => [(29, .grow 33 1 ((r.drive.take k).map fun x => [ints x])), (3, .box [.vw 4 9 0 r.stops.length cap, .gr 29, iv r.start]), (9, .box (cellsS r.stops j)), (2, .box [.c (.raw (.slice none 0 0)), .c (.raw (.slice none 0 0)), iv 0])]) 0 (Nat.zero_le _) ?_ ?_
  · (refine Sub_of (by simp only [go_sem, init_env', Nat.reduceEqDiff, Nat.reduceAdd, Nat.reduceMul, reduceIte, Nat.reduceLeDiff, Nat.reduceLT, Nat.reduceBEq, reduceCtorEq]; ((repeat' (first | exact EnvLe_e0 _ _ | refine EnvLe_upd ?_ ?_)) <;> ((try simp only [upd_app, e0_app, o0_app, Nat.reduceEqDiff, reduceIte]); first | exact AWk.refl _ _ | exact AWk.int (by omega) | exact AWk.int (by rw [w64 (by omega) (by omega)]; omega) | exact AWk.grow rfl | exact AWk.nil _ | exact AWk.of (by simp)))) (by simp only [go_sem, init_env', Nat.reduceEqDiff, Nat.reduceAdd, Nat.reduceMul, reduceIte, Nat.reduceLeDiff, Nat.reduceLT, Nat.reduceBEq, reduceCtorEq]; ((repeat' (first | exact ObjLe_o0 _ | exact ObjLe.rfl' _ | refine ObjLe_same ?_ | refine ObjLe_upd ?_ ?_ | refine ObjLe_new rfl ?_)) <;> rfl)))
  · intro k hk
    have htl : (r.drive.take k).length ≤ 20 := by rw [List.length_take]; omega
    simp only [go_sem, init_env', Nat.reduceEqDiff, Nat.reduceAdd, Nat.reduceMul, reduceIte, Nat.reduceLeDiff, Nat.reduceLT, Nat.reduceBEq, reduceCtorEq, hpc]
    (repeat ((first | refine WV_seq_ ?_ | refine WV_block ?_ | refine WV_ops ?_ | refine WV_skip ?_ | refine WV_exit ?_); (try simp only [go_sem, init_env', Nat.reduceEqDiff, Nat.reduceAdd, Nat.reduceMul, reduceIte, Nat.reduceLeDiff, Nat.reduceLT, Nat.reduceBEq, reduceCtorEq, hP, hpc, Route.cds, driveC]); (repeat (refine And.intro (by first | omega | (intros; simp_all; done) | (intros; simp_all; omega)) ?_))))
    (refine WV_cond rfl (fun h => ?_) (fun h => ?_))
    · have h : k < r.drive.length := by simpa using h
      have hrow := hn3 _ (List.getElem_mem h)
      have hw2 := w64 (n := (k : Int) + 1) (by omega) (by omega)
      (repeat ((first | refine WV_seq_ ?_ | refine WV_block ?_ | refine WV_ops ?_ | refine WV_skip ?_ | refine WV_exit ?_); (try simp only [go_sem, init_env', Nat.reduceEqDiff, Nat.reduceAdd, Nat.reduceMul, reduceIte, Nat.reduceLeDiff, Nat.reduceLT, Nat.reduceBEq, reduceCtorEq, hP, hpc, Route.cds, driveC, Int.toNat_natCast, map_getD h, List.length_map, Int.ofNat_lt, h, Int.natCast_nonneg, ints, ints_one, intss_one, hw2]); (repeat (refine And.intro (by first | omega | (intros; simp_all; done) | (intros; simp_all; omega)) ?_))))
      refine ⟨k + 1, by omega, by omega, ?_⟩
      rw [List.take_succ_eq_append_getElem (by assumption), List.map_append]
      (refine Sub_of (by simp only [go_sem, init_env', Nat.reduceEqDiff, Nat.reduceAdd, Nat.reduceMul, reduceIte, Nat.reduceLeDiff, Nat.reduceLT, Nat.reduceBEq, reduceCtorEq]; ((repeat' (first | exact EnvLe_e0 _ _ | refine EnvLe_upd ?_ ?_)) <;> ((try simp only [upd_app, e0_app, o0_app, Nat.reduceEqDiff, reduceIte]); first | exact AWk.refl _ _ | exact AWk.int (by omega) | exact AWk.int (by rw [w64 (by omega) (by omega)]; omega) | exact AWk.grow rfl | exact AWk.nil _ | exact AWk.of (by simp [ints])))) (by simp only [go_sem, init_env', Nat.reduceEqDiff, Nat.reduceAdd, Nat.reduceMul, reduceIte, Nat.reduceLeDiff, Nat.reduceLT, Nat.reduceBEq, reduceCtorEq]; ((repeat' (first | exact ObjLe_o0 _ | exact ObjLe.rfl' _ | refine ObjLe_same ?_ | refine ObjLe_upd ?_ ?_ | refine ObjLe_new rfl ?_)) <;> rfl)))
    · have h : k = r.drive.length := by simp at h; omega
      subst h
      rw [List.take_length]
      (repeat ((first | refine WV_seq_ ?_ | refine WV_block ?_ | refine WV_ops ?_ | refine WV_skip ?_ | refine WV_exit ?_); (try simp only [go_sem, init_env', Nat.reduceEqDiff, Nat.reduceAdd, Nat.reduceMul, reduceIte, Nat.reduceLeDiff, Nat.reduceLT, Nat.reduceBEq, reduceCtorEq, hP, hpc]); (repeat (refine And.intro (by first | omega | (intros; simp_all; done) | (intros; simp_all; omega)) ?_))))
      (refine WV_ret ?_; simp only [thenQ, inQ, RetQN, RetOkN, resAll, resA]; simp only [go_sem, init_env', Nat.reduceEqDiff, Nat.reduceAdd, Nat.reduceMul, reduceIte, Nat.reduceLeDiff, Nat.reduceLT, Nat.reduceBEq, reduceCtorEq, tupA, ])
      refine ⟨[9], .agg [.vw 4 1000 0 r.stops.length cap, .c (driveC r.drive), iv r.start], _, [.box (cellsS r.stops j)], by decide, by decide, ?_, AVle.of rfl, ?_, cap, j, h1, h2, h3, rfl, rfl⟩
      · simp only [go_sem, init_env', Nat.reduceEqDiff, Nat.reduceAdd, Nat.reduceMul, reduceIte, Nat.reduceLeDiff, Nat.reduceLT, Nat.reduceBEq, reduceCtorEq, AV.lend, AV.lendL]
        rfl
      · simp only [go_sem, init_env', Nat.reduceEqDiff, Nat.reduceAdd, Nat.reduceMul, reduceIte, Nat.reduceLeDiff, Nat.reduceLT, Nat.reduceBEq, reduceCtorEq, obsLend, Ob.lend, lend_cellsS]
end W
end Go.Proofs.Ytbejgfpaokcnpaa

/-
  Another day: all is later by the same number: plain.
-/
namespace Go.Proofs.Ytbejgfpaokcnpaa
open Go Go.V

def shiftS (b : Int) (s : Stop) : Stop := { s with op := s.op + b, cl := s.cl + b }
def shiftR (r : Route) (b : Int) : Route := { r with stops := r.stops.map (shiftS b), start := r.start + b }
def shiftV (b : Int) (v : Van) : Van := { v with now := v.now + b }
theorem shift_n (r : Route) (b : Int) : (shiftR r b).n = r.n := by simp [shiftR, Route.n]
theorem shift_s {r : Route} {b : Int} {k : Nat} (h : k < r.n) : (shiftR r b).s k = shiftS b (r.s k) := by
  have h' : k < r.stops.length := h
  simp [shiftR, Route.s, h']
theorem visit_shift {r : Route} (b : Int) (v : Van) {k : Nat} (h : k < r.n) : visit (shiftR r b) (shiftV b v) k = (shiftV b (visit r v k).1, if (visit r v k).2.2 then (visit r v k).2.1 + b else 0, (visit r v k).2.2) := by
  unfold visit
  rw [shift_s h]
  have e1 : (drv (shiftR r b) (shiftV b v) k) = shiftV b (drv r v k) := by
    simp only [drv, shiftV, Van.mk.injEq, true_and]
    have : (shiftR r b).d = r.d := rfl
    rw [this]
    omega
  rw [e1]
  by_cases hc : (r.s k).cl < (drv r v k).now
  · have hc' : (shiftS b (r.s k)).cl < (shiftV b (drv r v k)).now := by simp only [shiftS, shiftV]; omega
    simp [hc, hc']
  · have hc' : ¬ (shiftS b (r.s k)).cl < (shiftV b (drv r v k)).now := by simp only [shiftS, shiftV]; omega
    simp only [hc, hc', if_false, if_true, Prod.mk.injEq, and_true]
    simp only [shiftS, shiftV, Van.mk.injEq, true_and, and_true]
    constructor <;> omega
theorem ride_shift {r : Route} (b : Int) : ∀ (t : List Nat) (v : Van), (∀ k ∈ t, k < r.n) → ride (shiftR r b) (shiftV b v) t = ((ride r v t).1.map (· + b), (ride r v t).2.1, shiftV b (ride r v t).2.2)
  | [], v, _ => by simp [ride]
  | k :: t, v, h => by
    have hv := visit_shift b v (h k (by simp))
    simp only [ride, hv]
    by_cases hg : (visit r v k).2.2 = true
    · simp only [hg, if_true]
      rw [ride_shift b t _ (fun j hj => h j (by simp [hj]))]
      simp
    · simp [hg]
theorem leave_shift (r : Route) (b : Int) : leave (shiftR r b) = shiftV b (leave r) := by
  simp only [leave, shiftV, Van.mk.injEq, and_true]
  exact ⟨shift_n r b, rfl⟩
theorem ridden_shift {r : Route} (b : Int) {t : List Nat} (h : ∀ k ∈ t, k < r.n) : ridden (shiftR r b) t = ridden r t := by
  unfold ridden
  rw [leave_shift, ride_shift b t _ h]
theorem allR_shift (r : Route) (b : Int) : allR (shiftR r b) = allR r := by
  unfold allR
  rw [shift_n]
theorem goodR_shift (r : Route) (b : Int) (w : Bool) : goodR (shiftR r b) w = goodR r w := by
  unfold goodR
  rw [allR_shift]
  refine List.filter_congr fun t ht => ?_
  unfold goodP
  rw [shift_n, ridden_shift b (allR_ok t ht).2]
theorem errR_shift {r : Route} {b : Int} (h : r.ok = true) (h' : (shiftR r b).ok = true) : errR (shiftR r b) = errR r := by
  unfold errR
  rw [h, h', goodR_shift]
theorem longS_shift (r : Route) (b : Int) : longS (shiftR r b) = longS r := by
  funext t
  unfold longS longP
  rw [shift_n]
  rfl
theorem cashS_shift {r : Route} (b : Int) {t : List Nat} (h : ∀ k ∈ t, k < r.n) : cashS (shiftR r b) t = cashS r t := by
  unfold cashS
  congr 1
  refine List.map_congr_left fun k hk => ?_
  rw [shift_s (h k hk)]
  rfl
theorem goS_shift {r : Route} (hr : RouteOk r) {b : Int} (hr' : RouteOk (shiftR r b)) {t : List Nat} (h : ∀ k ∈ t, k < r.n) (hd : ridden r t = true) : (goS (shiftR r b) t).2.2 = (goS r t).2.2 + b := by
  have hd' : ridden (shiftR r b) t = true := by rw [ridden_shift b h]; exact hd
  rw [(goS_home hr hd).1, (goS_home hr' hd').1, leave_shift, ride_shift b t _ h]
  simp only [home]
  split
  · rfl
  · rw [shift_n]
    simp only [drv, shiftV]
    have : (shiftR r b).d = r.d := rfl
    rw [this]
    omega
theorem minS_congr {f g : List Nat → Int} {L : List (List Nat)} (hL : 0 < L.length) {b : Int} (h : ∀ t ∈ L, g t = f t + b) : minS g L L.length = minS f L L.length + b := by
  obtain ⟨t, ht, e⟩ := minS_mem f L hL
  obtain ⟨u, hu, e'⟩ := minS_mem g L hL
  have h1 := minS_le f L u hu
  have h2 := minS_le g L t ht
  have := h t ht
  have := h u hu
  omega
theorem ride_times {r : Route} (hr : RouteOk r) : ∀ (t : List Nat) (v : Van), (∀ k ∈ t, k < r.n) → ∀ x ∈ (ride r v t).1, 0 ≤ x ∧ x ≤ 1440
  | [], v, _, x, hx => by simp [ride] at hx
  | k :: t, v, h, x, hx => by
    simp only [ride] at hx
    have hs := hr.stop k (h k (by simp))
    by_cases hg : (visit r v k).2.2 = true
    · simp only [hg, if_true, List.mem_cons] at hx
      rcases hx with rfl | hx
      · unfold visit at hg ⊢
        split at hg
        · cases hg
        · rename_i hc
          rw [if_neg hc]
          simp only
          omega
      · exact ride_times hr t _ (fun j hj => h j (by simp [hj])) x hx
    · simp [hg] at hx
theorem goS_max {r : Route} (hr : RouteOk r) {t : List Nat} (h : ∀ k ∈ t, k < r.n) (hd : ridden r t = true) : (goS r t).2.2 ≤ 100000 := by
  have h1 := ride_ok hr t (leave r) 0 (leave_ok hr) h (ridden_none hd)
  rw [(goS_home hr hd).1]
  have hn := h1.now
  have hc := hr.cell _ r.n h1.at_ (Nat.lt_succ_self _)
  unfold home
  split
  · omega
  · simp only [drv]; omega

/-- What is handed back for another day. -/
theorem timesS_shift {r : Route} {b : Int} (h : r.ok = true) (h' : (shiftR r b).ok = true) (l : List Int) :
    timesS (shiftR r b) l = ((timesS r l).1.map (· + b), (timesS r l).2) ∧ (timesS r l).1.length ≤ 7 ∧ ∀ x ∈ (timesS r l).1, 0 ≤ x ∧ x ≤ 1440 := by
  have hr := Route.ok_spec h
  have hi : isTour (shiftR r b) l = isTour r l := by unfold isTour; rw [shift_n]
  have hk : knownE (shiftR r b) l = knownE r l := by unfold knownE; rw [h, h', hi]
  unfold timesS
  rw [hi, h, h', hk]
  by_cases ht : isTour r l = true
  · rw [if_pos ⟨rfl, ht⟩, if_pos ⟨rfl, ht⟩, leave_shift, ride_shift b _ _ (toN_lt ht)]
    have h1 := ride_times hr (toN l) (leave r) (toN_lt ht)
    have h2 := ride_len r (toN l) (leave r)
    have h3 := tour_len (toN_nodup ht) (toN_lt ht)
    have h4 := hr.n7
    revert h1 h2
    generalize ride r (leave r) (toN l) = x
    obtain ⟨ts, m, v⟩ := x
    cases m with
    | none => exact fun h1 h2 => ⟨rfl, by simp only at h2 ⊢; omega, h1⟩
    | some k => exact fun h1 h2 => ⟨rfl, by simp, by simp⟩
  · rw [if_neg (fun h => ht h.2), if_neg (fun h => ht h.2)]
    exact ⟨rfl, by simp, by simp⟩
theorem soon_shift {r : Route} {b : Int} (h : r.ok = true) (h' : (shiftR r b).ok = true) : (errR r = 0 → rsoonS (shiftR r b) = ((rsoonS r).1 + b, 0) ∧ (rsoonS r).2 = 0 ∧ 0 ≤ (rsoonS r).1 ∧ (rsoonS r).1 ≤ 100000) ∧ (errR r ≠ 0 → rsoonS (shiftR r b) = (0, errR r) ∧ rsoonS r = (0, errR r)) := by
  have hr := Route.ok_spec h
  have hr' := Route.ok_spec h'
  unfold rsoonS
  rw [errR_shift h h', goodR_shift]
  constructor
  · intro he
    obtain ⟨_, _, hlen⟩ := errR_eq he
    have hg : ∀ t ∈ goodR r true, (∀ k ∈ t, k < r.n) ∧ ridden r t = true := fun t ht => by
      have := goodR_mem ht
      have h4 := this.2.2.2
      simp only [goodP, Bool.not_true, Bool.false_or, Bool.and_eq_true] at h4
      exact ⟨this.2.1, h4.2⟩
    rw [if_pos he, if_pos he]
    rw [minS_congr (f := fun t => (goS r t).2.2) hlen (b := b) fun t ht => goS_shift hr hr' (hg t ht).1 (hg t ht).2]
    obtain ⟨t, ht, e⟩ := minS_mem (fun t => (goS r t).2.2) _ hlen
    refine ⟨rfl, rfl, ?_, ?_⟩
    · show 0 ≤ minS _ _ _
      rw [e]
      have := goS_start hr (hg t ht).1 (hg t ht).2
      have := hr.st
      omega
    · show minS _ _ _ ≤ _
      rw [e]
      exact goS_max hr (hg t ht).1 (hg t ht).2
  · intro he
    rw [if_neg he, if_neg he]
    exact ⟨rfl, rfl⟩
theorem short_shift {r : Route} {b : Int} (h : r.ok = true) (h' : (shiftR r b).ok = true) : rshortS (shiftR r b) = rshortS r := by
  unfold rshortS
  rw [errR_shift h h', goodR_shift, longS_shift]
theorem most_shift {r : Route} {b : Int} (h : r.ok = true) (h' : (shiftR r b).ok = true) : rmostS (shiftR r b) = rmostS r := by
  unfold rmostS
  rw [h, h', goodR_shift]
  have : ∀ (l : List (List Nat)) (c : Int), (∀ t ∈ l, ∀ k ∈ t, k < r.n) → l.foldl (fun b' t => max b' (cashS (shiftR r b) t)) c = l.foldl (fun b' t => max b' (cashS r t)) c := by
    intro l
    induction l with
    | nil => intro c _; rfl
    | cons t l ih =>
      intro c hl
      simp only [List.foldl_cons]
      rw [cashS_shift b (hl t (by simp)), ih _ fun u hu => hl u (by simp [hu])]
  unfold rmostB
  rw [this _ _ fun t ht => (goodR_mem ht).2.1]
theorem first_shift {r : Route} {b : Int} (h : r.ok = true) (h' : (shiftR r b).ok = true) : rfirstS (shiftR r b) = rfirstS r := by
  unfold rfirstS
  rw [errR_shift h h', goodR_shift, shift_n]
theorem shut_shift {r : Route} {b : Int} (h : r.ok = true) (h' : (shiftR r b).ok = true) : rshutS (shiftR r b) = rshutS r := by
  unfold rshutS
  rw [h, h', goodR_shift, shift_n]
end Go.Proofs.Ytbejgfpaokcnpaa

namespace Go.Proofs.Ytbejgfpaokcnpaa
open Go Go.V
@[reducible] def o11_0 : List Ins := [⟨(some 3), .box 3 (.t 0), none, true⟩,
  ⟨(some 6), .mv (.k (.c (.bool false))), none, true⟩]
@[reducible] def o11_1 : List Ins := [⟨(some 26), .ld false 3 (.t 3), none, true⟩,
  ⟨(some 27), .call (.k (.fn 13 [])) [(.t 26)], none, true⟩,
  ⟨(some 28), .un .not (.t 27), none, true⟩,
  ⟨(some 29), .mv (.t 28), none, true⟩,
  ⟨(some 30), .mv (.t 1), (some (29, false)), true⟩,
  ⟨(some 31), .len (.t 30), (some (29, false)), true⟩,
  ⟨(some 32), .bin .gtr (.t 31) (.k (.c (.int .i64 20))), (some (29, false)), true⟩,
  ⟨(some 33), .pick (.t 29) (.k (.c (.bool true))) (.t 32), none, true⟩,
  ⟨(some 34), .mv (.t 33), none, true⟩,
  ⟨(some 35), .mv (.t 2), (some (34, false)), true⟩,
  ⟨(some 36), .bin .lss (.t 35) (.k (.c (.int .i64 0))), (some (34, false)), true⟩,
  ⟨(some 37), .pick (.t 34) (.k (.c (.bool true))) (.t 36), none, true⟩,
  ⟨(some 38), .mv (.t 37), none, true⟩,
  ⟨(some 39), .mv (.t 2), (some (38, false)), true⟩,
  ⟨(some 40), .bin .gtr (.t 39) (.k (.c (.int .i64 1440))), (some (38, false)), true⟩,
  ⟨(some 41), .pick (.t 38) (.k (.c (.bool true))) (.t 40), none, true⟩]
@[reducible] def o11_2 : List Ins := [⟨(some 42), .call (.k (.fn 14 [])) [], none, true⟩,
  ⟨(some 6), .mv (.t 42), none, true⟩]
@[reducible] def v11_3 : VC := (.seq (.ops o11_2) .ret)
@[reducible] def v11_4 : VC := (.cond (.t 41) v11_3 .skip)
@[reducible] def o11_5 : List Ins := [⟨(some 43), .ld false 3 (.t 3), none, true⟩,
  ⟨(some 44), .call (.k (.fn 17 [])) [(.t 43)], none, true⟩,
  ⟨(some 7), .alloc [(.c (.raw (.slice none 0 0))), (.c (.raw (.slice none 0 0))), (.c (.int .i64 0))], none, true⟩,
  ⟨none, .st 3 (.t 7) (.t 44), none, true⟩]
@[reducible] def o11_6 : List Ins := [⟨(some 45), .fa 2 (.t 7), none, true⟩,
  ⟨(some 46), .ld true 1 (.t 45), none, true⟩,
  ⟨(some 47), .mv (.t 2), none, true⟩,
  ⟨(some 48), .bin .add (.t 46) (.t 47), none, true⟩,
  ⟨(some 49), .fa 2 (.t 7), none, true⟩,
  ⟨none, .st 1 (.t 49) (.t 48), none, true⟩]
@[reducible] def o11_7 : List Ins := [⟨(some 8), .mv (.k (.c (.int .i64 0))), none, true⟩]
@[reducible] def o11_8 : List Ins := [⟨(some 50), .mv (.t 8), none, true⟩,
  ⟨(some 51), .fa 0 (.t 7), none, true⟩,
  ⟨(some 52), .ld true 1 (.t 51), none, true⟩,
  ⟨(some 53), .len (.t 52), none, true⟩,
  ⟨(some 54), .bin .lss (.t 50) (.t 53), none, true⟩]
@[reducible] def v11_9 : VC := (.cond (.t 54) .skip (.exit 0))
@[reducible] def o11_10 : List Ins := [⟨(some 57), .fa 0 (.t 7), none, true⟩,
  ⟨(some 58), .ld true 1 (.t 57), none, true⟩,
  ⟨(some 59), .mv (.t 8), none, true⟩,
  ⟨(some 60), .ia 4 (.t 58) (.t 59), none, true⟩,
  ⟨(some 61), .fa 0 (.t 60), none, true⟩,
  ⟨(some 62), .ld true 1 (.t 61), none, true⟩,
  ⟨(some 63), .mv (.t 2), none, true⟩,
  ⟨(some 64), .bin .add (.t 62) (.t 63), none, true⟩,
  ⟨(some 65), .ia 4 (.t 58) (.t 59), none, true⟩,
  ⟨(some 66), .fa 0 (.t 65), none, true⟩,
  ⟨none, .st 1 (.t 66) (.t 64), none, true⟩]
@[reducible] def o11_11 : List Ins := [⟨(some 67), .fa 0 (.t 7), none, true⟩,
  ⟨(some 68), .ld true 1 (.t 67), none, true⟩,
  ⟨(some 69), .mv (.t 8), none, true⟩,
  ⟨(some 70), .ia 4 (.t 68) (.t 69), none, true⟩,
  ⟨(some 71), .fa 1 (.t 70), none, true⟩,
  ⟨(some 72), .ld true 1 (.t 71), none, true⟩,
  ⟨(some 73), .mv (.t 2), none, true⟩,
  ⟨(some 74), .bin .add (.t 72) (.t 73), none, true⟩,
  ⟨(some 75), .ia 4 (.t 68) (.t 69), none, true⟩,
  ⟨(some 76), .fa 1 (.t 75), none, true⟩,
  ⟨none, .st 1 (.t 76) (.t 74), none, true⟩]
@[reducible] def v11_12 : VC := (.seq (.ops o11_10) (.ops o11_11))
@[reducible] def o11_13 : List Ins := [⟨(some 55), .mv (.t 8), none, true⟩,
  ⟨(some 56), .bin .add (.t 55) (.k (.c (.int .i64 1))), none, true⟩,
  ⟨(some 8), .mv (.t 56), none, true⟩]
@[reducible] def v11_14 : VC := (.seq (.block 1 v11_12) (.ops o11_13))
@[reducible] def v11_15 : VC := (.seq (.seq (.ops o11_8) v11_9) v11_14)
-- K11_1: changed and kept: [8]
@[reducible] def K11_1 : List Nat := [1, 2, 3, 7]
@[reducible] def v11_16 : VC := (.loop v11_15)
@[reducible] def v11_17 : VC := (.block 0 v11_16)
@[reducible] def o11_18 : List Ins := [⟨(some 77), .ld false 3 (.t 7), none, true⟩,
  ⟨(some 78), .call (.k (.fn 13 [])) [(.t 77)], none, true⟩,
  ⟨(some 79), .un .not (.t 78), none, true⟩]
@[reducible] def o11_19 : List Ins := [⟨(some 80), .call (.k (.fn 14 [])) [], none, true⟩,
  ⟨(some 6), .mv (.t 80), none, true⟩]
@[reducible] def v11_20 : VC := (.seq (.ops o11_19) .ret)
@[reducible] def v11_21 : VC := (.cond (.t 79) v11_20 .skip)
@[reducible] def o11_22 : List Ins := [⟨(some 82), .ld false 3 (.t 3), none, true⟩,
  ⟨(some 83), .mv (.t 1), none, true⟩,
  ⟨(some 84), .call (.k (.fn 28 [])) [(.t 82), (.t 83)], none, true⟩,
  ⟨(some 81), .mv (.t 84), none, true⟩,
  ⟨(some 85), .ext (.t 81) 0, none, true⟩,
  ⟨(some 86), .ext (.t 81) 1, none, true⟩,
  ⟨(some 9), .mv (.t 85), none, true⟩,
  ⟨(some 10), .mv (.t 86), none, true⟩]
@[reducible] def o11_23 : List Ins := [⟨(some 88), .ld false 3 (.t 7), none, true⟩,
  ⟨(some 89), .mv (.t 1), none, true⟩,
  ⟨(some 90), .call (.k (.fn 28 [])) [(.t 88), (.t 89)], none, true⟩,
  ⟨(some 87), .mv (.t 90), none, true⟩,
  ⟨(some 91), .ext (.t 87) 0, none, true⟩,
  ⟨(some 92), .ext (.t 87) 1, none, true⟩,
  ⟨(some 11), .mv (.t 91), none, true⟩,
  ⟨(some 12), .mv (.t 92), none, true⟩]
@[reducible] def o11_24 : List Ins := [⟨(some 94), .ld false 3 (.t 3), none, true⟩,
  ⟨(some 95), .call (.k (.fn 35 [])) [(.t 94)], none, true⟩,
  ⟨(some 93), .mv (.t 95), none, true⟩,
  ⟨(some 96), .ext (.t 93) 0, none, true⟩,
  ⟨(some 97), .ext (.t 93) 1, none, true⟩,
  ⟨(some 13), .mv (.t 96), none, true⟩,
  ⟨(some 14), .mv (.t 97), none, true⟩]
@[reducible] def o11_25 : List Ins := [⟨(some 99), .ld false 3 (.t 7), none, true⟩,
  ⟨(some 100), .call (.k (.fn 35 [])) [(.t 99)], none, true⟩,
  ⟨(some 98), .mv (.t 100), none, true⟩,
  ⟨(some 101), .ext (.t 98) 0, none, true⟩,
  ⟨(some 102), .ext (.t 98) 1, none, true⟩,
  ⟨(some 15), .mv (.t 101), none, true⟩,
  ⟨(some 16), .mv (.t 102), none, true⟩]
@[reducible] def o11_26 : List Ins := [⟨(some 103), .mv (.t 10), none, true⟩,
  ⟨(some 104), .mv (.t 12), none, true⟩,
  ⟨(some 105), .bin .neq (.t 103) (.t 104), none, true⟩,
  ⟨(some 106), .mv (.t 105), none, true⟩,
  ⟨(some 107), .mv (.t 9), (some (106, false)), true⟩,
  ⟨(some 108), .len (.t 107), (some (106, false)), true⟩,
  ⟨(some 109), .mv (.t 11), (some (106, false)), true⟩,
  ⟨(some 110), .len (.t 109), (some (106, false)), true⟩,
  ⟨(some 111), .bin .neq (.t 108) (.t 110), (some (106, false)), true⟩,
  ⟨(some 112), .pick (.t 106) (.k (.c (.bool true))) (.t 111), none, true⟩,
  ⟨(some 113), .mv (.t 112), none, true⟩,
  ⟨(some 114), .mv (.t 9), (some (113, false)), true⟩,
  ⟨(some 115), .len (.t 114), (some (113, false)), true⟩,
  ⟨(some 116), .bin .gtr (.t 115) (.k (.c (.int .i64 7))), (some (113, false)), true⟩,
  ⟨(some 117), .pick (.t 113) (.k (.c (.bool true))) (.t 116), none, true⟩,
  ⟨(some 118), .mv (.t 117), none, true⟩,
  ⟨(some 119), .mv (.t 14), (some (118, false)), true⟩,
  ⟨(some 120), .mv (.t 16), (some (118, false)), true⟩,
  ⟨(some 121), .bin .neq (.t 119) (.t 120), (some (118, false)), true⟩,
  ⟨(some 122), .pick (.t 118) (.k (.c (.bool true))) (.t 121), none, true⟩,
  ⟨(some 123), .mv (.t 122), none, true⟩,
  ⟨(some 124), .mv (.t 14), (some (123, false)), true⟩,
  ⟨(some 125), .call (.k (.fn 16 [])) [(.t 124)], (some (123, false)), true⟩,
  ⟨(some 126), .un .not (.t 125), (some (123, false)), true⟩,
  ⟨(some 127), .pick (.t 123) (.k (.c (.bool true))) (.t 126), none, true⟩,
  ⟨(some 128), .mv (.t 127), none, true⟩,
  ⟨(some 129), .mv (.t 14), (some (128, false)), true⟩,
  ⟨(some 130), .bin .eql (.t 129) (.k (.c (.int .i64 0))), (some (128, false)), true⟩,
  ⟨(some 131), .mv (.t 130), (some (128, false)), true⟩,
  ⟨(some 132), .mv (.t 13), (some (131, true)), true⟩,
  ⟨(some 133), .bin .lss (.t 132) (.k (.c (.int .i64 0))), (some (131, true)), true⟩,
  ⟨(some 134), .mv (.t 133), (some (131, true)), true⟩,
  ⟨(some 135), .mv (.t 13), (some (134, false)), true⟩,
  ⟨(some 136), .bin .gtr (.t 135) (.k (.c (.int .i64 100000))), (some (134, false)), true⟩,
  ⟨(some 137), .pick (.t 134) (.k (.c (.bool true))) (.t 136), (some (131, true)), true⟩,
  ⟨(some 138), .mv (.t 137), (some (131, true)), true⟩,
  ⟨(some 139), .mv (.t 15), (some (138, false)), true⟩,
  ⟨(some 140), .mv (.t 13), (some (138, false)), true⟩,
  ⟨(some 141), .mv (.t 2), (some (138, false)), true⟩,
  ⟨(some 142), .bin .add (.t 140) (.t 141), (some (138, false)), true⟩,
  ⟨(some 143), .bin .neq (.t 139) (.t 142), (some (138, false)), true⟩,
  ⟨(some 144), .pick (.t 138) (.k (.c (.bool true))) (.t 143), (some (131, true)), true⟩,
  ⟨(some 145), .pick (.t 131) (.t 144) (.k (.c (.bool false))), (some (128, false)), true⟩,
  ⟨(some 146), .pick (.t 128) (.k (.c (.bool true))) (.t 145), none, true⟩]
@[reducible] def o11_27 : List Ins := [⟨(some 6), .mv (.k (.c (.bool false))), none, true⟩]
@[reducible] def v11_28 : VC := (.seq (.ops o11_27) .ret)
@[reducible] def v11_29 : VC := (.cond (.t 146) v11_28 .skip)
@[reducible] def o11_30 : List Ins := [⟨(some 17), .mv (.k (.c (.int .i64 0))), none, true⟩]
@[reducible] def o11_31 : List Ins := [⟨(some 147), .mv (.t 17), none, true⟩,
  ⟨(some 148), .mv (.t 9), none, true⟩,
  ⟨(some 149), .len (.t 148), none, true⟩,
  ⟨(some 150), .bin .lss (.t 147) (.t 149), none, true⟩]
@[reducible] def v11_32 : VC := (.cond (.t 150) .skip (.exit 2))
@[reducible] def o11_33 : List Ins := [⟨(some 153), .mv (.t 9), none, false⟩,
  ⟨(some 154), .mv (.t 17), none, false⟩,
  ⟨(some 155), .ia 1 (.t 153) (.t 154), none, true⟩,
  ⟨(some 156), .ld true 1 (.t 155), none, true⟩,
  ⟨(some 157), .bin .lss (.t 156) (.k (.c (.int .i64 0))), none, true⟩,
  ⟨(some 158), .mv (.t 157), none, true⟩,
  ⟨(some 159), .mv (.t 9), (some (158, false)), false⟩,
  ⟨(some 160), .mv (.t 17), (some (158, false)), false⟩,
  ⟨(some 161), .ia 1 (.t 159) (.t 160), (some (158, false)), true⟩,
  ⟨(some 162), .ld true 1 (.t 161), (some (158, false)), true⟩,
  ⟨(some 163), .bin .gtr (.t 162) (.k (.c (.int .i64 100000))), (some (158, false)), true⟩,
  ⟨(some 164), .pick (.t 158) (.k (.c (.bool true))) (.t 163), none, true⟩,
  ⟨(some 165), .mv (.t 164), none, true⟩,
  ⟨(some 166), .mv (.t 11), (some (165, false)), false⟩,
  ⟨(some 167), .mv (.t 17), (some (165, false)), false⟩,
  ⟨(some 168), .ia 1 (.t 166) (.t 167), (some (165, false)), false⟩,
  ⟨(some 169), .ld true 1 (.t 168), (some (165, false)), false⟩,
  ⟨(some 170), .mv (.t 9), (some (165, false)), false⟩,
  ⟨(some 171), .mv (.t 17), (some (165, false)), false⟩,
  ⟨(some 172), .ia 1 (.t 170) (.t 171), (some (165, false)), false⟩,
  ⟨(some 173), .ld true 1 (.t 172), (some (165, false)), false⟩,
  ⟨(some 174), .mv (.t 2), (some (165, false)), false⟩,
  ⟨(some 175), .bin .add (.t 173) (.t 174), (some (165, false)), false⟩,
  ⟨(some 176), .bin .neq (.t 169) (.t 175), (some (165, false)), true⟩,
  ⟨(some 177), .pick (.t 165) (.k (.c (.bool true))) (.t 176), none, true⟩]
@[reducible] def o11_34 : List Ins := [⟨(some 6), .mv (.k (.c (.bool false))), none, true⟩]
@[reducible] def v11_35 : VC := (.seq (.ops o11_34) .ret)
@[reducible] def v11_36 : VC := (.cond (.t 177) v11_35 .skip)
@[reducible] def v11_37 : VC := (.seq (.ops o11_33) v11_36)
@[reducible] def o11_38 : List Ins := [⟨(some 151), .mv (.t 17), none, true⟩,
  ⟨(some 152), .bin .add (.t 151) (.k (.c (.int .i64 1))), none, true⟩,
  ⟨(some 17), .mv (.t 152), none, true⟩]
@[reducible] def v11_39 : VC := (.seq (.block 3 v11_37) (.ops o11_38))
@[reducible] def v11_40 : VC := (.seq (.seq (.ops o11_31) v11_32) v11_39)
-- K11_2: changed and kept: [17]
@[reducible] def K11_2 : List Nat := [2, 3, 7, 9, 11]
@[reducible] def v11_41 : VC := (.loop v11_40)
@[reducible] def v11_42 : VC := (.block 2 v11_41)
@[reducible] def o11_43 : List Ins := [⟨(some 179), .ld false 3 (.t 3), none, true⟩,
  ⟨(some 180), .call (.k (.fn 20 [])) [(.t 179)], none, true⟩,
  ⟨(some 178), .mv (.t 180), none, true⟩,
  ⟨(some 181), .ext (.t 178) 0, none, true⟩,
  ⟨(some 182), .ext (.t 178) 1, none, true⟩,
  ⟨(some 18), .mv (.t 181), none, true⟩,
  ⟨(some 10), .mv (.t 182), none, true⟩]
@[reducible] def o11_44 : List Ins := [⟨(some 184), .ld false 3 (.t 7), none, true⟩,
  ⟨(some 185), .call (.k (.fn 20 [])) [(.t 184)], none, true⟩,
  ⟨(some 183), .mv (.t 185), none, true⟩,
  ⟨(some 186), .ext (.t 183) 0, none, true⟩,
  ⟨(some 187), .ext (.t 183) 1, none, true⟩,
  ⟨(some 19), .mv (.t 186), none, true⟩,
  ⟨(some 12), .mv (.t 187), none, true⟩]
@[reducible] def o11_45 : List Ins := [⟨(some 189), .ld false 3 (.t 3), none, true⟩,
  ⟨(some 190), .call (.k (.fn 41 [])) [(.t 189)], none, true⟩,
  ⟨(some 188), .mv (.t 190), none, true⟩,
  ⟨(some 191), .ext (.t 188) 0, none, true⟩,
  ⟨(some 192), .ext (.t 188) 1, none, true⟩,
  ⟨(some 20), .mv (.t 191), none, true⟩,
  ⟨(some 14), .mv (.t 192), none, true⟩]
@[reducible] def o11_46 : List Ins := [⟨(some 194), .ld false 3 (.t 7), none, true⟩,
  ⟨(some 195), .call (.k (.fn 41 [])) [(.t 194)], none, true⟩,
  ⟨(some 193), .mv (.t 195), none, true⟩,
  ⟨(some 196), .ext (.t 193) 0, none, true⟩,
  ⟨(some 197), .ext (.t 193) 1, none, true⟩,
  ⟨(some 21), .mv (.t 196), none, true⟩,
  ⟨(some 16), .mv (.t 197), none, true⟩]
@[reducible] def o11_47 : List Ins := [⟨(some 198), .mv (.t 18), none, true⟩,
  ⟨(some 199), .mv (.t 19), none, true⟩,
  ⟨(some 200), .bin .neq (.t 198) (.t 199), none, true⟩,
  ⟨(some 201), .mv (.t 200), none, true⟩,
  ⟨(some 202), .mv (.t 10), (some (201, false)), true⟩,
  ⟨(some 203), .mv (.t 12), (some (201, false)), true⟩,
  ⟨(some 204), .bin .neq (.t 202) (.t 203), (some (201, false)), true⟩,
  ⟨(some 205), .pick (.t 201) (.k (.c (.bool true))) (.t 204), none, true⟩,
  ⟨(some 206), .mv (.t 205), none, true⟩,
  ⟨(some 207), .mv (.t 20), (some (206, false)), true⟩,
  ⟨(some 208), .mv (.t 21), (some (206, false)), true⟩,
  ⟨(some 209), .bin .neq (.t 207) (.t 208), (some (206, false)), true⟩,
  ⟨(some 210), .pick (.t 206) (.k (.c (.bool true))) (.t 209), none, true⟩,
  ⟨(some 211), .mv (.t 210), none, true⟩,
  ⟨(some 212), .mv (.t 14), (some (211, false)), true⟩,
  ⟨(some 213), .mv (.t 16), (some (211, false)), true⟩,
  ⟨(some 214), .bin .neq (.t 212) (.t 213), (some (211, false)), true⟩,
  ⟨(some 215), .pick (.t 211) (.k (.c (.bool true))) (.t 214), none, true⟩]
@[reducible] def o11_48 : List Ins := [⟨(some 6), .mv (.k (.c (.bool false))), none, true⟩]
@[reducible] def v11_49 : VC := (.seq (.ops o11_48) .ret)
@[reducible] def v11_50 : VC := (.cond (.t 215) v11_49 .skip)
@[reducible] def o11_51 : List Ins := [⟨(some 217), .ld false 3 (.t 3), none, true⟩,
  ⟨(some 218), .call (.k (.fn 38 [])) [(.t 217)], none, true⟩,
  ⟨(some 216), .mv (.t 218), none, true⟩,
  ⟨(some 219), .ext (.t 216) 0, none, true⟩,
  ⟨(some 220), .ext (.t 216) 1, none, true⟩,
  ⟨(some 22), .mv (.t 219), none, true⟩,
  ⟨(some 10), .mv (.t 220), none, true⟩]
@[reducible] def o11_52 : List Ins := [⟨(some 222), .ld false 3 (.t 7), none, true⟩,
  ⟨(some 223), .call (.k (.fn 38 [])) [(.t 222)], none, true⟩,
  ⟨(some 221), .mv (.t 223), none, true⟩,
  ⟨(some 224), .ext (.t 221) 0, none, true⟩,
  ⟨(some 225), .ext (.t 221) 1, none, true⟩,
  ⟨(some 23), .mv (.t 224), none, true⟩,
  ⟨(some 12), .mv (.t 225), none, true⟩]
@[reducible] def o11_53 : List Ins := [⟨(some 227), .ld false 3 (.t 3), none, true⟩,
  ⟨(some 228), .call (.k (.fn 42 [])) [(.t 227)], none, true⟩,
  ⟨(some 226), .mv (.t 228), none, true⟩,
  ⟨(some 229), .ext (.t 226) 0, none, true⟩,
  ⟨(some 230), .ext (.t 226) 1, none, true⟩,
  ⟨(some 24), .mv (.t 229), none, true⟩,
  ⟨(some 14), .mv (.t 230), none, true⟩]
@[reducible] def o11_54 : List Ins := [⟨(some 232), .ld false 3 (.t 7), none, true⟩,
  ⟨(some 233), .call (.k (.fn 42 [])) [(.t 232)], none, true⟩,
  ⟨(some 231), .mv (.t 233), none, true⟩,
  ⟨(some 234), .ext (.t 231) 0, none, true⟩,
  ⟨(some 235), .ext (.t 231) 1, none, true⟩,
  ⟨(some 25), .mv (.t 234), none, true⟩,
  ⟨(some 16), .mv (.t 235), none, true⟩]
@[reducible] def o11_55 : List Ins := [⟨(some 236), .mv (.t 22), none, true⟩,
  ⟨(some 237), .mv (.t 23), none, true⟩,
  ⟨(some 238), .call (.k (.fn 34 [])) [(.t 236), (.t 237)], none, true⟩,
  ⟨(some 239), .mv (.t 238), none, true⟩,
  ⟨(some 240), .mv (.t 10), (some (239, true)), true⟩,
  ⟨(some 241), .mv (.t 12), (some (239, true)), true⟩,
  ⟨(some 242), .bin .eql (.t 240) (.t 241), (some (239, true)), true⟩,
  ⟨(some 243), .pick (.t 239) (.t 242) (.k (.c (.bool false))), none, true⟩,
  ⟨(some 244), .mv (.t 243), none, true⟩,
  ⟨(some 245), .mv (.t 24), (some (244, true)), true⟩,
  ⟨(some 246), .mv (.t 25), (some (244, true)), true⟩,
  ⟨(some 247), .call (.k (.fn 34 [])) [(.t 245), (.t 246)], (some (244, true)), true⟩,
  ⟨(some 248), .pick (.t 244) (.t 247) (.k (.c (.bool false))), none, true⟩,
  ⟨(some 249), .mv (.t 248), none, true⟩,
  ⟨(some 250), .mv (.t 14), (some (249, true)), true⟩,
  ⟨(some 251), .mv (.t 16), (some (249, true)), true⟩,
  ⟨(some 252), .bin .eql (.t 250) (.t 251), (some (249, true)), true⟩,
  ⟨(some 253), .pick (.t 249) (.t 252) (.k (.c (.bool false))), none, true⟩,
  ⟨(some 254), .mv (.t 253), none, true⟩,
  ⟨(some 255), .call (.k (.fn 14 [])) [], (some (254, true)), true⟩,
  ⟨(some 256), .pick (.t 254) (.t 255) (.k (.c (.bool false))), none, true⟩,
  ⟨(some 6), .mv (.t 256), none, true⟩]
@[reducible] def v11_56 : VC := (.seq (.ops o11_55) .ret)
@[reducible] def v11_57 : VC := (.seq (.ops o11_54) v11_56)
@[reducible] def v11_58 : VC := (.seq (.ops o11_53) v11_57)
@[reducible] def v11_59 : VC := (.seq (.ops o11_52) v11_58)
@[reducible] def v11_60 : VC := (.seq (.ops o11_51) v11_59)
@[reducible] def v11_61 : VC := (.seq (.seq (.ops o11_47) v11_50) v11_60)
@[reducible] def v11_62 : VC := (.seq (.ops o11_46) v11_61)
@[reducible] def v11_63 : VC := (.seq (.ops o11_45) v11_62)
@[reducible] def v11_64 : VC := (.seq (.ops o11_44) v11_63)
@[reducible] def v11_65 : VC := (.seq (.ops o11_43) v11_64)
@[reducible] def v11_66 : VC := (.seq (.seq (.ops o11_30) v11_42) v11_65)
@[reducible] def v11_67 : VC := (.seq (.seq (.ops o11_26) v11_29) v11_66)
@[reducible] def v11_68 : VC := (.seq (.ops o11_25) v11_67)
@[reducible] def v11_69 : VC := (.seq (.ops o11_24) v11_68)
@[reducible] def v11_70 : VC := (.seq (.ops o11_23) v11_69)
@[reducible] def v11_71 : VC := (.seq (.ops o11_22) v11_70)
@[reducible] def v11_72 : VC := (.seq (.seq (.ops o11_18) v11_21) v11_71)
@[reducible] def v11_73 : VC := (.seq (.seq (.ops o11_7) v11_17) v11_72)
@[reducible] def v11_74 : VC := (.seq (.ops o11_6) v11_73)
@[reducible] def v11_75 : VC := (.seq (.ops o11_5) v11_74)
@[reducible] def v11_76 : VC := (.seq (.seq (.ops o11_1) v11_4) v11_75)
def ir11 : FC := ⟨3, 257, [.t 6], (.seq (.ops o11_0) v11_76)⟩
theorem c11 : compM Try.prog [] 11 = some ir11 := by kernel_rfl



set_option maxRecDepth 20000 in
set_option maxHeartbeats 16000000 in
theorem tail11 {C : Ctx} (hP : C.P = Try.prog) (r : Route) (l : List Int) (b : Int) (hok : r.ok = true) (hb : 0 ≤ b ∧ b ≤ 1440) (hlen : l.length ≤ 20) :
    WV C v11_72 (RetQ [.t 6] (.c (.bool true))) ⟨upd (upd (upd (upd e0 1 (.c (ints l))) 2 (iv b)) 3 (.bp 3 0)) 7 (.bp 7 0), upd (upd o0 3 (.box [.c (stopsC r.stops), .c (driveC r.drive), iv r.start])) 7 (.box [.c (stopsC (shiftR r b).stops), .c (driveC r.drive), iv (r.start + b)])⟩ := by
  have ho : (shiftR r b).av = .agg [.c (stopsC (shiftR r b).stops), .c (driveC r.drive), iv (r.start + b)] := rfl
  have hready := ready13 (shiftR r b)
  rw [ho] at hready
  (repeat ((first | refine WV_seq_ ?_ | refine WV_block ?_ | refine WV_ops ?_ | refine WV_skip ?_ | refine WV_exit ?_); (try simp (maxSteps := 2000000) only [go_sem, init_env', Nat.reduceEqDiff, Nat.reduceAdd, Nat.reduceMul, reduceIte, Nat.reduceLeDiff, Nat.reduceLT, Nat.reduceBEq, reduceCtorEq, hP, ]); (repeat (refine And.intro (by first | omega | (intros; simp_all; done) | (intros; simp_all; omega)) ?_))))
  (refine AS_pure (hready) rfl rfl rfl rfl rfl ?_; simp (maxSteps := 2000000) only [go_sem, init_env', Nat.reduceEqDiff, Nat.reduceAdd, Nat.reduceMul, reduceIte, Nat.reduceLeDiff, Nat.reduceLT, Nat.reduceBEq, reduceCtorEq, hP, Route.av]; (repeat (refine And.intro (by first | omega | (intros; simp_all; done) | (intros; simp_all; omega)) ?_)); (repeat ((first | refine WV_seq_ ?_ | refine WV_block ?_ | refine WV_ops ?_ | refine WV_skip ?_ | refine WV_exit ?_); (try simp (maxSteps := 2000000) only [go_sem, init_env', Nat.reduceEqDiff, Nat.reduceAdd, Nat.reduceMul, reduceIte, Nat.reduceLeDiff, Nat.reduceLT, Nat.reduceBEq, reduceCtorEq, hP, Route.av]); (repeat (refine And.intro (by first | omega | (intros; simp_all; done) | (intros; simp_all; omega)) ?_)))))
  by_cases hrd : readyS (shiftR r b) = true
  rotate_left
  · have hrd : readyS (shiftR r b) = false := by simpa using hrd
    rw [hrd]
    (refine WV_cond rfl (fun h => ?_) (fun h => ?_))
    · (repeat ((first | refine WV_seq_ ?_ | refine WV_block ?_ | refine WV_ops ?_ | refine WV_skip ?_ | refine WV_exit ?_); (try simp (maxSteps := 2000000) only [go_sem, init_env', Nat.reduceEqDiff, Nat.reduceAdd, Nat.reduceMul, reduceIte, Nat.reduceLeDiff, Nat.reduceLT, Nat.reduceBEq, reduceCtorEq, hP, ]); (repeat (refine And.intro (by first | omega | (intros; simp_all; done) | (intros; simp_all; omega)) ?_))))
      (refine AS_pure (works14) rfl rfl rfl rfl rfl ?_; simp (maxSteps := 2000000) only [go_sem, init_env', Nat.reduceEqDiff, Nat.reduceAdd, Nat.reduceMul, reduceIte, Nat.reduceLeDiff, Nat.reduceLT, Nat.reduceBEq, reduceCtorEq, hP, ]; (repeat (refine And.intro (by first | omega | (intros; simp_all; done) | (intros; simp_all; omega)) ?_)); (repeat ((first | refine WV_seq_ ?_ | refine WV_block ?_ | refine WV_ops ?_ | refine WV_skip ?_ | refine WV_exit ?_); (try simp (maxSteps := 2000000) only [go_sem, init_env', Nat.reduceEqDiff, Nat.reduceAdd, Nat.reduceMul, reduceIte, Nat.reduceLeDiff, Nat.reduceLT, Nat.reduceBEq, reduceCtorEq, hP, ]); (repeat (refine And.intro (by first | omega | (intros; simp_all; done) | (intros; simp_all; omega)) ?_)))))
      (refine WV_ret ?_; simp only [thenQ, inQ, RetQ, RetOk, resAll, resA]; simp (maxSteps := 2000000) only [go_sem, init_env', Nat.reduceEqDiff, Nat.reduceAdd, Nat.reduceMul, reduceIte, Nat.reduceLeDiff, Nat.reduceLT, Nat.reduceBEq, reduceCtorEq, tupA, AV.port, AV.portL, exists_eq_left', ]; (first | exact AVle.of rfl | refine AVle.of ?_ | skip))
    · simp at h
  rw [hrd]
  (refine WV_cond rfl (fun h => ?_) (fun h => ?_))
  · simp at h
  clear h
  obtain ⟨hok', _⟩ := readyS_of hrd
  have hr := Route.ok_spec hok
  have hr' := Route.ok_spec hok'
  obtain ⟨ht1, ht2, ht3⟩ := timesS_shift hok hok' l
  obtain ⟨hs1, hs2⟩ := soon_shift hok hok'
  have c1 := times28 r l hlen
  have c2 := times28 (shiftR r b) l hlen
  rw [ht1, ho] at c2
  have c3 := soon35 r
  rw [soon_eq] at c3
  have c4 := soon35 (shiftR r b)
  rw [soon_eq, ho] at c4
  have c5 := shortest20 r
  rw [shortest_eq] at c5
  have c6 := shortest20 (shiftR r b)
  rw [shortest_eq, short_shift hok hok', ho] at c6
  have c7 := most41 r
  rw [most_eq] at c7
  have c8 := most41 (shiftR r b)
  rw [most_eq, most_shift hok hok', ho] at c8
  have c9 := firsts38 r
  rw [first_eq] at c9
  have c10 := firsts38 (shiftR r b)
  rw [first_eq, first_shift hok hok', ho] at c10
  have c11 := shut42 r
  rw [shut_eq] at c11
  have c12 := shut42 (shiftR r b)
  rw [shut_eq, shut_shift hok hok', ho] at c12
  generalize timesS r l = T at *
  have hd7 : decide (7 < (T.1.length : Int)) = false := by simp; omega
  have h03 : errR r = 0 ∨ errR r = 3 := by
    unfold errR
    rw [if_pos hok]
    split
    · exact .inr rfl
    · exact .inl rfl
  rcases h03 with he | he
  · obtain ⟨k1, k2, k3, k4⟩ := hs1 he
    rw [k1] at c4
    rw [show rsoonS r = ((rsoonS r).1, 0) from by rw [← k2]] at c3
    generalize (rsoonS r).1 = a at *
    have hw := w64 (n := a + b) (by omega) (by omega)
    have hd1 : decide (a < 0) = false := by simp; omega
    have hd2 : decide (100000 < a) = false := by simp; omega
    (repeat ((first | refine WV_seq_ ?_ | refine WV_block ?_ | refine WV_ops ?_ | refine WV_skip ?_ | refine WV_exit ?_); (try simp (maxSteps := 2000000) only [go_sem, init_env', Nat.reduceEqDiff, Nat.reduceAdd, Nat.reduceMul, reduceIte, Nat.reduceLeDiff, Nat.reduceLT, Nat.reduceBEq, reduceCtorEq, hP, ]); (repeat (refine And.intro (by first | omega | (intros; simp_all; done) | (intros; simp_all; omega)) ?_))))
    (refine AS_pure (c1) rfl rfl rfl rfl rfl ?_; simp (maxSteps := 2000000) only [go_sem, init_env', Nat.reduceEqDiff, Nat.reduceAdd, Nat.reduceMul, reduceIte, Nat.reduceLeDiff, Nat.reduceLT, Nat.reduceBEq, reduceCtorEq, hP, Route.av]; (repeat (refine And.intro (by first | omega | (intros; simp_all; done) | (intros; simp_all; omega)) ?_)); (repeat ((first | refine WV_seq_ ?_ | refine WV_block ?_ | refine WV_ops ?_ | refine WV_skip ?_ | refine WV_exit ?_); (try simp (maxSteps := 2000000) only [go_sem, init_env', Nat.reduceEqDiff, Nat.reduceAdd, Nat.reduceMul, reduceIte, Nat.reduceLeDiff, Nat.reduceLT, Nat.reduceBEq, reduceCtorEq, hP, Route.av]); (repeat (refine And.intro (by first | omega | (intros; simp_all; done) | (intros; simp_all; omega)) ?_)))))
    (refine AS_pure (c2) rfl rfl rfl rfl rfl ?_; simp (maxSteps := 2000000) only [go_sem, init_env', Nat.reduceEqDiff, Nat.reduceAdd, Nat.reduceMul, reduceIte, Nat.reduceLeDiff, Nat.reduceLT, Nat.reduceBEq, reduceCtorEq, hP, Route.av]; (repeat (refine And.intro (by first | omega | (intros; simp_all; done) | (intros; simp_all; omega)) ?_)); (repeat ((first | refine WV_seq_ ?_ | refine WV_block ?_ | refine WV_ops ?_ | refine WV_skip ?_ | refine WV_exit ?_); (try simp (maxSteps := 2000000) only [go_sem, init_env', Nat.reduceEqDiff, Nat.reduceAdd, Nat.reduceMul, reduceIte, Nat.reduceLeDiff, Nat.reduceLT, Nat.reduceBEq, reduceCtorEq, hP, Route.av]); (repeat (refine And.intro (by first | omega | (intros; simp_all; done) | (intros; simp_all; omega)) ?_)))))
    (refine AS_pure (c3) rfl rfl rfl rfl rfl ?_; simp (maxSteps := 2000000) only [go_sem, init_env', Nat.reduceEqDiff, Nat.reduceAdd, Nat.reduceMul, reduceIte, Nat.reduceLeDiff, Nat.reduceLT, Nat.reduceBEq, reduceCtorEq, hP, Route.av]; (repeat (refine And.intro (by first | omega | (intros; simp_all; done) | (intros; simp_all; omega)) ?_)); (repeat ((first | refine WV_seq_ ?_ | refine WV_block ?_ | refine WV_ops ?_ | refine WV_skip ?_ | refine WV_exit ?_); (try simp (maxSteps := 2000000) only [go_sem, init_env', Nat.reduceEqDiff, Nat.reduceAdd, Nat.reduceMul, reduceIte, Nat.reduceLeDiff, Nat.reduceLT, Nat.reduceBEq, reduceCtorEq, hP, Route.av]); (repeat (refine And.intro (by first | omega | (intros; simp_all; done) | (intros; simp_all; omega)) ?_)))))
    (refine AS_pure (c4) rfl rfl rfl rfl rfl ?_; simp (maxSteps := 2000000) only [go_sem, init_env', Nat.reduceEqDiff, Nat.reduceAdd, Nat.reduceMul, reduceIte, Nat.reduceLeDiff, Nat.reduceLT, Nat.reduceBEq, reduceCtorEq, hP, Route.av, bne_self_eq_false, ints, List.length_map, hd7]; (repeat (refine And.intro (by first | omega | (intros; simp_all; done) | (intros; simp_all; omega)) ?_)); (repeat ((first | refine WV_seq_ ?_ | refine WV_block ?_ | refine WV_ops ?_ | refine WV_skip ?_ | refine WV_exit ?_); (try simp (maxSteps := 2000000) only [go_sem, init_env', Nat.reduceEqDiff, Nat.reduceAdd, Nat.reduceMul, reduceIte, Nat.reduceLeDiff, Nat.reduceLT, Nat.reduceBEq, reduceCtorEq, hP, Route.av, bne_self_eq_false, ints, List.length_map, hd7]); (repeat (refine And.intro (by first | omega | (intros; simp_all; done) | (intros; simp_all; omega)) ?_)))))
    (refine AG_pure (fun hG => known16 0) rfl (fun hG => by simp (maxSteps := 2000000) only [go_sem, init_env', Nat.reduceEqDiff, Nat.reduceAdd, Nat.reduceMul, reduceIte, Nat.reduceLeDiff, Nat.reduceLT, Nat.reduceBEq, reduceCtorEq, hG]) rfl rfl rfl ?_; simp (maxSteps := 2000000) only [go_sem, init_env', Nat.reduceEqDiff, Nat.reduceAdd, Nat.reduceMul, reduceIte, Nat.reduceLeDiff, Nat.reduceLT, Nat.reduceBEq, reduceCtorEq, hP, knownS, beq_self_eq_true, bne_self_eq_false, hd1, hd2, hw]; (repeat (refine And.intro (by first | omega | (intros; simp_all; done) | (intros; simp_all; omega)) ?_)); (repeat ((first | refine WV_seq_ ?_ | refine WV_block ?_ | refine WV_ops ?_ | refine WV_skip ?_ | refine WV_exit ?_); (try simp (maxSteps := 2000000) only [go_sem, init_env', Nat.reduceEqDiff, Nat.reduceAdd, Nat.reduceMul, reduceIte, Nat.reduceLeDiff, Nat.reduceLT, Nat.reduceBEq, reduceCtorEq, hP, knownS, beq_self_eq_true, bne_self_eq_false, hd1, hd2, hw]); (repeat (refine And.intro (by first | omega | (intros; simp_all; done) | (intros; simp_all; omega)) ?_)))))
    (refine WV_cond rfl (fun h => ?_) (fun h => ?_))
    · simp at h
    clear h
    (repeat ((first | refine WV_seq_ ?_ | refine WV_block ?_ | refine WV_ops ?_ | refine WV_skip ?_ | refine WV_exit ?_); (try simp (maxSteps := 2000000) only [go_sem, init_env', Nat.reduceEqDiff, Nat.reduceAdd, Nat.reduceMul, reduceIte, Nat.reduceLeDiff, Nat.reduceLT, Nat.reduceBEq, reduceCtorEq, hP, ]); (repeat (refine And.intro (by first | omega | (intros; simp_all; done) | (intros; simp_all; omega)) ?_))))
    refine WV_loopK K11_2 [] (fun k : Nat => k ≤ T.1.length) (fun k => T.1.length - k) (fun k => [(17, iv k)]) (fun _ => []) 0 (Nat.zero_le _) ?_ ?_
    · (refine Sub_of (by simp (maxSteps := 2000000) only [go_sem, init_env', Nat.reduceEqDiff, Nat.reduceAdd, Nat.reduceMul, reduceIte, Nat.reduceLeDiff, Nat.reduceLT, Nat.reduceBEq, reduceCtorEq]; ((repeat' (first | exact EnvLe_e0 _ _ | refine EnvLe_upd ?_ ?_)) <;> ((try simp only [upd_app, e0_app, o0_app, Nat.reduceEqDiff, reduceIte]); first | exact AWk.refl _ _ | exact AWk.int (by omega) | exact AWk.int (by rw [w64 (by omega) (by omega)]; omega) | exact AWk.grow rfl | exact AWk.nil _ | exact AWk.of (by simp)))) (by simp (maxSteps := 2000000) only [go_sem, init_env', Nat.reduceEqDiff, Nat.reduceAdd, Nat.reduceMul, reduceIte, Nat.reduceLeDiff, Nat.reduceLT, Nat.reduceBEq, reduceCtorEq]; ((repeat' (first | exact ObjLe_o0 _ | exact ObjLe.rfl' _ | refine ObjLe_same ?_ | refine ObjLe_upd ?_ ?_ | refine ObjLe_new rfl ?_)) <;> rfl)))
    · intro k hk
      simp (maxSteps := 2000000) only [go_sem, init_env', Nat.reduceEqDiff, Nat.reduceAdd, Nat.reduceMul, reduceIte, Nat.reduceLeDiff, Nat.reduceLT, Nat.reduceBEq, reduceCtorEq]
      (repeat ((first | refine WV_seq_ ?_ | refine WV_block ?_ | refine WV_ops ?_ | refine WV_skip ?_ | refine WV_exit ?_); (try simp (maxSteps := 2000000) only [go_sem, init_env', Nat.reduceEqDiff, Nat.reduceAdd, Nat.reduceMul, reduceIte, Nat.reduceLeDiff, Nat.reduceLT, Nat.reduceBEq, reduceCtorEq, hP, List.length_map]); (repeat (refine And.intro (by first | omega | (intros; simp_all; done) | (intros; simp_all; omega)) ?_))))
      (refine WV_cond rfl (fun h => ?_) (fun h => ?_))
      · have h : k < T.1.length := by simpa using h
        have hw2 := w64 (n := (k : Int) + 1) (by omega) (by omega)
        have hx := ht3 _ (List.getElem_mem h)
        have hml : k < (T.1.map (· + b)).length := by simpa using h
        have hw3 := w64 (n := T.1[k] + b) (by omega) (by omega)
        have hda : decide (T.1[k] < 0) = false := by simp; omega
        have hdb : decide (100000 < T.1[k]) = false := by simp; omega
        (repeat ((first | refine WV_seq_ ?_ | refine WV_block ?_ | refine WV_ops ?_ | refine WV_skip ?_ | refine WV_exit ?_); (try simp (maxSteps := 2000000) only [go_sem, init_env', Nat.reduceEqDiff, Nat.reduceAdd, Nat.reduceMul, reduceIte, Nat.reduceLeDiff, Nat.reduceLT, Nat.reduceBEq, reduceCtorEq, hP, Int.toNat_natCast, map_getD h, map_getD hml, List.getElem_map, List.length_map, Int.ofNat_lt, h, Int.natCast_nonneg, ints, hw3, hda, hdb, bne_self_eq_false]); (repeat (refine And.intro (by first | omega | (intros; simp_all; done) | (intros; simp_all; omega)) ?_))))
        (refine WV_cond rfl (fun h => ?_) (fun h => ?_))
        · simp at h
        · (repeat ((first | refine WV_seq_ ?_ | refine WV_block ?_ | refine WV_ops ?_ | refine WV_skip ?_ | refine WV_exit ?_); (try simp (maxSteps := 2000000) only [go_sem, init_env', Nat.reduceEqDiff, Nat.reduceAdd, Nat.reduceMul, reduceIte, Nat.reduceLeDiff, Nat.reduceLT, Nat.reduceBEq, reduceCtorEq, hP, hw2]); (repeat (refine And.intro (by first | omega | (intros; simp_all; done) | (intros; simp_all; omega)) ?_))))
          refine ⟨k + 1, by omega, by omega, ?_⟩
          (refine Sub_of (by simp (maxSteps := 2000000) only [go_sem, init_env', Nat.reduceEqDiff, Nat.reduceAdd, Nat.reduceMul, reduceIte, Nat.reduceLeDiff, Nat.reduceLT, Nat.reduceBEq, reduceCtorEq]; ((repeat' (first | exact EnvLe_e0 _ _ | refine EnvLe_upd ?_ ?_)) <;> ((try simp only [upd_app, e0_app, o0_app, Nat.reduceEqDiff, reduceIte]); first | exact AWk.refl _ _ | exact AWk.int (by omega) | exact AWk.int (by rw [w64 (by omega) (by omega)]; omega) | exact AWk.grow rfl | exact AWk.nil _ | exact AWk.of (by simp)))) (by simp (maxSteps := 2000000) only [go_sem, init_env', Nat.reduceEqDiff, Nat.reduceAdd, Nat.reduceMul, reduceIte, Nat.reduceLeDiff, Nat.reduceLT, Nat.reduceBEq, reduceCtorEq]; ((repeat' (first | exact ObjLe_o0 _ | exact ObjLe.rfl' _ | refine ObjLe_same ?_ | refine ObjLe_upd ?_ ?_ | refine ObjLe_new rfl ?_)) <;> rfl)))
      · have h : k = T.1.length := by simp at h; omega
        subst h
        (repeat ((first | refine WV_seq_ ?_ | refine WV_block ?_ | refine WV_ops ?_ | refine WV_skip ?_ | refine WV_exit ?_); (try simp (maxSteps := 2000000) only [go_sem, init_env', Nat.reduceEqDiff, Nat.reduceAdd, Nat.reduceMul, reduceIte, Nat.reduceLeDiff, Nat.reduceLT, Nat.reduceBEq, reduceCtorEq, hP, ]); (repeat (refine And.intro (by first | omega | (intros; simp_all; done) | (intros; simp_all; omega)) ?_))))
        (refine AS_pure (c5) rfl rfl rfl rfl rfl ?_; simp (maxSteps := 2000000) only [go_sem, init_env', Nat.reduceEqDiff, Nat.reduceAdd, Nat.reduceMul, reduceIte, Nat.reduceLeDiff, Nat.reduceLT, Nat.reduceBEq, reduceCtorEq, hP, Route.av]; (repeat (refine And.intro (by first | omega | (intros; simp_all; done) | (intros; simp_all; omega)) ?_)); (repeat ((first | refine WV_seq_ ?_ | refine WV_block ?_ | refine WV_ops ?_ | refine WV_skip ?_ | refine WV_exit ?_); (try simp (maxSteps := 2000000) only [go_sem, init_env', Nat.reduceEqDiff, Nat.reduceAdd, Nat.reduceMul, reduceIte, Nat.reduceLeDiff, Nat.reduceLT, Nat.reduceBEq, reduceCtorEq, hP, Route.av]); (repeat (refine And.intro (by first | omega | (intros; simp_all; done) | (intros; simp_all; omega)) ?_)))))
        (refine AS_pure (c6) rfl rfl rfl rfl rfl ?_; simp (maxSteps := 2000000) only [go_sem, init_env', Nat.reduceEqDiff, Nat.reduceAdd, Nat.reduceMul, reduceIte, Nat.reduceLeDiff, Nat.reduceLT, Nat.reduceBEq, reduceCtorEq, hP, Route.av]; (repeat (refine And.intro (by first | omega | (intros; simp_all; done) | (intros; simp_all; omega)) ?_)); (repeat ((first | refine WV_seq_ ?_ | refine WV_block ?_ | refine WV_ops ?_ | refine WV_skip ?_ | refine WV_exit ?_); (try simp (maxSteps := 2000000) only [go_sem, init_env', Nat.reduceEqDiff, Nat.reduceAdd, Nat.reduceMul, reduceIte, Nat.reduceLeDiff, Nat.reduceLT, Nat.reduceBEq, reduceCtorEq, hP, Route.av]); (repeat (refine And.intro (by first | omega | (intros; simp_all; done) | (intros; simp_all; omega)) ?_)))))
        (refine AS_pure (c7) rfl rfl rfl rfl rfl ?_; simp (maxSteps := 2000000) only [go_sem, init_env', Nat.reduceEqDiff, Nat.reduceAdd, Nat.reduceMul, reduceIte, Nat.reduceLeDiff, Nat.reduceLT, Nat.reduceBEq, reduceCtorEq, hP, Route.av]; (repeat (refine And.intro (by first | omega | (intros; simp_all; done) | (intros; simp_all; omega)) ?_)); (repeat ((first | refine WV_seq_ ?_ | refine WV_block ?_ | refine WV_ops ?_ | refine WV_skip ?_ | refine WV_exit ?_); (try simp (maxSteps := 2000000) only [go_sem, init_env', Nat.reduceEqDiff, Nat.reduceAdd, Nat.reduceMul, reduceIte, Nat.reduceLeDiff, Nat.reduceLT, Nat.reduceBEq, reduceCtorEq, hP, Route.av]); (repeat (refine And.intro (by first | omega | (intros; simp_all; done) | (intros; simp_all; omega)) ?_)))))
        (refine AS_pure (c8) rfl rfl rfl rfl rfl ?_; simp (maxSteps := 2000000) only [go_sem, init_env', Nat.reduceEqDiff, Nat.reduceAdd, Nat.reduceMul, reduceIte, Nat.reduceLeDiff, Nat.reduceLT, Nat.reduceBEq, reduceCtorEq, hP, Route.av, bne_self_eq_false]; (repeat (refine And.intro (by first | omega | (intros; simp_all; done) | (intros; simp_all; omega)) ?_)); (repeat ((first | refine WV_seq_ ?_ | refine WV_block ?_ | refine WV_ops ?_ | refine WV_skip ?_ | refine WV_exit ?_); (try simp (maxSteps := 2000000) only [go_sem, init_env', Nat.reduceEqDiff, Nat.reduceAdd, Nat.reduceMul, reduceIte, Nat.reduceLeDiff, Nat.reduceLT, Nat.reduceBEq, reduceCtorEq, hP, Route.av, bne_self_eq_false]); (repeat (refine And.intro (by first | omega | (intros; simp_all; done) | (intros; simp_all; omega)) ?_)))))
        (refine WV_cond rfl (fun h => ?_) (fun h => ?_))
        · simp at h
        clear h
        (repeat ((first | refine WV_seq_ ?_ | refine WV_block ?_ | refine WV_ops ?_ | refine WV_skip ?_ | refine WV_exit ?_); (try simp (maxSteps := 2000000) only [go_sem, init_env', Nat.reduceEqDiff, Nat.reduceAdd, Nat.reduceMul, reduceIte, Nat.reduceLeDiff, Nat.reduceLT, Nat.reduceBEq, reduceCtorEq, hP, ]); (repeat (refine And.intro (by first | omega | (intros; simp_all; done) | (intros; simp_all; omega)) ?_))))
        (refine AS_pure (c9) rfl rfl rfl rfl rfl ?_; simp (maxSteps := 2000000) only [go_sem, init_env', Nat.reduceEqDiff, Nat.reduceAdd, Nat.reduceMul, reduceIte, Nat.reduceLeDiff, Nat.reduceLT, Nat.reduceBEq, reduceCtorEq, hP, Route.av]; (repeat (refine And.intro (by first | omega | (intros; simp_all; done) | (intros; simp_all; omega)) ?_)); (repeat ((first | refine WV_seq_ ?_ | refine WV_block ?_ | refine WV_ops ?_ | refine WV_skip ?_ | refine WV_exit ?_); (try simp (maxSteps := 2000000) only [go_sem, init_env', Nat.reduceEqDiff, Nat.reduceAdd, Nat.reduceMul, reduceIte, Nat.reduceLeDiff, Nat.reduceLT, Nat.reduceBEq, reduceCtorEq, hP, Route.av]); (repeat (refine And.intro (by first | omega | (intros; simp_all; done) | (intros; simp_all; omega)) ?_)))))
        (refine AS_pure (c10) rfl rfl rfl rfl rfl ?_; simp (maxSteps := 2000000) only [go_sem, init_env', Nat.reduceEqDiff, Nat.reduceAdd, Nat.reduceMul, reduceIte, Nat.reduceLeDiff, Nat.reduceLT, Nat.reduceBEq, reduceCtorEq, hP, Route.av]; (repeat (refine And.intro (by first | omega | (intros; simp_all; done) | (intros; simp_all; omega)) ?_)); (repeat ((first | refine WV_seq_ ?_ | refine WV_block ?_ | refine WV_ops ?_ | refine WV_skip ?_ | refine WV_exit ?_); (try simp (maxSteps := 2000000) only [go_sem, init_env', Nat.reduceEqDiff, Nat.reduceAdd, Nat.reduceMul, reduceIte, Nat.reduceLeDiff, Nat.reduceLT, Nat.reduceBEq, reduceCtorEq, hP, Route.av]); (repeat (refine And.intro (by first | omega | (intros; simp_all; done) | (intros; simp_all; omega)) ?_)))))
        (refine AS_pure (c11) rfl rfl rfl rfl rfl ?_; simp (maxSteps := 2000000) only [go_sem, init_env', Nat.reduceEqDiff, Nat.reduceAdd, Nat.reduceMul, reduceIte, Nat.reduceLeDiff, Nat.reduceLT, Nat.reduceBEq, reduceCtorEq, hP, Route.av]; (repeat (refine And.intro (by first | omega | (intros; simp_all; done) | (intros; simp_all; omega)) ?_)); (repeat ((first | refine WV_seq_ ?_ | refine WV_block ?_ | refine WV_ops ?_ | refine WV_skip ?_ | refine WV_exit ?_); (try simp (maxSteps := 2000000) only [go_sem, init_env', Nat.reduceEqDiff, Nat.reduceAdd, Nat.reduceMul, reduceIte, Nat.reduceLeDiff, Nat.reduceLT, Nat.reduceBEq, reduceCtorEq, hP, Route.av]); (repeat (refine And.intro (by first | omega | (intros; simp_all; done) | (intros; simp_all; omega)) ?_)))))
        (refine AS_pure (c12) rfl rfl rfl rfl rfl ?_; simp (maxSteps := 2000000) only [go_sem, init_env', Nat.reduceEqDiff, Nat.reduceAdd, Nat.reduceMul, reduceIte, Nat.reduceLeDiff, Nat.reduceLT, Nat.reduceBEq, reduceCtorEq, hP, Route.av]; (repeat (refine And.intro (by first | omega | (intros; simp_all; done) | (intros; simp_all; omega)) ?_)); (repeat ((first | refine WV_seq_ ?_ | refine WV_block ?_ | refine WV_ops ?_ | refine WV_skip ?_ | refine WV_exit ?_); (try simp (maxSteps := 2000000) only [go_sem, init_env', Nat.reduceEqDiff, Nat.reduceAdd, Nat.reduceMul, reduceIte, Nat.reduceLeDiff, Nat.reduceLT, Nat.reduceBEq, reduceCtorEq, hP, Route.av]); (repeat (refine And.intro (by first | omega | (intros; simp_all; done) | (intros; simp_all; omega)) ?_)))))
        (refine AS_pure (same34 (rfirstS r).1 (rfirstS r).1) rfl rfl rfl rfl rfl ?_; simp (maxSteps := 2000000) only [go_sem, init_env', Nat.reduceEqDiff, Nat.reduceAdd, Nat.reduceMul, reduceIte, Nat.reduceLeDiff, Nat.reduceLT, Nat.reduceBEq, reduceCtorEq, hP, beq_self_eq_true, decide_true]; (repeat (refine And.intro (by first | omega | (intros; simp_all; done) | (intros; simp_all; omega)) ?_)); (repeat ((first | refine WV_seq_ ?_ | refine WV_block ?_ | refine WV_ops ?_ | refine WV_skip ?_ | refine WV_exit ?_); (try simp (maxSteps := 2000000) only [go_sem, init_env', Nat.reduceEqDiff, Nat.reduceAdd, Nat.reduceMul, reduceIte, Nat.reduceLeDiff, Nat.reduceLT, Nat.reduceBEq, reduceCtorEq, hP, beq_self_eq_true, decide_true]); (repeat (refine And.intro (by first | omega | (intros; simp_all; done) | (intros; simp_all; omega)) ?_)))))
        (refine AG_pure (fun hG => same34 (rshutS r).1 (rshutS r).1) rfl (fun hG => by simp (maxSteps := 2000000) only [go_sem, init_env', Nat.reduceEqDiff, Nat.reduceAdd, Nat.reduceMul, reduceIte, Nat.reduceLeDiff, Nat.reduceLT, Nat.reduceBEq, reduceCtorEq, hG]) rfl rfl rfl ?_; simp (maxSteps := 2000000) only [go_sem, init_env', Nat.reduceEqDiff, Nat.reduceAdd, Nat.reduceMul, reduceIte, Nat.reduceLeDiff, Nat.reduceLT, Nat.reduceBEq, reduceCtorEq, hP, beq_self_eq_true, decide_true]; (repeat (refine And.intro (by first | omega | (intros; simp_all; done) | (intros; simp_all; omega)) ?_)); (repeat ((first | refine WV_seq_ ?_ | refine WV_block ?_ | refine WV_ops ?_ | refine WV_skip ?_ | refine WV_exit ?_); (try simp (maxSteps := 2000000) only [go_sem, init_env', Nat.reduceEqDiff, Nat.reduceAdd, Nat.reduceMul, reduceIte, Nat.reduceLeDiff, Nat.reduceLT, Nat.reduceBEq, reduceCtorEq, hP, beq_self_eq_true, decide_true]); (repeat (refine And.intro (by first | omega | (intros; simp_all; done) | (intros; simp_all; omega)) ?_)))))
        (refine AG_pure (fun hG => works14) rfl (fun hG => by simp (maxSteps := 2000000) only [go_sem, init_env', Nat.reduceEqDiff, Nat.reduceAdd, Nat.reduceMul, reduceIte, Nat.reduceLeDiff, Nat.reduceLT, Nat.reduceBEq, reduceCtorEq, hG]) rfl rfl rfl ?_; simp (maxSteps := 2000000) only [go_sem, init_env', Nat.reduceEqDiff, Nat.reduceAdd, Nat.reduceMul, reduceIte, Nat.reduceLeDiff, Nat.reduceLT, Nat.reduceBEq, reduceCtorEq, hP, ]; (repeat (refine And.intro (by first | omega | (intros; simp_all; done) | (intros; simp_all; omega)) ?_)); (repeat ((first | refine WV_seq_ ?_ | refine WV_block ?_ | refine WV_ops ?_ | refine WV_skip ?_ | refine WV_exit ?_); (try simp (maxSteps := 2000000) only [go_sem, init_env', Nat.reduceEqDiff, Nat.reduceAdd, Nat.reduceMul, reduceIte, Nat.reduceLeDiff, Nat.reduceLT, Nat.reduceBEq, reduceCtorEq, hP, ]); (repeat (refine And.intro (by first | omega | (intros; simp_all; done) | (intros; simp_all; omega)) ?_)))))
        (refine WV_ret ?_; simp only [thenQ, inQ, RetQ, RetOk, resAll, resA]; simp (maxSteps := 2000000) only [go_sem, init_env', Nat.reduceEqDiff, Nat.reduceAdd, Nat.reduceMul, reduceIte, Nat.reduceLeDiff, Nat.reduceLT, Nat.reduceBEq, reduceCtorEq, tupA, AV.port, AV.portL, exists_eq_left', ]; (first | exact AVle.of rfl | refine AVle.of ?_ | skip))

  · obtain ⟨k1, k2⟩ := hs2 (by omega)
    rw [k1, he] at c4
    rw [k2, he] at c3
    (repeat ((first | refine WV_seq_ ?_ | refine WV_block ?_ | refine WV_ops ?_ | refine WV_skip ?_ | refine WV_exit ?_); (try simp (maxSteps := 2000000) only [go_sem, init_env', Nat.reduceEqDiff, Nat.reduceAdd, Nat.reduceMul, reduceIte, Nat.reduceLeDiff, Nat.reduceLT, Nat.reduceBEq, reduceCtorEq, hP, ]); (repeat (refine And.intro (by first | omega | (intros; simp_all; done) | (intros; simp_all; omega)) ?_))))
    (refine AS_pure (c1) rfl rfl rfl rfl rfl ?_; simp (maxSteps := 2000000) only [go_sem, init_env', Nat.reduceEqDiff, Nat.reduceAdd, Nat.reduceMul, reduceIte, Nat.reduceLeDiff, Nat.reduceLT, Nat.reduceBEq, reduceCtorEq, hP, Route.av]; (repeat (refine And.intro (by first | omega | (intros; simp_all; done) | (intros; simp_all; omega)) ?_)); (repeat ((first | refine WV_seq_ ?_ | refine WV_block ?_ | refine WV_ops ?_ | refine WV_skip ?_ | refine WV_exit ?_); (try simp (maxSteps := 2000000) only [go_sem, init_env', Nat.reduceEqDiff, Nat.reduceAdd, Nat.reduceMul, reduceIte, Nat.reduceLeDiff, Nat.reduceLT, Nat.reduceBEq, reduceCtorEq, hP, Route.av]); (repeat (refine And.intro (by first | omega | (intros; simp_all; done) | (intros; simp_all; omega)) ?_)))))
    (refine AS_pure (c2) rfl rfl rfl rfl rfl ?_; simp (maxSteps := 2000000) only [go_sem, init_env', Nat.reduceEqDiff, Nat.reduceAdd, Nat.reduceMul, reduceIte, Nat.reduceLeDiff, Nat.reduceLT, Nat.reduceBEq, reduceCtorEq, hP, Route.av]; (repeat (refine And.intro (by first | omega | (intros; simp_all; done) | (intros; simp_all; omega)) ?_)); (repeat ((first | refine WV_seq_ ?_ | refine WV_block ?_ | refine WV_ops ?_ | refine WV_skip ?_ | refine WV_exit ?_); (try simp (maxSteps := 2000000) only [go_sem, init_env', Nat.reduceEqDiff, Nat.reduceAdd, Nat.reduceMul, reduceIte, Nat.reduceLeDiff, Nat.reduceLT, Nat.reduceBEq, reduceCtorEq, hP, Route.av]); (repeat (refine And.intro (by first | omega | (intros; simp_all; done) | (intros; simp_all; omega)) ?_)))))
    (refine AS_pure (c3) rfl rfl rfl rfl rfl ?_; simp (maxSteps := 2000000) only [go_sem, init_env', Nat.reduceEqDiff, Nat.reduceAdd, Nat.reduceMul, reduceIte, Nat.reduceLeDiff, Nat.reduceLT, Nat.reduceBEq, reduceCtorEq, hP, Route.av]; (repeat (refine And.intro (by first | omega | (intros; simp_all; done) | (intros; simp_all; omega)) ?_)); (repeat ((first | refine WV_seq_ ?_ | refine WV_block ?_ | refine WV_ops ?_ | refine WV_skip ?_ | refine WV_exit ?_); (try simp (maxSteps := 2000000) only [go_sem, init_env', Nat.reduceEqDiff, Nat.reduceAdd, Nat.reduceMul, reduceIte, Nat.reduceLeDiff, Nat.reduceLT, Nat.reduceBEq, reduceCtorEq, hP, Route.av]); (repeat (refine And.intro (by first | omega | (intros; simp_all; done) | (intros; simp_all; omega)) ?_)))))
    (refine AS_pure (c4) rfl rfl rfl rfl rfl ?_; simp (maxSteps := 2000000) only [go_sem, init_env', Nat.reduceEqDiff, Nat.reduceAdd, Nat.reduceMul, reduceIte, Nat.reduceLeDiff, Nat.reduceLT, Nat.reduceBEq, reduceCtorEq, hP, Route.av, bne_self_eq_false, ints, List.length_map, hd7]; (repeat (refine And.intro (by first | omega | (intros; simp_all; done) | (intros; simp_all; omega)) ?_)); (repeat ((first | refine WV_seq_ ?_ | refine WV_block ?_ | refine WV_ops ?_ | refine WV_skip ?_ | refine WV_exit ?_); (try simp (maxSteps := 2000000) only [go_sem, init_env', Nat.reduceEqDiff, Nat.reduceAdd, Nat.reduceMul, reduceIte, Nat.reduceLeDiff, Nat.reduceLT, Nat.reduceBEq, reduceCtorEq, hP, Route.av, bne_self_eq_false, ints, List.length_map, hd7]); (repeat (refine And.intro (by first | omega | (intros; simp_all; done) | (intros; simp_all; omega)) ?_)))))
    (refine AG_pure (fun hG => known16 3) rfl (fun hG => by simp (maxSteps := 2000000) only [go_sem, init_env', Nat.reduceEqDiff, Nat.reduceAdd, Nat.reduceMul, reduceIte, Nat.reduceLeDiff, Nat.reduceLT, Nat.reduceBEq, reduceCtorEq, hG]) rfl rfl rfl ?_; simp (maxSteps := 2000000) only [go_sem, init_env', Nat.reduceEqDiff, Nat.reduceAdd, Nat.reduceMul, reduceIte, Nat.reduceLeDiff, Nat.reduceLT, Nat.reduceBEq, reduceCtorEq, hP, knownS, beq_self_eq_true, bne_self_eq_false]; (repeat (refine And.intro (by first | omega | (intros; simp_all; done) | (intros; simp_all; omega)) ?_)); (repeat ((first | refine WV_seq_ ?_ | refine WV_block ?_ | refine WV_ops ?_ | refine WV_skip ?_ | refine WV_exit ?_); (try simp (maxSteps := 2000000) only [go_sem, init_env', Nat.reduceEqDiff, Nat.reduceAdd, Nat.reduceMul, reduceIte, Nat.reduceLeDiff, Nat.reduceLT, Nat.reduceBEq, reduceCtorEq, hP, knownS, beq_self_eq_true, bne_self_eq_false]); (repeat (refine And.intro (by first | omega | (intros; simp_all; done) | (intros; simp_all; omega)) ?_)))))
    (refine WV_cond rfl (fun h => ?_) (fun h => ?_))
    · simp at h
    clear h
    (repeat ((first | refine WV_seq_ ?_ | refine WV_block ?_ | refine WV_ops ?_ | refine WV_skip ?_ | refine WV_exit ?_); (try simp (maxSteps := 2000000) only [go_sem, init_env', Nat.reduceEqDiff, Nat.reduceAdd, Nat.reduceMul, reduceIte, Nat.reduceLeDiff, Nat.reduceLT, Nat.reduceBEq, reduceCtorEq, hP, ]); (repeat (refine And.intro (by first | omega | (intros; simp_all; done) | (intros; simp_all; omega)) ?_))))
    refine WV_loopK K11_2 [] (fun k : Nat => k ≤ T.1.length) (fun k => T.1.length - k) (fun k => [(17, iv k)]) (fun _ => []) 0 (Nat.zero_le _) ?_ ?_
    · (refine Sub_of (by simp (maxSteps := 2000000) only [go_sem, init_env', Nat.reduceEqDiff, Nat.reduceAdd, Nat.reduceMul, reduceIte, Nat.reduceLeDiff, Nat.reduceLT, Nat.reduceBEq, reduceCtorEq]; ((repeat' (first | exact EnvLe_e0 _ _ | refine EnvLe_upd ?_ ?_)) <;> ((try simp only [upd_app, e0_app, o0_app, Nat.reduceEqDiff, reduceIte]); first | exact AWk.refl _ _ | exact AWk.int (by omega) | exact AWk.int (by rw [w64 (by omega) (by omega)]; omega) | exact AWk.grow rfl | exact AWk.nil _ | exact AWk.of (by simp)))) (by simp (maxSteps := 2000000) only [go_sem, init_env', Nat.reduceEqDiff, Nat.reduceAdd, Nat.reduceMul, reduceIte, Nat.reduceLeDiff, Nat.reduceLT, Nat.reduceBEq, reduceCtorEq]; ((repeat' (first | exact ObjLe_o0 _ | exact ObjLe.rfl' _ | refine ObjLe_same ?_ | refine ObjLe_upd ?_ ?_ | refine ObjLe_new rfl ?_)) <;> rfl)))
    · intro k hk
      simp (maxSteps := 2000000) only [go_sem, init_env', Nat.reduceEqDiff, Nat.reduceAdd, Nat.reduceMul, reduceIte, Nat.reduceLeDiff, Nat.reduceLT, Nat.reduceBEq, reduceCtorEq]
      (repeat ((first | refine WV_seq_ ?_ | refine WV_block ?_ | refine WV_ops ?_ | refine WV_skip ?_ | refine WV_exit ?_); (try simp (maxSteps := 2000000) only [go_sem, init_env', Nat.reduceEqDiff, Nat.reduceAdd, Nat.reduceMul, reduceIte, Nat.reduceLeDiff, Nat.reduceLT, Nat.reduceBEq, reduceCtorEq, hP, List.length_map]); (repeat (refine And.intro (by first | omega | (intros; simp_all; done) | (intros; simp_all; omega)) ?_))))
      (refine WV_cond rfl (fun h => ?_) (fun h => ?_))
      · have h : k < T.1.length := by simpa using h
        have hw2 := w64 (n := (k : Int) + 1) (by omega) (by omega)
        have hx := ht3 _ (List.getElem_mem h)
        have hml : k < (T.1.map (· + b)).length := by simpa using h
        have hw3 := w64 (n := T.1[k] + b) (by omega) (by omega)
        have hda : decide (T.1[k] < 0) = false := by simp; omega
        have hdb : decide (100000 < T.1[k]) = false := by simp; omega
        (repeat ((first | refine WV_seq_ ?_ | refine WV_block ?_ | refine WV_ops ?_ | refine WV_skip ?_ | refine WV_exit ?_); (try simp (maxSteps := 2000000) only [go_sem, init_env', Nat.reduceEqDiff, Nat.reduceAdd, Nat.reduceMul, reduceIte, Nat.reduceLeDiff, Nat.reduceLT, Nat.reduceBEq, reduceCtorEq, hP, Int.toNat_natCast, map_getD h, map_getD hml, List.getElem_map, List.length_map, Int.ofNat_lt, h, Int.natCast_nonneg, ints, hw3, hda, hdb, bne_self_eq_false]); (repeat (refine And.intro (by first | omega | (intros; simp_all; done) | (intros; simp_all; omega)) ?_))))
        (refine WV_cond rfl (fun h => ?_) (fun h => ?_))
        · simp at h
        · (repeat ((first | refine WV_seq_ ?_ | refine WV_block ?_ | refine WV_ops ?_ | refine WV_skip ?_ | refine WV_exit ?_); (try simp (maxSteps := 2000000) only [go_sem, init_env', Nat.reduceEqDiff, Nat.reduceAdd, Nat.reduceMul, reduceIte, Nat.reduceLeDiff, Nat.reduceLT, Nat.reduceBEq, reduceCtorEq, hP, hw2]); (repeat (refine And.intro (by first | omega | (intros; simp_all; done) | (intros; simp_all; omega)) ?_))))
          refine ⟨k + 1, by omega, by omega, ?_⟩
          (refine Sub_of (by simp (maxSteps := 2000000) only [go_sem, init_env', Nat.reduceEqDiff, Nat.reduceAdd, Nat.reduceMul, reduceIte, Nat.reduceLeDiff, Nat.reduceLT, Nat.reduceBEq, reduceCtorEq]; ((repeat' (first | exact EnvLe_e0 _ _ | refine EnvLe_upd ?_ ?_)) <;> ((try simp only [upd_app, e0_app, o0_app, Nat.reduceEqDiff, reduceIte]); first | exact AWk.refl _ _ | exact AWk.int (by omega) | exact AWk.int (by rw [w64 (by omega) (by omega)]; omega) | exact AWk.grow rfl | exact AWk.nil _ | exact AWk.of (by simp)))) (by simp (maxSteps := 2000000) only [go_sem, init_env', Nat.reduceEqDiff, Nat.reduceAdd, Nat.reduceMul, reduceIte, Nat.reduceLeDiff, Nat.reduceLT, Nat.reduceBEq, reduceCtorEq]; ((repeat' (first | exact ObjLe_o0 _ | exact ObjLe.rfl' _ | refine ObjLe_same ?_ | refine ObjLe_upd ?_ ?_ | refine ObjLe_new rfl ?_)) <;> rfl)))
      · have h : k = T.1.length := by simp at h; omega
        subst h
        (repeat ((first | refine WV_seq_ ?_ | refine WV_block ?_ | refine WV_ops ?_ | refine WV_skip ?_ | refine WV_exit ?_); (try simp (maxSteps := 2000000) only [go_sem, init_env', Nat.reduceEqDiff, Nat.reduceAdd, Nat.reduceMul, reduceIte, Nat.reduceLeDiff, Nat.reduceLT, Nat.reduceBEq, reduceCtorEq, hP, ]); (repeat (refine And.intro (by first | omega | (intros; simp_all; done) | (intros; simp_all; omega)) ?_))))
        (refine AS_pure (c5) rfl rfl rfl rfl rfl ?_; simp (maxSteps := 2000000) only [go_sem, init_env', Nat.reduceEqDiff, Nat.reduceAdd, Nat.reduceMul, reduceIte, Nat.reduceLeDiff, Nat.reduceLT, Nat.reduceBEq, reduceCtorEq, hP, Route.av]; (repeat (refine And.intro (by first | omega | (intros; simp_all; done) | (intros; simp_all; omega)) ?_)); (repeat ((first | refine WV_seq_ ?_ | refine WV_block ?_ | refine WV_ops ?_ | refine WV_skip ?_ | refine WV_exit ?_); (try simp (maxSteps := 2000000) only [go_sem, init_env', Nat.reduceEqDiff, Nat.reduceAdd, Nat.reduceMul, reduceIte, Nat.reduceLeDiff, Nat.reduceLT, Nat.reduceBEq, reduceCtorEq, hP, Route.av]); (repeat (refine And.intro (by first | omega | (intros; simp_all; done) | (intros; simp_all; omega)) ?_)))))
        (refine AS_pure (c6) rfl rfl rfl rfl rfl ?_; simp (maxSteps := 2000000) only [go_sem, init_env', Nat.reduceEqDiff, Nat.reduceAdd, Nat.reduceMul, reduceIte, Nat.reduceLeDiff, Nat.reduceLT, Nat.reduceBEq, reduceCtorEq, hP, Route.av]; (repeat (refine And.intro (by first | omega | (intros; simp_all; done) | (intros; simp_all; omega)) ?_)); (repeat ((first | refine WV_seq_ ?_ | refine WV_block ?_ | refine WV_ops ?_ | refine WV_skip ?_ | refine WV_exit ?_); (try simp (maxSteps := 2000000) only [go_sem, init_env', Nat.reduceEqDiff, Nat.reduceAdd, Nat.reduceMul, reduceIte, Nat.reduceLeDiff, Nat.reduceLT, Nat.reduceBEq, reduceCtorEq, hP, Route.av]); (repeat (refine And.intro (by first | omega | (intros; simp_all; done) | (intros; simp_all; omega)) ?_)))))
        (refine AS_pure (c7) rfl rfl rfl rfl rfl ?_; simp (maxSteps := 2000000) only [go_sem, init_env', Nat.reduceEqDiff, Nat.reduceAdd, Nat.reduceMul, reduceIte, Nat.reduceLeDiff, Nat.reduceLT, Nat.reduceBEq, reduceCtorEq, hP, Route.av]; (repeat (refine And.intro (by first | omega | (intros; simp_all; done) | (intros; simp_all; omega)) ?_)); (repeat ((first | refine WV_seq_ ?_ | refine WV_block ?_ | refine WV_ops ?_ | refine WV_skip ?_ | refine WV_exit ?_); (try simp (maxSteps := 2000000) only [go_sem, init_env', Nat.reduceEqDiff, Nat.reduceAdd, Nat.reduceMul, reduceIte, Nat.reduceLeDiff, Nat.reduceLT, Nat.reduceBEq, reduceCtorEq, hP, Route.av]); (repeat (refine And.intro (by first | omega | (intros; simp_all; done) | (intros; simp_all; omega)) ?_)))))
        (refine AS_pure (c8) rfl rfl rfl rfl rfl ?_; simp (maxSteps := 2000000) only [go_sem, init_env', Nat.reduceEqDiff, Nat.reduceAdd, Nat.reduceMul, reduceIte, Nat.reduceLeDiff, Nat.reduceLT, Nat.reduceBEq, reduceCtorEq, hP, Route.av, bne_self_eq_false]; (repeat (refine And.intro (by first | omega | (intros; simp_all; done) | (intros; simp_all; omega)) ?_)); (repeat ((first | refine WV_seq_ ?_ | refine WV_block ?_ | refine WV_ops ?_ | refine WV_skip ?_ | refine WV_exit ?_); (try simp (maxSteps := 2000000) only [go_sem, init_env', Nat.reduceEqDiff, Nat.reduceAdd, Nat.reduceMul, reduceIte, Nat.reduceLeDiff, Nat.reduceLT, Nat.reduceBEq, reduceCtorEq, hP, Route.av, bne_self_eq_false]); (repeat (refine And.intro (by first | omega | (intros; simp_all; done) | (intros; simp_all; omega)) ?_)))))
        (refine WV_cond rfl (fun h => ?_) (fun h => ?_))
        · simp at h
        clear h
        (repeat ((first | refine WV_seq_ ?_ | refine WV_block ?_ | refine WV_ops ?_ | refine WV_skip ?_ | refine WV_exit ?_); (try simp (maxSteps := 2000000) only [go_sem, init_env', Nat.reduceEqDiff, Nat.reduceAdd, Nat.reduceMul, reduceIte, Nat.reduceLeDiff, Nat.reduceLT, Nat.reduceBEq, reduceCtorEq, hP, ]); (repeat (refine And.intro (by first | omega | (intros; simp_all; done) | (intros; simp_all; omega)) ?_))))
        (refine AS_pure (c9) rfl rfl rfl rfl rfl ?_; simp (maxSteps := 2000000) only [go_sem, init_env', Nat.reduceEqDiff, Nat.reduceAdd, Nat.reduceMul, reduceIte, Nat.reduceLeDiff, Nat.reduceLT, Nat.reduceBEq, reduceCtorEq, hP, Route.av]; (repeat (refine And.intro (by first | omega | (intros; simp_all; done) | (intros; simp_all; omega)) ?_)); (repeat ((first | refine WV_seq_ ?_ | refine WV_block ?_ | refine WV_ops ?_ | refine WV_skip ?_ | refine WV_exit ?_); (try simp (maxSteps := 2000000) only [go_sem, init_env', Nat.reduceEqDiff, Nat.reduceAdd, Nat.reduceMul, reduceIte, Nat.reduceLeDiff, Nat.reduceLT, Nat.reduceBEq, reduceCtorEq, hP, Route.av]); (repeat (refine And.intro (by first | omega | (intros; simp_all; done) | (intros; simp_all; omega)) ?_)))))
        (refine AS_pure (c10) rfl rfl rfl rfl rfl ?_; simp (maxSteps := 2000000) only [go_sem, init_env', Nat.reduceEqDiff, Nat.reduceAdd, Nat.reduceMul, reduceIte, Nat.reduceLeDiff, Nat.reduceLT, Nat.reduceBEq, reduceCtorEq, hP, Route.av]; (repeat (refine And.intro (by first | omega | (intros; simp_all; done) | (intros; simp_all; omega)) ?_)); (repeat ((first | refine WV_seq_ ?_ | refine WV_block ?_ | refine WV_ops ?_ | refine WV_skip ?_ | refine WV_exit ?_); (try simp (maxSteps := 2000000) only [go_sem, init_env', Nat.reduceEqDiff, Nat.reduceAdd, Nat.reduceMul, reduceIte, Nat.reduceLeDiff, Nat.reduceLT, Nat.reduceBEq, reduceCtorEq, hP, Route.av]); (repeat (refine And.intro (by first | omega | (intros; simp_all; done) | (intros; simp_all; omega)) ?_)))))
        (refine AS_pure (c11) rfl rfl rfl rfl rfl ?_; simp (maxSteps := 2000000) only [go_sem, init_env', Nat.reduceEqDiff, Nat.reduceAdd, Nat.reduceMul, reduceIte, Nat.reduceLeDiff, Nat.reduceLT, Nat.reduceBEq, reduceCtorEq, hP, Route.av]; (repeat (refine And.intro (by first | omega | (intros; simp_all; done) | (intros; simp_all; omega)) ?_)); (repeat ((first | refine WV_seq_ ?_ | refine WV_block ?_ | refine WV_ops ?_ | refine WV_skip ?_ | refine WV_exit ?_); (try simp (maxSteps := 2000000) only [go_sem, init_env', Nat.reduceEqDiff, Nat.reduceAdd, Nat.reduceMul, reduceIte, Nat.reduceLeDiff, Nat.reduceLT, Nat.reduceBEq, reduceCtorEq, hP, Route.av]); (repeat (refine And.intro (by first | omega | (intros; simp_all; done) | (intros; simp_all; omega)) ?_)))))
        (refine AS_pure (c12) rfl rfl rfl rfl rfl ?_; simp (maxSteps := 2000000) only [go_sem, init_env', Nat.reduceEqDiff, Nat.reduceAdd, Nat.reduceMul, reduceIte, Nat.reduceLeDiff, Nat.reduceLT, Nat.reduceBEq, reduceCtorEq, hP, Route.av]; (repeat (refine And.intro (by first | omega | (intros; simp_all; done) | (intros; simp_all; omega)) ?_)); (repeat ((first | refine WV_seq_ ?_ | refine WV_block ?_ | refine WV_ops ?_ | refine WV_skip ?_ | refine WV_exit ?_); (try simp (maxSteps := 2000000) only [go_sem, init_env', Nat.reduceEqDiff, Nat.reduceAdd, Nat.reduceMul, reduceIte, Nat.reduceLeDiff, Nat.reduceLT, Nat.reduceBEq, reduceCtorEq, hP, Route.av]); (repeat (refine And.intro (by first | omega | (intros; simp_all; done) | (intros; simp_all; omega)) ?_)))))
        (refine AS_pure (same34 (rfirstS r).1 (rfirstS r).1) rfl rfl rfl rfl rfl ?_; simp (maxSteps := 2000000) only [go_sem, init_env', Nat.reduceEqDiff, Nat.reduceAdd, Nat.reduceMul, reduceIte, Nat.reduceLeDiff, Nat.reduceLT, Nat.reduceBEq, reduceCtorEq, hP, beq_self_eq_true, decide_true]; (repeat (refine And.intro (by first | omega | (intros; simp_all; done) | (intros; simp_all; omega)) ?_)); (repeat ((first | refine WV_seq_ ?_ | refine WV_block ?_ | refine WV_ops ?_ | refine WV_skip ?_ | refine WV_exit ?_); (try simp (maxSteps := 2000000) only [go_sem, init_env', Nat.reduceEqDiff, Nat.reduceAdd, Nat.reduceMul, reduceIte, Nat.reduceLeDiff, Nat.reduceLT, Nat.reduceBEq, reduceCtorEq, hP, beq_self_eq_true, decide_true]); (repeat (refine And.intro (by first | omega | (intros; simp_all; done) | (intros; simp_all; omega)) ?_)))))
        (refine AG_pure (fun hG => same34 (rshutS r).1 (rshutS r).1) rfl (fun hG => by simp (maxSteps := 2000000) only [go_sem, init_env', Nat.reduceEqDiff, Nat.reduceAdd, Nat.reduceMul, reduceIte, Nat.reduceLeDiff, Nat.reduceLT, Nat.reduceBEq, reduceCtorEq, hG]) rfl rfl rfl ?_; simp (maxSteps := 2000000) only [go_sem, init_env', Nat.reduceEqDiff, Nat.reduceAdd, Nat.reduceMul, reduceIte, Nat.reduceLeDiff, Nat.reduceLT, Nat.reduceBEq, reduceCtorEq, hP, beq_self_eq_true, decide_true]; (repeat (refine And.intro (by first | omega | (intros; simp_all; done) | (intros; simp_all; omega)) ?_)); (repeat ((first | refine WV_seq_ ?_ | refine WV_block ?_ | refine WV_ops ?_ | refine WV_skip ?_ | refine WV_exit ?_); (try simp (maxSteps := 2000000) only [go_sem, init_env', Nat.reduceEqDiff, Nat.reduceAdd, Nat.reduceMul, reduceIte, Nat.reduceLeDiff, Nat.reduceLT, Nat.reduceBEq, reduceCtorEq, hP, beq_self_eq_true, decide_true]); (repeat (refine And.intro (by first | omega | (intros; simp_all; done) | (intros; simp_all; omega)) ?_)))))
        (refine AG_pure (fun hG => works14) rfl (fun hG => by simp (maxSteps := 2000000) only [go_sem, init_env', Nat.reduceEqDiff, Nat.reduceAdd, Nat.reduceMul, reduceIte, Nat.reduceLeDiff, Nat.reduceLT, Nat.reduceBEq, reduceCtorEq, hG]) rfl rfl rfl ?_; simp (maxSteps := 2000000) only [go_sem, init_env', Nat.reduceEqDiff, Nat.reduceAdd, Nat.reduceMul, reduceIte, Nat.reduceLeDiff, Nat.reduceLT, Nat.reduceBEq, reduceCtorEq, hP, ]; (repeat (refine And.intro (by first | omega | (intros; simp_all; done) | (intros; simp_all; omega)) ?_)); (repeat ((first | refine WV_seq_ ?_ | refine WV_block ?_ | refine WV_ops ?_ | refine WV_skip ?_ | refine WV_exit ?_); (try simp (maxSteps := 2000000) only [go_sem, init_env', Nat.reduceEqDiff, Nat.reduceAdd, Nat.reduceMul, reduceIte, Nat.reduceLeDiff, Nat.reduceLT, Nat.reduceBEq, reduceCtorEq, hP, ]); (repeat (refine And.intro (by first | omega | (intros; simp_all; done) | (intros; simp_all; omega)) ?_)))))
        (refine WV_ret ?_; simp only [thenQ, inQ, RetQ, RetOk, resAll, resA]; simp (maxSteps := 2000000) only [go_sem, init_env', Nat.reduceEqDiff, Nat.reduceAdd, Nat.reduceMul, reduceIte, Nat.reduceLeDiff, Nat.reduceLT, Nat.reduceBEq, reduceCtorEq, tupA, AV.port, AV.portL, exists_eq_left', ]; (first | exact AVle.of rfl | refine AVle.of ?_ | skip))

def opS (b : Int) (s : Stop) : Stop := ⟨s.op + b, s.cl, s.st, s.ca⟩
/-- The first stops are later. -/
def shiftK (r : Route) (b : Int) (k : Nat) : List Stop := (r.stops.take k).map (shiftS b) ++ r.stops.drop k
theorem shiftK_len (r : Route) (b : Int) (k : Nat) : (shiftK r b k).length = r.stops.length := by simp [shiftK]; omega
theorem shiftK_take {r : Route} {b : Int} {k : Nat} (h : k ≤ r.stops.length) : ((r.stops.take k).map (shiftS b)).length = k := by simp; omega
theorem shiftK_get {r : Route} {b : Int} {k : Nat} (h : k < r.stops.length) (h' : k < (shiftK r b k).length) : (shiftK r b k)[k] = r.stops[k] := by
  have h2 : (shiftK r b k)[k]? = some r.stops[k] := by
    unfold shiftK
    rw [List.getElem?_append_right (by rw [shiftK_take (by omega)]; exact Nat.le_refl _), shiftK_take (by omega), Nat.sub_self, List.getElem?_drop, Nat.add_zero, List.getElem?_eq_getElem h]
  exact (List.getElem?_eq_some_iff.1 h2).2
theorem shiftK_set {r : Route} {b : Int} {k : Nat} (h : k < r.stops.length) : (shiftK r b k).set k (shiftS b r.stops[k]) = shiftK r b (k + 1) := by
  unfold shiftK
  rw [List.set_append_right _ _ (by rw [shiftK_take (by omega)]; exact Nat.le_refl _), shiftK_take (by omega), Nat.sub_self, List.drop_eq_getElem_cons h, List.set_cons_zero, List.take_succ_eq_append_getElem h, List.map_append]
  simp
theorem shiftK_all (r : Route) (b : Int) : shiftK r b r.stops.length = (shiftR r b).stops := by simp [shiftK, shiftR]

set_option maxRecDepth 20000 in
set_option maxHeartbeats 16000000 in
theorem law11 (r : Route) (l : List Int) (b : Int) : FSpec Try.prog 11 [r.av, .c (ints l), iv b] (.c (.bool true)) := by
  refine FSpec_of c11 (Nat.le_refl _) (by decide) fun C hP hN hC hL => ?_
  simp only [ir11, Route.av]
  (repeat ((first | refine WV_seq_ ?_ | refine WV_block ?_ | refine WV_ops ?_ | refine WV_skip ?_ | refine WV_exit ?_); (try simp (maxSteps := 2000000) only [go_sem, init_env', Nat.reduceEqDiff, Nat.reduceAdd, Nat.reduceMul, reduceIte, Nat.reduceLeDiff, Nat.reduceLT, Nat.reduceBEq, reduceCtorEq, hP, ]); (repeat (refine And.intro (by first | omega | (intros; simp_all; done) | (intros; simp_all; omega)) ?_))))
  (refine AS_pure (ready13 r) rfl rfl rfl rfl rfl ?_; simp (maxSteps := 2000000) only [go_sem, init_env', Nat.reduceEqDiff, Nat.reduceAdd, Nat.reduceMul, reduceIte, Nat.reduceLeDiff, Nat.reduceLT, Nat.reduceBEq, reduceCtorEq, hP, Route.av, ints, List.length_map]; (repeat (refine And.intro (by first | omega | (intros; simp_all; done) | (intros; simp_all; omega)) ?_)); (repeat ((first | refine WV_seq_ ?_ | refine WV_block ?_ | refine WV_ops ?_ | refine WV_skip ?_ | refine WV_exit ?_); (try simp (maxSteps := 2000000) only [go_sem, init_env', Nat.reduceEqDiff, Nat.reduceAdd, Nat.reduceMul, reduceIte, Nat.reduceLeDiff, Nat.reduceLT, Nat.reduceBEq, reduceCtorEq, hP, Route.av, ints, List.length_map]); (repeat (refine And.intro (by first | omega | (intros; simp_all; done) | (intros; simp_all; omega)) ?_)))))
  (refine WV_cond rfl (fun h => ?_) (fun h => ?_))
  · (repeat ((first | refine WV_seq_ ?_ | refine WV_block ?_ | refine WV_ops ?_ | refine WV_skip ?_ | refine WV_exit ?_); (try simp (maxSteps := 2000000) only [go_sem, init_env', Nat.reduceEqDiff, Nat.reduceAdd, Nat.reduceMul, reduceIte, Nat.reduceLeDiff, Nat.reduceLT, Nat.reduceBEq, reduceCtorEq, hP, ]); (repeat (refine And.intro (by first | omega | (intros; simp_all; done) | (intros; simp_all; omega)) ?_))))
    (refine AS_pure (works14) rfl rfl rfl rfl rfl ?_; simp (maxSteps := 2000000) only [go_sem, init_env', Nat.reduceEqDiff, Nat.reduceAdd, Nat.reduceMul, reduceIte, Nat.reduceLeDiff, Nat.reduceLT, Nat.reduceBEq, reduceCtorEq, hP, ]; (repeat (refine And.intro (by first | omega | (intros; simp_all; done) | (intros; simp_all; omega)) ?_)); (repeat ((first | refine WV_seq_ ?_ | refine WV_block ?_ | refine WV_ops ?_ | refine WV_skip ?_ | refine WV_exit ?_); (try simp (maxSteps := 2000000) only [go_sem, init_env', Nat.reduceEqDiff, Nat.reduceAdd, Nat.reduceMul, reduceIte, Nat.reduceLeDiff, Nat.reduceLT, Nat.reduceBEq, reduceCtorEq, hP, ]); (repeat (refine And.intro (by first | omega | (intros; simp_all; done) | (intros; simp_all; omega)) ?_)))))
    (refine WV_ret ?_; simp only [thenQ, inQ, RetQ, RetOk, resAll, resA]; simp (maxSteps := 2000000) only [go_sem, init_env', Nat.reduceEqDiff, Nat.reduceAdd, Nat.reduceMul, reduceIte, Nat.reduceLeDiff, Nat.reduceLT, Nat.reduceBEq, reduceCtorEq, tupA, AV.port, AV.portL, exists_eq_left', ]; (first | exact AVle.of rfl | refine AVle.of ?_ | skip))
  have hc : readyS r = true ∧ l.length ≤ 20 ∧ 0 ≤ b ∧ b ≤ 1440 := by
    cases hr : readyS r
    · rw [hr] at h; simp at h
    · rw [hr] at h; simp at h; exact ⟨rfl, by omega, by omega, by omega⟩
  clear h
  obtain ⟨hrd, hlen, hb⟩ := hc
  obtain ⟨hok, hnear⟩ := readyS_of hrd
  have hr := Route.ok_spec hok
  have hn7 := hr.n7
  have hsl0 : (r.stops.length : Int) = (r.n : Int) := rfl
  have hws := w64 (n := r.start + b) (by have := hr.st; omega) (by have := hr.st; omega)
  (repeat ((first | refine WV_seq_ ?_ | refine WV_block ?_ | refine WV_ops ?_ | refine WV_skip ?_ | refine WV_exit ?_); (try simp (maxSteps := 2000000) only [go_sem, init_env', Nat.reduceEqDiff, Nat.reduceAdd, Nat.reduceMul, reduceIte, Nat.reduceLeDiff, Nat.reduceLT, Nat.reduceBEq, reduceCtorEq, hP, ]); (repeat (refine And.intro (by first | omega | (intros; simp_all; done) | (intros; simp_all; omega)) ?_))))
  by_cases hne : r.stops = []
  · have hst : (shiftR r b).stops = [] := by simp [shiftR, hne]
    (refine AS_pure (copy17 r hnear) rfl rfl rfl rfl rfl ?_; simp (maxSteps := 2000000) only [go_sem, init_env', Nat.reduceEqDiff, Nat.reduceAdd, Nat.reduceMul, reduceIte, Nat.reduceLeDiff, Nat.reduceLT, Nat.reduceBEq, reduceCtorEq, hP, Route.av, hws]; (repeat (refine And.intro (by first | omega | (intros; simp_all; done) | (intros; simp_all; omega)) ?_)); (repeat ((first | refine WV_seq_ ?_ | refine WV_block ?_ | refine WV_ops ?_ | refine WV_skip ?_ | refine WV_exit ?_); (try simp (maxSteps := 2000000) only [go_sem, init_env', Nat.reduceEqDiff, Nat.reduceAdd, Nat.reduceMul, reduceIte, Nat.reduceLeDiff, Nat.reduceLT, Nat.reduceBEq, reduceCtorEq, hP, Route.av, hws]); (repeat (refine And.intro (by first | omega | (intros; simp_all; done) | (intros; simp_all; omega)) ?_)))))
    refine WV_loopK K11_1 [7] (fun k : Nat => k = 0) (fun k => 0) (fun k => [(8, iv 0)]) (fun _ => [(7, .box [.c (stopsC r.stops), .c (driveC r.drive), iv (r.start + b)])]) 0 rfl ?_ ?_
    · (refine Sub_of (by simp (maxSteps := 2000000) only [go_sem, init_env', Nat.reduceEqDiff, Nat.reduceAdd, Nat.reduceMul, reduceIte, Nat.reduceLeDiff, Nat.reduceLT, Nat.reduceBEq, reduceCtorEq]; ((repeat' (first | exact EnvLe_e0 _ _ | refine EnvLe_upd ?_ ?_)) <;> ((try simp only [upd_app, e0_app, o0_app, Nat.reduceEqDiff, reduceIte]); first | exact AWk.refl _ _ | exact AWk.int (by omega) | exact AWk.int (by rw [w64 (by omega) (by omega)]; omega) | exact AWk.grow rfl | exact AWk.nil _ | exact AWk.of (by simp)))) (by simp (maxSteps := 2000000) only [go_sem, init_env', Nat.reduceEqDiff, Nat.reduceAdd, Nat.reduceMul, reduceIte, Nat.reduceLeDiff, Nat.reduceLT, Nat.reduceBEq, reduceCtorEq]; ((repeat' (first | exact ObjLe_o0 _ | exact ObjLe.rfl' _ | refine ObjLe_same ?_ | refine ObjLe_upd ?_ ?_ | refine ObjLe_new rfl ?_)) <;> rfl)))
    · rintro k rfl
      simp (maxSteps := 2000000) only [go_sem, init_env', Nat.reduceEqDiff, Nat.reduceAdd, Nat.reduceMul, reduceIte, Nat.reduceLeDiff, Nat.reduceLT, Nat.reduceBEq, reduceCtorEq]
      (repeat ((first | refine WV_seq_ ?_ | refine WV_block ?_ | refine WV_ops ?_ | refine WV_skip ?_ | refine WV_exit ?_); (try simp (maxSteps := 2000000) only [go_sem, init_env', Nat.reduceEqDiff, Nat.reduceAdd, Nat.reduceMul, reduceIte, Nat.reduceLeDiff, Nat.reduceLT, Nat.reduceBEq, reduceCtorEq, hP, stopsC, hne, List.length_nil, List.map_nil, Int.natCast_zero]); (repeat (refine And.intro (by first | omega | (intros; simp_all; done) | (intros; simp_all; omega)) ?_))))
      (refine WV_cond rfl (fun h => ?_) (fun h => ?_))
      · simp at h
      · have ht := tail11 hP r l b hok hb hlen
        rw [hst] at ht
        simp only [hne] at ht
        (refine WV_exit ?_; simp (maxSteps := 2000000) only [go_sem, init_env', Nat.reduceEqDiff, Nat.reduceAdd, Nat.reduceMul, reduceIte, Nat.reduceLeDiff, Nat.reduceLT, Nat.reduceBEq, reduceCtorEq])
        exact WV_sub (Sub_of (by simp (maxSteps := 2000000) only [go_sem, init_env', Nat.reduceEqDiff, Nat.reduceAdd, Nat.reduceMul, reduceIte, Nat.reduceLeDiff, Nat.reduceLT, Nat.reduceBEq, reduceCtorEq]; ((repeat' (first | exact EnvLe_e0 _ _ | refine EnvLe_upd ?_ ?_)) <;> ((try simp only [upd_app, e0_app, o0_app, Nat.reduceEqDiff, reduceIte]); first | exact AWk.refl _ _ | exact AWk.int (by omega) | exact AWk.int (by rw [w64 (by omega) (by omega)]; omega) | exact AWk.grow rfl | exact AWk.nil _ | exact AWk.of (by simp)))) (by simp (maxSteps := 2000000) only [go_sem, init_env', Nat.reduceEqDiff, Nat.reduceAdd, Nat.reduceMul, reduceIte, Nat.reduceLeDiff, Nat.reduceLT, Nat.reduceBEq, reduceCtorEq]; ((repeat' (first | exact ObjLe_o0 _ | exact ObjLe.rfl' _ | refine ObjLe_same ?_ | refine ObjLe_upd ?_ ?_ | refine ObjLe_new rfl ?_)) <;> rfl))) ht
  · have hl0 : 0 < r.stops.length := List.length_pos_iff.2 hne
    refine AS_new (W.copyN r hnear hne) rfl rfl rfl rfl ?_
    rintro res os ⟨cap, j, h1, h2, h3, rfl, rfl⟩
    refine ⟨[900], .agg [.vw 4 900 0 r.stops.length cap, .c (driveC r.drive), iv r.start], [.box (cellsS r.stops j)], by decide, rfl, by simp (maxSteps := 2000000) only [go_sem, init_env', Nat.reduceEqDiff, Nat.reduceAdd, Nat.reduceMul, reduceIte, Nat.reduceLeDiff, Nat.reduceLT, Nat.reduceBEq, reduceCtorEq, decide_true], rfl, ?_, ?_⟩
    · simp only [obsBack, Ob.back, back_cellsS]; rfl
    have hpc := fun d l => prg_cellsS d l j
    simp (maxSteps := 2000000) only [go_sem, init_env', Nat.reduceEqDiff, Nat.reduceAdd, Nat.reduceMul, reduceIte, Nat.reduceLeDiff, Nat.reduceLT, Nat.reduceBEq, reduceCtorEq, hP, ownBack, hpc, hws]
    (repeat (refine And.intro (by first | omega | (intros; simp_all; done) | (intros; simp_all; omega)) ?_))
    (repeat ((first | refine WV_seq_ ?_ | refine WV_block ?_ | refine WV_ops ?_ | refine WV_skip ?_ | refine WV_exit ?_); (try simp (maxSteps := 2000000) only [go_sem, init_env', Nat.reduceEqDiff, Nat.reduceAdd, Nat.reduceMul, reduceIte, Nat.reduceLeDiff, Nat.reduceLT, Nat.reduceBEq, reduceCtorEq, hP, hpc, hws]); (repeat (refine And.intro (by first | omega | (intros; simp_all; done) | (intros; simp_all; omega)) ?_))))
    refine WV_loopK K11_1 [7, 900] (fun k : Nat => k ≤ r.stops.length) (fun k => r.stops.length - k) (fun k => [(8, iv k)]) (fun k => [(900, .box (cellsS (shiftK r b k) j)), (7, .box [.vw 4 900 0 r.stops.length cap, .c (driveC r.drive), iv (r.start + b)])]) 0 (Nat.zero_le _) ?_ ?_
    · (refine Sub_of (by simp (maxSteps := 2000000) only [go_sem, init_env', Nat.reduceEqDiff, Nat.reduceAdd, Nat.reduceMul, reduceIte, Nat.reduceLeDiff, Nat.reduceLT, Nat.reduceBEq, reduceCtorEq]; ((repeat' (first | exact EnvLe_e0 _ _ | refine EnvLe_upd ?_ ?_)) <;> ((try simp only [upd_app, e0_app, o0_app, Nat.reduceEqDiff, reduceIte]); first | exact AWk.refl _ _ | exact AWk.int (by omega) | exact AWk.int (by rw [w64 (by omega) (by omega)]; omega) | exact AWk.grow rfl | exact AWk.nil _ | exact AWk.of (by simp)))) (by simp (maxSteps := 2000000) only [go_sem, init_env', Nat.reduceEqDiff, Nat.reduceAdd, Nat.reduceMul, reduceIte, Nat.reduceLeDiff, Nat.reduceLT, Nat.reduceBEq, reduceCtorEq]; ((repeat' (first | exact ObjLe_o0 _ | exact ObjLe.rfl' _ | refine ObjLe_same ?_ | refine ObjLe_upd ?_ ?_ | refine ObjLe_new rfl ?_)) <;> rfl)))
    · intro k hk
      simp (maxSteps := 2000000) only [go_sem, init_env', Nat.reduceEqDiff, Nat.reduceAdd, Nat.reduceMul, reduceIte, Nat.reduceLeDiff, Nat.reduceLT, Nat.reduceBEq, reduceCtorEq, hpc]
      (repeat ((first | refine WV_seq_ ?_ | refine WV_block ?_ | refine WV_ops ?_ | refine WV_skip ?_ | refine WV_exit ?_); (try simp (maxSteps := 2000000) only [go_sem, init_env', Nat.reduceEqDiff, Nat.reduceAdd, Nat.reduceMul, reduceIte, Nat.reduceLeDiff, Nat.reduceLT, Nat.reduceBEq, reduceCtorEq, hP, hpc]); (repeat (refine And.intro (by first | omega | (intros; simp_all; done) | (intros; simp_all; omega)) ?_))))
      (refine WV_cond rfl (fun h => ?_) (fun h => ?_))
      · have h : k < r.stops.length := by simpa using h
        have hst := hr.stop k h
        have e1 : r.stops[k] = r.s k := by simp [Route.s, h]
        have hlk : k < (shiftK r b k).length := by rw [shiftK_len]; exact h
        have e2 := shiftK_get (b := b) h hlk
        have hw2 := w64 (n := (k : Int) + 1) (by omega) (by omega)
        have hwa := w64 (n := (r.s k).op + b) (by omega) (by omega)
        have hwb := w64 (n := (r.s k).cl + b) (by omega) (by omega)
        have hg0 : ∀ x, (cellsS (shiftK r b k) j).getD (k * 4) x = .c (.int .i64 (r.s k).op) := fun x => cellsS_get hlk j 0 (by decide) (by rw [e2, e1]; rfl) x
        have hs0 : (cellsS (shiftK r b k) j).set (k * 4) (.c (.int .i64 ((r.s k).op + b))) = cellsS ((shiftK r b k).set k (opS b (r.s k))) j := cellsS_set hlk j 0 (by decide) _ _ (by rw [e2, e1]; rfl)
        have hlk1 : k < ((shiftK r b k).set k (opS b (r.s k))).length := by rw [List.length_set]; exact hlk
        have e3 : ((shiftK r b k).set k (opS b (r.s k)))[k] = (opS b (r.s k)) := by simp
        have hg1 : ∀ x, (cellsS ((shiftK r b k).set k (opS b (r.s k))) j).getD (k * 4 + 1) x = .c (.int .i64 (r.s k).cl) := fun x => cellsS_get hlk1 j 1 (by decide) (by rw [e3]; rfl) x
        have hs1 : (cellsS ((shiftK r b k).set k (opS b (r.s k))) j).set (k * 4 + 1) (.c (.int .i64 ((r.s k).cl + b))) = cellsS (shiftK r b (k + 1)) j := by
          rw [cellsS_set hlk1 j 1 (by decide) _ (shiftS b (r.s k)) (by rw [e3]; rfl), List.set_set, ← e1, shiftK_set h]
        (repeat ((first | refine WV_seq_ ?_ | refine WV_block ?_ | refine WV_ops ?_ | refine WV_skip ?_ | refine WV_exit ?_); (try simp (maxSteps := 2000000) only [go_sem, init_env', Nat.reduceEqDiff, Nat.reduceAdd, Nat.reduceMul, reduceIte, Nat.reduceLeDiff, Nat.reduceLT, Nat.reduceBEq, reduceCtorEq, hP, hpc, Int.toNat_natCast, Int.natCast_nonneg, Int.ofNat_lt, h, hg0, hg1, hs0, hs1, hwa, hwb, hw2, cellsS_len, List.length_set, shiftK_len]); (repeat (refine And.intro (by first | omega | (intros; simp_all; done) | (intros; simp_all; omega)) ?_))))
        refine ⟨k + 1, by omega, by omega, ?_⟩
        (refine Sub_of (by simp (maxSteps := 2000000) only [go_sem, init_env', Nat.reduceEqDiff, Nat.reduceAdd, Nat.reduceMul, reduceIte, Nat.reduceLeDiff, Nat.reduceLT, Nat.reduceBEq, reduceCtorEq]; ((repeat' (first | exact EnvLe_e0 _ _ | refine EnvLe_upd ?_ ?_)) <;> ((try simp only [upd_app, e0_app, o0_app, Nat.reduceEqDiff, reduceIte]); first | exact AWk.refl _ _ | exact AWk.int (by omega) | exact AWk.int (by rw [w64 (by omega) (by omega)]; omega) | exact AWk.grow rfl | exact AWk.nil _ | exact AWk.of (by simp)))) (by simp (maxSteps := 2000000) only [go_sem, init_env', Nat.reduceEqDiff, Nat.reduceAdd, Nat.reduceMul, reduceIte, Nat.reduceLeDiff, Nat.reduceLT, Nat.reduceBEq, reduceCtorEq]; ((repeat' (first | exact ObjLe_o0 _ | exact ObjLe.rfl' _ | refine ObjLe_same ?_ | refine ObjLe_upd ?_ ?_ | refine ObjLe_new rfl ?_)) <;> rfl)))
      · have h : k = r.stops.length := by simp at h; omega
        subst h
        rw [shiftK_all]
        have ht := tail11 hP r l b hok hb hlen
        (refine WV_exit ?_; simp (maxSteps := 2000000) only [go_sem, init_env', Nat.reduceEqDiff, Nat.reduceAdd, Nat.reduceMul, reduceIte, Nat.reduceLeDiff, Nat.reduceLT, Nat.reduceBEq, reduceCtorEq])
        refine WV_freezeJ 900 (ds := flatS (shiftR r b).stops) (junk := List.replicate j .non) rfl ?_
        have hSl : (shiftR r b).stops.length = r.stops.length := by simp [shiftR]
        have hfl : (r.stops.length * 4 ≤ (flatS (shiftR r b).stops).length) = True := by rw [flatS_len, hSl]; simp
        have hgr : grp 4 r.stops.length ((flatS (shiftR r b).stops).take (r.stops.length * 4)) = (shiftR r b).stops.map Stop.cds := by
          rw [List.take_of_length_le (by rw [flatS_len, hSl]; exact Nat.le_refl _), ← hSl, grp_flatS]
        simp (maxSteps := 2000000) only [go_sem, init_env', Nat.reduceEqDiff, Nat.reduceAdd, Nat.reduceMul, reduceIte, Nat.reduceLeDiff, Nat.reduceLT, Nat.reduceBEq, reduceCtorEq, hfl, hgr]
        exact WV_sub (Sub_of (by simp (maxSteps := 2000000) only [go_sem, init_env', Nat.reduceEqDiff, Nat.reduceAdd, Nat.reduceMul, reduceIte, Nat.reduceLeDiff, Nat.reduceLT, Nat.reduceBEq, reduceCtorEq]; ((repeat' (first | exact EnvLe_e0 _ _ | refine EnvLe_upd ?_ ?_)) <;> ((try simp only [upd_app, e0_app, o0_app, Nat.reduceEqDiff, reduceIte]); first | exact AWk.refl _ _ | exact AWk.int (by omega) | exact AWk.int (by rw [w64 (by omega) (by omega)]; omega) | exact AWk.grow rfl | exact AWk.nil _ | exact AWk.of (by simp)))) (by simp (maxSteps := 2000000) only [go_sem, init_env', Nat.reduceEqDiff, Nat.reduceAdd, Nat.reduceMul, reduceIte, Nat.reduceLeDiff, Nat.reduceLT, Nat.reduceBEq, reduceCtorEq]; ((repeat' (first | exact ObjLe_o0 _ | exact ObjLe.rfl' _ | refine ObjLe_same ?_ | refine ObjLe_upd ?_ ?_ | refine ObjLe_new rfl ?_)) <;> rfl))) ht
end Go.Proofs.Ytbejgfpaokcnpaa
