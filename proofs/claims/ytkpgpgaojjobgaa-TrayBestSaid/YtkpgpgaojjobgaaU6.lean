/-
  Contracts of the layer's functions, of the laws' helpers and of the law; conditions: as each theorem states.
-/
import Derived.Test.YtkpgpgaojjobgaaU5
set_option linter.unusedVariables false
set_option linter.unusedSimpArgs false
/-
  The least end over all orders: plain.
-/
namespace Go.Proofs.Ytkpgpgaojjobgaa
open Go Go.V

theorem swapL_getD {o : List Nat} {i j : Nat} (hi : i < o.length) (hj : j < o.length) (k : Nat) : (swapL o i j).getD k 0 = if k = j then o.getD i 0 else if k = i then o.getD j 0 else o.getD k 0 := by
  unfold swapL
  rw [getD_setN (by rw [List.length_set]; exact hj), getD_setN hi]
/-- Each order is among those that swapping yields. -/
theorem permsF_all {n : Nat} : ∀ (f : Nat) (o o' : List Nat), f ≤ n → IsOrd n o → IsOrd n o' → (∀ i, i < n - f → o'.getD i 0 = o.getD i 0) → o' ∈ permsF n f o
  | 0, o, o', _, ho, ho', h => by
    have : o' = o := by
      refine List.ext_getElem (by rw [ho.len, ho'.len]) fun i h1 h2 => ?_
      have := h i (by rw [ho'.len] at h1; omega)
      rw [List.getD_eq_getElem?_getD, List.getD_eq_getElem?_getD, List.getElem?_eq_getElem h1, List.getElem?_eq_getElem h2] at this
      exact this
    rw [this]; simp [permsF]
  | f + 1, o, o', hf, ho, ho', h => by
    have hl := ho.len
    have hl' := ho'.len
    have hk : n - (f + 1) < o'.length := by omega
    have hmem : o'[n - (f + 1)] ∈ o := ho.mem (ho'.lt (List.getElem_mem hk))
    obtain ⟨i, hi, he⟩ := List.getElem_of_mem hmem
    have hik : n - (f + 1) ≤ i := by
      rcases Nat.lt_or_ge i (n - (f + 1)) with hlt | hge
      · exfalso
        have h1 := h i hlt
        have hi2 : i < o'.length := by omega
        rw [List.getD_eq_getElem?_getD, List.getD_eq_getElem?_getD, List.getElem?_eq_getElem hi2, List.getElem?_eq_getElem hi] at h1
        simp only [Option.getD_some] at h1
        have hnd := (ho'.nodup_iff.2 List.nodup_range)
        exact List.pairwise_iff_getElem.1 hnd i (n - (f + 1)) hi2 hk hlt (by rw [h1, he])
      · exact hge
    simp only [permsF]
    refine List.mem_flatMap.2 ⟨i - (n - (f + 1)), List.mem_range.2 (by omega), ?_⟩
    rw [show n - (f + 1) + (i - (n - (f + 1))) = i from by omega]
    refine permsF_all f _ o' (by omega) (swap_ord ho (by omega) (by omega)) ho' fun j hj => ?_
    rw [swapL_getD (by omega) hi]
    have eo : o'.getD (n - (f + 1)) 0 = o.getD i 0 := by
      rw [List.getD_eq_getElem?_getD, List.getD_eq_getElem?_getD, List.getElem?_eq_getElem hk, List.getElem?_eq_getElem hi]
      simp only [Option.getD_some, he]
    by_cases e1 : j = i
    · rw [if_pos e1]
      by_cases e2 : j = n - (f + 1)
      · rw [e2, eo, ← e1, e2]
      · omega
    · rw [if_neg e1]
      by_cases e2 : j = n - (f + 1)
      · rw [if_pos e2, e2, eo]
      · rw [if_neg e2]
        exact h j (by omega)
theorem permsS_all {n : Nat} {o : List Nat} (h : IsOrd n o) : o ∈ permsS n := permsF_all n _ o (Nat.le_refl _) (List.Perm.refl _) h fun i hi => by omega

/-- The end is not less than 0; with a press it is 1 or more. -/
theorem end_pos {t : Tray} (ht : TrayOk t) : 0 ≤ (goesS t).end_ ∧ (t.pres ≠ [] → 1 ≤ (goesS t).end_) := by
  have h := (goes_ok ht).inv
  have he := h.end_
  cases hl : (goesS t).plays.getLast? with
  | none =>
    rw [hl] at he
    refine ⟨by rw [he]; exact Int.le_refl _, fun hp => ?_⟩
    exfalso
    obtain ⟨p, l, hpl⟩ := List.exists_cons_of_ne_nil hp
    obtain ⟨j, hj, _⟩ := served_ok (goes_ok ht) (p := p) (by rw [hpl]; simp)
    rw [List.getLast?_eq_none_iff.1 hl] at hj
    simp at hj
  | some x =>
    rw [hl] at he
    simp only at he
    have hx := h.ply x (List.mem_of_getLast? hl)
    have hs := secs_ok ht (s := x.side.toNat) (by omega)
    unfold secsI at he
    omega
theorem endO_nonneg {t : Tray} (ht : TrayOk t) {o : List Nat} (ho : IsOrd t.n o) : 0 ≤ endO t o := (end_pos (arr_ok ht ho)).1
theorem bestG_min {t : Tray} (l : List (List Nat)) (h0 : ∀ o ∈ l, 0 ≤ endO t o) : ((bestG t l).1 = -1 ∧ l = []) ∨ (0 ≤ (bestG t l).1 ∧ ∀ o ∈ l, (bestG t l).1 ≤ endO t o) := by
  suffices h : ∀ (m pre : List (List Nat)), l = pre ++ m → (((bestG t pre).1 = -1 ∧ pre = []) ∨ (0 ≤ (bestG t pre).1 ∧ ∀ o ∈ pre, (bestG t pre).1 ≤ endO t o)) → (((bestG t l).1 = -1 ∧ l = []) ∨ (0 ≤ (bestG t l).1 ∧ ∀ o ∈ l, (bestG t l).1 ≤ endO t o)) from h l [] rfl (.inl ⟨rfl, rfl⟩)
  intro m
  induction m with
  | nil => intro pre hp hh; rw [hp, List.append_nil] at *; exact hh
  | cons a m ih =>
    intro pre hp hh
    refine ih (pre ++ [a]) (by rw [hp]; simp) (.inr ?_)
    have ha := h0 a (by rw [hp]; simp)
    rw [bestG_snoc]
    unfold bestStep
    rcases hh with ⟨h1, h2⟩ | ⟨h1, h2⟩
    · rw [if_pos (.inl (by rw [h1]; decide))]
      refine ⟨ha, fun o ho => ?_⟩
      rw [h2] at ho
      simp only [List.nil_append, List.mem_singleton] at ho
      rw [ho]; exact Int.le_refl _
    · by_cases hc : endO t a < (bestG t pre).1
      · rw [if_pos (.inr hc)]
        refine ⟨ha, fun o ho => ?_⟩
        rcases List.mem_append.1 ho with ho | ho
        · have := h2 o ho; simp only; omega
        · simp only [List.mem_singleton] at ho
          rw [ho]; exact Int.le_refl _
      · rw [if_neg (by omega)]
        refine ⟨h1, fun o ho => ?_⟩
        rcases List.mem_append.1 ho with ho | ho
        · exact h2 o ho
        · simp only [List.mem_singleton] at ho
          rw [ho]; omega
/-- The least end is that of an order, and not above that of any. -/
theorem best_least {t : Tray} (ht : TrayOk t) : (∃ o, IsOrd t.n o ∧ bestS t = (endO t o, some o)) ∧ ∀ o, IsOrd t.n o → (bestS t).1 ≤ endO t o := by
  have h0 : ∀ o ∈ permsS t.n, 0 ≤ endO t o := fun o ho => endO_nonneg ht (permsS_ord ho)
  have hne : permsS t.n ≠ [] := permsF_ne _ _ _
  rcases bestG_min (permsS t.n) h0 with ⟨_, h2⟩ | ⟨h1, h2⟩
  · exact absurd h2 hne
  · refine ⟨?_, fun o ho => h2 o (permsS_all ho)⟩
    rcases bestG_cases t (permsS t.n) with h3 | ⟨o, h3, h4⟩
    · have : (bestG t (permsS t.n)).1 = -1 := by rw [h3]
      omega
    · exact ⟨o, permsS_ord h4, h3⟩
/-- The order that there is. -/
theorem arrT_range {t : Tray} (ht : TrayOk t) : arrT t (List.range t.n) = t := by
  have hl : t.recs.length = t.n := rfl
  have e1 : (List.range t.n).map t.rc = t.recs := by
    refine List.ext_getElem (by simp [hl]) fun i h1 h2 => ?_
    simp [Tray.rc, h2]
  have e3 : ∀ p ∈ t.pres, arrP (List.range t.n) p = (fun p : Pr => p) p := fun p hp => by
    have h := (ht.pres p hp).1
    have hm : p.side.toNat / 2 < (List.range t.n).length := by rw [List.length_range]; omega
    have h2 := (List.nodup_range (n := t.n)).idxOf_getElem (p.side.toNat / 2) hm
    rw [List.getElem_range] at h2
    unfold arrP
    rw [h2]
    obtain ⟨s, x⟩ := p
    simp only at h ⊢
    congr 1
    omega
  have e2 : t.pres.map (arrP (List.range t.n)) = t.pres := (List.map_congr_left e3).trans (List.map_id' _)
  obtain ⟨r, a, w, s, p⟩ := t
  unfold arrT
  rw [e1, e2]
theorem range_ord (n : Nat) : IsOrd n (List.range n) := List.Perm.refl _
theorem ok_of {t : Tray} (ht : TrayOk t) (h : t.pres.length ≤ 12) : t.ok = true := by
  simp only [Tray.ok, Tray.okHead, Bool.and_eq_true, Bool.or_eq_true, beq_iff_eq, decide_eq_true_eq, List.all_eq_true, okRec, okPr, isSide, isTime, within]
  have h1 := ht.n1
  have h2 := ht.n6
  have h3 := ht.at_
  refine ⟨⟨⟨⟨⟨⟨by omega, by omega⟩, ht.way⟩, ht.step⟩, fun r hr => ht.recs r hr⟩, h⟩, fun p hp => ?_⟩
  have := ht.pres p hp
  omega

/-! ### The specification's orders -/
end Go.Proofs.Ytkpgpgaojjobgaa

namespace Go.Proofs.Ytkpgpgaojjobgaa
open Go Go.V
@[reducible] def o10_0 : List Ins := [⟨(some 2), .box 5 (.t 0), none, true⟩,
  ⟨(some 4), .mv (.k (.c (.bool false))), none, true⟩]
@[reducible] def o10_1 : List Ins := [⟨(some 11), .ld false 5 (.t 2), none, true⟩,
  ⟨(some 12), .call (.k (.fn 16 [])) [(.t 11)], none, true⟩,
  ⟨(some 13), .un .not (.t 12), none, true⟩,
  ⟨(some 14), .mv (.t 13), none, true⟩,
  ⟨(some 15), .fa 0 (.t 2), (some (14, false)), true⟩,
  ⟨(some 16), .ld true 1 (.t 15), (some (14, false)), true⟩,
  ⟨(some 17), .len (.t 16), (some (14, false)), true⟩,
  ⟨(some 18), .bin .gtr (.t 17) (.k (.c (.int .i64 4))), (some (14, false)), true⟩,
  ⟨(some 19), .pick (.t 14) (.k (.c (.bool true))) (.t 18), none, true⟩,
  ⟨(some 20), .mv (.t 19), none, true⟩,
  ⟨(some 21), .mv (.t 1), (some (20, false)), true⟩,
  ⟨(some 22), .len (.t 21), (some (20, false)), true⟩,
  ⟨(some 23), .bin .gtr (.t 22) (.k (.c (.int .i64 40))), (some (20, false)), true⟩,
  ⟨(some 24), .pick (.t 20) (.k (.c (.bool true))) (.t 23), none, true⟩,
  ⟨(some 25), .mv (.t 24), none, true⟩,
  ⟨(some 26), .ld false 5 (.t 2), (some (25, false)), true⟩,
  ⟨(some 27), .mv (.t 1), (some (25, false)), true⟩,
  ⟨(some 28), .call (.k (.fn 36 [])) [(.t 26), (.t 27)], (some (25, false)), true⟩,
  ⟨(some 29), .un .not (.t 28), (some (25, false)), true⟩,
  ⟨(some 30), .pick (.t 25) (.k (.c (.bool true))) (.t 29), none, true⟩]
@[reducible] def o10_2 : List Ins := [⟨(some 31), .call (.k (.fn 19 [])) [], none, true⟩,
  ⟨(some 4), .mv (.t 31), none, true⟩]
@[reducible] def v10_3 : VC := (.seq (.ops o10_2) .ret)
@[reducible] def v10_4 : VC := (.cond (.t 30) v10_3 .skip)
@[reducible] def o10_5 : List Ins := [⟨(some 33), .ld false 5 (.t 2), none, true⟩,
  ⟨(some 34), .call (.k (.fn 37 [])) [(.t 33)], none, true⟩,
  ⟨(some 32), .mv (.t 34), none, true⟩,
  ⟨(some 35), .ext (.t 32) 0, none, true⟩,
  ⟨(some 36), .ext (.t 32) 1, none, true⟩,
  ⟨(some 5), .mv (.t 35), none, true⟩,
  ⟨(some 6), .mv (.t 36), none, true⟩]
@[reducible] def o10_6 : List Ins := [⟨(some 38), .ld false 5 (.t 2), none, true⟩,
  ⟨(some 39), .call (.k (.fn 38 [])) [(.t 38)], none, true⟩,
  ⟨(some 37), .mv (.t 39), none, true⟩,
  ⟨(some 40), .ext (.t 37) 0, none, true⟩,
  ⟨(some 41), .ext (.t 37) 1, none, true⟩,
  ⟨(some 7), .mv (.t 40), none, true⟩,
  ⟨(some 8), .mv (.t 41), none, true⟩]
@[reducible] def o10_7 : List Ins := [⟨(some 43), .ld false 5 (.t 2), none, true⟩,
  ⟨(some 44), .mv (.t 1), none, true⟩,
  ⟨(some 45), .call (.k (.fn 39 [])) [(.t 43), (.t 44)], none, true⟩,
  ⟨(some 46), .call (.k (.fn 38 [])) [(.t 45)], none, true⟩,
  ⟨(some 42), .mv (.t 46), none, true⟩,
  ⟨(some 47), .ext (.t 42) 0, none, true⟩,
  ⟨(some 48), .ext (.t 42) 1, none, true⟩,
  ⟨(some 9), .mv (.t 47), none, true⟩,
  ⟨(some 10), .mv (.t 48), none, true⟩]
@[reducible] def o10_8 : List Ins := [⟨(some 49), .mv (.t 6), none, true⟩,
  ⟨(some 50), .mv (.t 8), none, true⟩,
  ⟨(some 51), .bin .neq (.t 49) (.t 50), none, true⟩,
  ⟨(some 52), .mv (.t 51), none, true⟩,
  ⟨(some 53), .mv (.t 8), (some (52, false)), true⟩,
  ⟨(some 54), .mv (.t 10), (some (52, false)), true⟩,
  ⟨(some 55), .bin .neq (.t 53) (.t 54), (some (52, false)), true⟩,
  ⟨(some 56), .pick (.t 52) (.k (.c (.bool true))) (.t 55), none, true⟩,
  ⟨(some 57), .mv (.t 56), none, true⟩,
  ⟨(some 58), .mv (.t 6), (some (57, false)), true⟩,
  ⟨(some 59), .bin .neq (.t 58) (.k (.c (.int .i64 0))), (some (57, false)), true⟩,
  ⟨(some 60), .mv (.t 59), (some (57, false)), true⟩,
  ⟨(some 61), .mv (.t 6), (some (60, true)), true⟩,
  ⟨(some 62), .bin .neq (.t 61) (.k (.c (.int .i64 3))), (some (60, true)), true⟩,
  ⟨(some 63), .pick (.t 60) (.t 62) (.k (.c (.bool false))), (some (57, false)), true⟩,
  ⟨(some 64), .pick (.t 57) (.k (.c (.bool true))) (.t 63), none, true⟩]
@[reducible] def o10_9 : List Ins := [⟨(some 4), .mv (.k (.c (.bool false))), none, true⟩]
@[reducible] def v10_10 : VC := (.seq (.ops o10_9) .ret)
@[reducible] def v10_11 : VC := (.cond (.t 64) v10_10 .skip)
@[reducible] def o10_12 : List Ins := [⟨(some 65), .mv (.t 6), none, true⟩,
  ⟨(some 66), .bin .neq (.t 65) (.k (.c (.int .i64 0))), none, true⟩,
  ⟨(some 67), .mv (.t 66), none, true⟩,
  ⟨(some 68), .mv (.t 5), (some (67, false)), true⟩,
  ⟨(some 69), .bin .geq (.t 68) (.k (.c (.int .i64 1))), (some (67, false)), true⟩,
  ⟨(some 70), .mv (.t 69), (some (67, false)), true⟩,
  ⟨(some 71), .mv (.t 5), (some (70, true)), true⟩,
  ⟨(some 72), .mv (.t 7), (some (70, true)), true⟩,
  ⟨(some 73), .bin .leq (.t 71) (.t 72), (some (70, true)), true⟩,
  ⟨(some 74), .pick (.t 70) (.t 73) (.k (.c (.bool false))), (some (67, false)), true⟩,
  ⟨(some 75), .mv (.t 74), (some (67, false)), true⟩,
  ⟨(some 76), .mv (.t 5), (some (75, true)), true⟩,
  ⟨(some 77), .mv (.t 9), (some (75, true)), true⟩,
  ⟨(some 78), .bin .leq (.t 76) (.t 77), (some (75, true)), true⟩,
  ⟨(some 79), .pick (.t 75) (.t 78) (.k (.c (.bool false))), (some (67, false)), true⟩,
  ⟨(some 80), .pick (.t 67) (.k (.c (.bool true))) (.t 79), none, true⟩,
  ⟨(some 81), .mv (.t 80), none, true⟩,
  ⟨(some 82), .call (.k (.fn 19 [])) [], (some (81, true)), true⟩,
  ⟨(some 83), .pick (.t 81) (.t 82) (.k (.c (.bool false))), none, true⟩,
  ⟨(some 4), .mv (.t 83), none, true⟩]
@[reducible] def v10_13 : VC := (.seq (.ops o10_12) .ret)
@[reducible] def v10_14 : VC := (.seq (.seq (.ops o10_8) v10_11) v10_13)
@[reducible] def v10_15 : VC := (.seq (.ops o10_7) v10_14)
@[reducible] def v10_16 : VC := (.seq (.ops o10_6) v10_15)
@[reducible] def v10_17 : VC := (.seq (.ops o10_5) v10_16)
@[reducible] def v10_18 : VC := (.seq (.seq (.ops o10_1) v10_4) v10_17)
def ir10 : FC := ⟨2, 84, [.t 4], (.seq (.ops o10_0) v10_18)⟩
theorem c10 : compM Try.prog [] 10 = some ir10 := by kernel_rfl
theorem arrT_ok {t : Tray} (hok : t.ok = true) {o : List Nat} (ho : IsOrd t.n o) : (arrT t o).ok = true := by
  obtain ⟨ht, h12⟩ := Tray.ok_spec hok
  exact ok_of (arr_ok ht ho) (by show (t.pres.map _).length ≤ 12; rw [List.length_map]; exact h12)
theorem arrT_pressed {t : Tray} (hok : t.ok = true) {o : List Nat} (ho : IsOrd t.n o) : pressedE (arrT t o) = pressedE t := by
  unfold pressedE
  rw [arrT_ok hok ho, hok]
  have : (arrT t o).pres.length = t.pres.length := by show (t.pres.map _).length = _; rw [List.length_map]
  rw [this]
set_option maxRecDepth 20000 in
set_option maxHeartbeats 4000000 in
/-- The best order. -/
theorem law10 (t : Tray) (o : List Int) : FSpec Try.prog 10 [t.av, .c (ints o)] (.c (.bool true)) := by
  have hready := ready16 t
  by_cases hok : t.ok = true
  rotate_left
  · have hok : t.ok = false := by simpa using hok
    rw [hok] at hready
    refine FSpec_of c10 (Nat.le_refl _) (by decide) fun C hP hN hC hL => ?_
    simp only [ir10, Tray.av]
    (repeat ((first | refine WV_seq_ ?_ | refine WV_block ?_ | refine WV_ops ?_ | refine WV_skip ?_ | refine WV_exit ?_); (try simp only [go_sem, init_env', Nat.reduceEqDiff, Nat.reduceAdd, Nat.reduceMul, reduceIte, Nat.reduceLeDiff, Nat.reduceLT, Nat.reduceBEq, reduceCtorEq, hP, ints]); (repeat (refine And.intro (by first | omega | (intros; simp_all; done) | (intros; simp_all; omega)) ?_))))
    (refine AS_pure (hready) rfl rfl rfl rfl rfl ?_; simp only [go_sem, init_env', Nat.reduceEqDiff, Nat.reduceAdd, Nat.reduceMul, reduceIte, Nat.reduceLeDiff, Nat.reduceLT, Nat.reduceBEq, reduceCtorEq, hP, Tray.av]; (repeat (refine And.intro (by first | omega | (intros; simp_all; done) | (intros; simp_all; omega)) ?_)); (repeat ((first | refine WV_seq_ ?_ | refine WV_block ?_ | refine WV_ops ?_ | refine WV_skip ?_ | refine WV_exit ?_); (try simp only [go_sem, init_env', Nat.reduceEqDiff, Nat.reduceAdd, Nat.reduceMul, reduceIte, Nat.reduceLeDiff, Nat.reduceLT, Nat.reduceBEq, reduceCtorEq, hP, Tray.av]); (repeat (refine And.intro (by first | omega | (intros; simp_all; done) | (intros; simp_all; omega)) ?_)))))
    (refine AG_skip ?_; simp only [go_sem, init_env', Nat.reduceEqDiff, Nat.reduceAdd, Nat.reduceMul, reduceIte, Nat.reduceLeDiff, Nat.reduceLT, Nat.reduceBEq, reduceCtorEq, hP, ]; (repeat (refine And.intro (by first | omega | (intros; simp_all; done) | (intros; simp_all; omega)) ?_)); (repeat ((first | refine WV_seq_ ?_ | refine WV_block ?_ | refine WV_ops ?_ | refine WV_skip ?_ | refine WV_exit ?_); (try simp only [go_sem, init_env', Nat.reduceEqDiff, Nat.reduceAdd, Nat.reduceMul, reduceIte, Nat.reduceLeDiff, Nat.reduceLT, Nat.reduceBEq, reduceCtorEq, hP, ]); (repeat (refine And.intro (by first | omega | (intros; simp_all; done) | (intros; simp_all; omega)) ?_)))))
    (refine WV_cond rfl (fun h => ?_) (fun h => ?_))
    · (repeat ((first | refine WV_seq_ ?_ | refine WV_block ?_ | refine WV_ops ?_ | refine WV_skip ?_ | refine WV_exit ?_); (try simp only [go_sem, init_env', Nat.reduceEqDiff, Nat.reduceAdd, Nat.reduceMul, reduceIte, Nat.reduceLeDiff, Nat.reduceLT, Nat.reduceBEq, reduceCtorEq, hP, ]); (repeat (refine And.intro (by first | omega | (intros; simp_all; done) | (intros; simp_all; omega)) ?_))))
      (refine AS_pure (works19) rfl rfl rfl rfl rfl ?_; simp only [go_sem, init_env', Nat.reduceEqDiff, Nat.reduceAdd, Nat.reduceMul, reduceIte, Nat.reduceLeDiff, Nat.reduceLT, Nat.reduceBEq, reduceCtorEq, hP, ]; (repeat (refine And.intro (by first | omega | (intros; simp_all; done) | (intros; simp_all; omega)) ?_)); (repeat ((first | refine WV_seq_ ?_ | refine WV_block ?_ | refine WV_ops ?_ | refine WV_skip ?_ | refine WV_exit ?_); (try simp only [go_sem, init_env', Nat.reduceEqDiff, Nat.reduceAdd, Nat.reduceMul, reduceIte, Nat.reduceLeDiff, Nat.reduceLT, Nat.reduceBEq, reduceCtorEq, hP, ]); (repeat (refine And.intro (by first | omega | (intros; simp_all; done) | (intros; simp_all; omega)) ?_)))))
      (refine WV_ret ?_; simp only [thenQ, inQ, RetQ, RetOk, resAll, resA]; simp only [go_sem, init_env', Nat.reduceEqDiff, Nat.reduceAdd, Nat.reduceMul, reduceIte, Nat.reduceLeDiff, Nat.reduceLT, Nat.reduceBEq, reduceCtorEq, tupA, AV.port, AV.portL, exists_eq_left', ]; (first | exact AVle.of rfl | refine AVle.of ?_ | skip))
    · simp at h
  rw [hok] at hready
  obtain ⟨ht, h12⟩ := Tray.ok_spec hok
  have hn6 := ht.n6
  have hrl : t.recs.length = t.n := rfl
  by_cases hsz : t.n ≤ 4 ∧ o.length ≤ 40
  rotate_left
  · have hb : (decide (4 < (t.n : Int)) || decide (40 < (o.length : Int))) = true := by simp; omega
    refine FSpec_of c10 (Nat.le_refl _) (by decide) fun C hP hN hC hL => ?_
    simp only [ir10, Tray.av]
    (repeat ((first | refine WV_seq_ ?_ | refine WV_block ?_ | refine WV_ops ?_ | refine WV_skip ?_ | refine WV_exit ?_); (try simp only [go_sem, init_env', Nat.reduceEqDiff, Nat.reduceAdd, Nat.reduceMul, reduceIte, Nat.reduceLeDiff, Nat.reduceLT, Nat.reduceBEq, reduceCtorEq, hP, ints, List.length_map]); (repeat (refine And.intro (by first | omega | (intros; simp_all; done) | (intros; simp_all; omega)) ?_))))
    (refine AS_pure (hready) rfl rfl rfl rfl rfl ?_; simp only [go_sem, init_env', Nat.reduceEqDiff, Nat.reduceAdd, Nat.reduceMul, reduceIte, Nat.reduceLeDiff, Nat.reduceLT, Nat.reduceBEq, reduceCtorEq, hP, Tray.av, recsC, List.length_map, hrl, hb]; (repeat (refine And.intro (by first | omega | (intros; simp_all; done) | (intros; simp_all; omega)) ?_)); (repeat ((first | refine WV_seq_ ?_ | refine WV_block ?_ | refine WV_ops ?_ | refine WV_skip ?_ | refine WV_exit ?_); (try simp only [go_sem, init_env', Nat.reduceEqDiff, Nat.reduceAdd, Nat.reduceMul, reduceIte, Nat.reduceLeDiff, Nat.reduceLT, Nat.reduceBEq, reduceCtorEq, hP, Tray.av, recsC, List.length_map, hrl, hb]); (repeat (refine And.intro (by first | omega | (intros; simp_all; done) | (intros; simp_all; omega)) ?_)))))
    (refine AG_skip ?_; simp only [go_sem, init_env', Nat.reduceEqDiff, Nat.reduceAdd, Nat.reduceMul, reduceIte, Nat.reduceLeDiff, Nat.reduceLT, Nat.reduceBEq, reduceCtorEq, hP, ]; (repeat (refine And.intro (by first | omega | (intros; simp_all; done) | (intros; simp_all; omega)) ?_)); (repeat ((first | refine WV_seq_ ?_ | refine WV_block ?_ | refine WV_ops ?_ | refine WV_skip ?_ | refine WV_exit ?_); (try simp only [go_sem, init_env', Nat.reduceEqDiff, Nat.reduceAdd, Nat.reduceMul, reduceIte, Nat.reduceLeDiff, Nat.reduceLT, Nat.reduceBEq, reduceCtorEq, hP, ]); (repeat (refine And.intro (by first | omega | (intros; simp_all; done) | (intros; simp_all; omega)) ?_)))))
    (refine WV_cond rfl (fun h => ?_) (fun h => ?_))
    · (repeat ((first | refine WV_seq_ ?_ | refine WV_block ?_ | refine WV_ops ?_ | refine WV_skip ?_ | refine WV_exit ?_); (try simp only [go_sem, init_env', Nat.reduceEqDiff, Nat.reduceAdd, Nat.reduceMul, reduceIte, Nat.reduceLeDiff, Nat.reduceLT, Nat.reduceBEq, reduceCtorEq, hP, ]); (repeat (refine And.intro (by first | omega | (intros; simp_all; done) | (intros; simp_all; omega)) ?_))))
      (refine AS_pure (works19) rfl rfl rfl rfl rfl ?_; simp only [go_sem, init_env', Nat.reduceEqDiff, Nat.reduceAdd, Nat.reduceMul, reduceIte, Nat.reduceLeDiff, Nat.reduceLT, Nat.reduceBEq, reduceCtorEq, hP, ]; (repeat (refine And.intro (by first | omega | (intros; simp_all; done) | (intros; simp_all; omega)) ?_)); (repeat ((first | refine WV_seq_ ?_ | refine WV_block ?_ | refine WV_ops ?_ | refine WV_skip ?_ | refine WV_exit ?_); (try simp only [go_sem, init_env', Nat.reduceEqDiff, Nat.reduceAdd, Nat.reduceMul, reduceIte, Nat.reduceLeDiff, Nat.reduceLT, Nat.reduceBEq, reduceCtorEq, hP, ]); (repeat (refine And.intro (by first | omega | (intros; simp_all; done) | (intros; simp_all; omega)) ?_)))))
      (refine WV_ret ?_; simp only [thenQ, inQ, RetQ, RetOk, resAll, resA]; simp only [go_sem, init_env', Nat.reduceEqDiff, Nat.reduceAdd, Nat.reduceMul, reduceIte, Nat.reduceLeDiff, Nat.reduceLT, Nat.reduceBEq, reduceCtorEq, tupA, AV.port, AV.portL, exists_eq_left', ]; (first | exact AVle.of rfl | refine AVle.of ?_ | skip))
    · simp at h
  obtain ⟨hn4, ho40⟩ := hsz
  have d1 : decide (4 < (t.n : Int)) = false := by simp; omega
  have d2 : decide (40 < (o.length : Int)) = false := by simp; omega
  have hio := isorder36 t o (by omega) (by omega)
  have hic : (o.map fun n => [CD.int .i64 n]) = o.map icd := rfl
  cases hib : isOrdB t.n o
  · rw [hib] at hio
    refine FSpec_of c10 (Nat.le_refl _) (by decide) fun C hP hN hC hL => ?_
    simp only [ir10, Tray.av]
    (repeat ((first | refine WV_seq_ ?_ | refine WV_block ?_ | refine WV_ops ?_ | refine WV_skip ?_ | refine WV_exit ?_); (try simp only [go_sem, init_env', Nat.reduceEqDiff, Nat.reduceAdd, Nat.reduceMul, reduceIte, Nat.reduceLeDiff, Nat.reduceLT, Nat.reduceBEq, reduceCtorEq, hP, ints, List.length_map]); (repeat (refine And.intro (by first | omega | (intros; simp_all; done) | (intros; simp_all; omega)) ?_))))
    (refine AS_pure (hready) rfl rfl rfl rfl rfl ?_; simp only [go_sem, init_env', Nat.reduceEqDiff, Nat.reduceAdd, Nat.reduceMul, reduceIte, Nat.reduceLeDiff, Nat.reduceLT, Nat.reduceBEq, reduceCtorEq, hP, Tray.av, recsC, List.length_map, hrl, d1, d2]; (repeat (refine And.intro (by first | omega | (intros; simp_all; done) | (intros; simp_all; omega)) ?_)); (repeat ((first | refine WV_seq_ ?_ | refine WV_block ?_ | refine WV_ops ?_ | refine WV_skip ?_ | refine WV_exit ?_); (try simp only [go_sem, init_env', Nat.reduceEqDiff, Nat.reduceAdd, Nat.reduceMul, reduceIte, Nat.reduceLeDiff, Nat.reduceLT, Nat.reduceBEq, reduceCtorEq, hP, Tray.av, recsC, List.length_map, hrl, d1, d2]); (repeat (refine And.intro (by first | omega | (intros; simp_all; done) | (intros; simp_all; omega)) ?_)))))
    (refine AG_pure (fun hG => hio) rfl (fun hG => by first | (simp only [go_sem, init_env', Nat.reduceEqDiff, Nat.reduceAdd, Nat.reduceMul, reduceIte, Nat.reduceLeDiff, Nat.reduceLT, Nat.reduceBEq, reduceCtorEq, hG]; done) | (simp only [go_sem, init_env', Nat.reduceEqDiff, Nat.reduceAdd, Nat.reduceMul, reduceIte, Nat.reduceLeDiff, Nat.reduceLT, Nat.reduceBEq, reduceCtorEq]; revert hG; simp; done) | (simp only [go_sem, init_env', Nat.reduceEqDiff, Nat.reduceAdd, Nat.reduceMul, reduceIte, Nat.reduceLeDiff, Nat.reduceLT, Nat.reduceBEq, reduceCtorEq, hG]; simp_all; done) | (revert hG; simp; done) | simp_all) rfl rfl rfl ?_; simp only [go_sem, init_env', Nat.reduceEqDiff, Nat.reduceAdd, Nat.reduceMul, reduceIte, Nat.reduceLeDiff, Nat.reduceLT, Nat.reduceBEq, reduceCtorEq, hP, Tray.av, recsC]; (repeat (refine And.intro (by first | omega | (intros; simp_all; done) | (intros; simp_all; omega)) ?_)); (repeat ((first | refine WV_seq_ ?_ | refine WV_block ?_ | refine WV_ops ?_ | refine WV_skip ?_ | refine WV_exit ?_); (try simp only [go_sem, init_env', Nat.reduceEqDiff, Nat.reduceAdd, Nat.reduceMul, reduceIte, Nat.reduceLeDiff, Nat.reduceLT, Nat.reduceBEq, reduceCtorEq, hP, Tray.av, recsC]); (repeat (refine And.intro (by first | omega | (intros; simp_all; done) | (intros; simp_all; omega)) ?_)))))
    (refine WV_cond rfl (fun h => ?_) (fun h => ?_))
    · (repeat ((first | refine WV_seq_ ?_ | refine WV_block ?_ | refine WV_ops ?_ | refine WV_skip ?_ | refine WV_exit ?_); (try simp only [go_sem, init_env', Nat.reduceEqDiff, Nat.reduceAdd, Nat.reduceMul, reduceIte, Nat.reduceLeDiff, Nat.reduceLT, Nat.reduceBEq, reduceCtorEq, hP, ]); (repeat (refine And.intro (by first | omega | (intros; simp_all; done) | (intros; simp_all; omega)) ?_))))
      (refine AS_pure (works19) rfl rfl rfl rfl rfl ?_; simp only [go_sem, init_env', Nat.reduceEqDiff, Nat.reduceAdd, Nat.reduceMul, reduceIte, Nat.reduceLeDiff, Nat.reduceLT, Nat.reduceBEq, reduceCtorEq, hP, ]; (repeat (refine And.intro (by first | omega | (intros; simp_all; done) | (intros; simp_all; omega)) ?_)); (repeat ((first | refine WV_seq_ ?_ | refine WV_block ?_ | refine WV_ops ?_ | refine WV_skip ?_ | refine WV_exit ?_); (try simp only [go_sem, init_env', Nat.reduceEqDiff, Nat.reduceAdd, Nat.reduceMul, reduceIte, Nat.reduceLeDiff, Nat.reduceLT, Nat.reduceBEq, reduceCtorEq, hP, ]); (repeat (refine And.intro (by first | omega | (intros; simp_all; done) | (intros; simp_all; omega)) ?_)))))
      (refine WV_ret ?_; simp only [thenQ, inQ, RetQ, RetOk, resAll, resA]; simp only [go_sem, init_env', Nat.reduceEqDiff, Nat.reduceAdd, Nat.reduceMul, reduceIte, Nat.reduceLeDiff, Nat.reduceLT, Nat.reduceBEq, reduceCtorEq, tupA, AV.port, AV.portL, exists_eq_left', ]; (first | exact AVle.of rfl | refine AVle.of ?_ | skip))
    · simp at h
  rw [hib] at hio
  obtain ⟨π, hpi, rfl⟩ := isOrd_spec hib
  have d2 : decide (40 < (π.length : Int)) = false := by simp only [List.length_map] at ho40; simp; omega
  have ha := arranged39 ht hpi
  rw [natsC_ints] at ha
  simp only [ints] at ha
  have b1 := soonest37 t
  have b2 := end38 t
  have b3 := end38 (arrT t π)
  have hav : (arrT t π).av = .agg [.c (recsC (arrT t π).recs), iv t.at_, iv t.way, iv t.step, .c (prsC (arrT t π).pres)] := rfl
  by_cases h0 : pressedE t = 0
  · have h0' : pressedE (arrT t π) = 0 := by rw [arrT_pressed hok hpi]; exact h0
    rw [show soonR t = ((bestS t).1, 0) by unfold soonR; rw [if_pos h0]] at b1
    rw [show endR t = ((goesS t).end_, 0) by unfold endR; rw [if_pos h0]] at b2
    rw [show endR (arrT t π) = (endO t π, 0) by unfold endR; rw [if_pos h0']; rfl] at b3
    rw [hav] at ha b3
    obtain ⟨⟨o1, k1, k2⟩, k3⟩ := best_least ht
    have hp0 : t.pres ≠ [] := by intro h; exact (pressed_zero h0).2 (by rw [h]; rfl)
    have k4 : 1 ≤ endO t o1 := (end_pos (arr_ok ht k1)).2 (by intro h; exact hp0 (List.map_eq_nil_iff.1 h))
    have k5 : (bestS t).1 = endO t o1 := by rw [k2]
    have k6 := k3 π hpi
    have k7 := k3 _ (range_ord t.n)
    have k8 : endO t (List.range t.n) = (goesS t).end_ := by unfold endO; rw [arrT_range ht]
    have f1 : decide (1 ≤ (bestS t).1) = true := by simp; omega
    have f2 : decide ((bestS t).1 ≤ (goesS t).end_) = true := by simp; omega
    have f3 : decide ((bestS t).1 ≤ endO t π) = true := by simp; omega
    generalize (bestS t).1 = B at *
    generalize (goesS t).end_ = E1 at *
    generalize endO t π = E2 at *
    generalize (arrT t π).recs = R1 at *
    generalize (arrT t π).pres = P1 at *
    refine FSpec_of c10 (Nat.le_refl _) (by decide) fun C hP hN hC hL => ?_
    simp only [ir10, Tray.av]
    (repeat ((first | refine WV_seq_ ?_ | refine WV_block ?_ | refine WV_ops ?_ | refine WV_skip ?_ | refine WV_exit ?_); (try simp only [go_sem, init_env', Nat.reduceEqDiff, Nat.reduceAdd, Nat.reduceMul, reduceIte, Nat.reduceLeDiff, Nat.reduceLT, Nat.reduceBEq, reduceCtorEq, hP, ints, List.length_map]); (repeat (refine And.intro (by first | omega | (intros; simp_all; done) | (intros; simp_all; omega)) ?_))))
    (refine AS_pure (hready) rfl rfl rfl rfl rfl ?_; simp only [go_sem, init_env', Nat.reduceEqDiff, Nat.reduceAdd, Nat.reduceMul, reduceIte, Nat.reduceLeDiff, Nat.reduceLT, Nat.reduceBEq, reduceCtorEq, hP, Tray.av, recsC, List.length_map, hrl, d1, d2]; (repeat (refine And.intro (by first | omega | (intros; simp_all; done) | (intros; simp_all; omega)) ?_)); (repeat ((first | refine WV_seq_ ?_ | refine WV_block ?_ | refine WV_ops ?_ | refine WV_skip ?_ | refine WV_exit ?_); (try simp only [go_sem, init_env', Nat.reduceEqDiff, Nat.reduceAdd, Nat.reduceMul, reduceIte, Nat.reduceLeDiff, Nat.reduceLT, Nat.reduceBEq, reduceCtorEq, hP, Tray.av, recsC, List.length_map, hrl, d1, d2]); (repeat (refine And.intro (by first | omega | (intros; simp_all; done) | (intros; simp_all; omega)) ?_)))))
    (refine AG_pure (fun hG => hio) rfl (fun hG => by first | (simp only [go_sem, init_env', Nat.reduceEqDiff, Nat.reduceAdd, Nat.reduceMul, reduceIte, Nat.reduceLeDiff, Nat.reduceLT, Nat.reduceBEq, reduceCtorEq, hG]; done) | (simp only [go_sem, init_env', Nat.reduceEqDiff, Nat.reduceAdd, Nat.reduceMul, reduceIte, Nat.reduceLeDiff, Nat.reduceLT, Nat.reduceBEq, reduceCtorEq]; revert hG; simp; done) | (simp only [go_sem, init_env', Nat.reduceEqDiff, Nat.reduceAdd, Nat.reduceMul, reduceIte, Nat.reduceLeDiff, Nat.reduceLT, Nat.reduceBEq, reduceCtorEq, hG]; simp_all; done) | (revert hG; simp; done) | simp_all) rfl rfl rfl ?_; simp only [go_sem, init_env', Nat.reduceEqDiff, Nat.reduceAdd, Nat.reduceMul, reduceIte, Nat.reduceLeDiff, Nat.reduceLT, Nat.reduceBEq, reduceCtorEq, hP, Tray.av, recsC]; (repeat (refine And.intro (by first | omega | (intros; simp_all; done) | (intros; simp_all; omega)) ?_)); (repeat ((first | refine WV_seq_ ?_ | refine WV_block ?_ | refine WV_ops ?_ | refine WV_skip ?_ | refine WV_exit ?_); (try simp only [go_sem, init_env', Nat.reduceEqDiff, Nat.reduceAdd, Nat.reduceMul, reduceIte, Nat.reduceLeDiff, Nat.reduceLT, Nat.reduceBEq, reduceCtorEq, hP, Tray.av, recsC]); (repeat (refine And.intro (by first | omega | (intros; simp_all; done) | (intros; simp_all; omega)) ?_)))))
    (refine WV_cond rfl (fun h => ?_) (fun h => ?_))
    · simp at h
    (repeat ((first | refine WV_seq_ ?_ | refine WV_block ?_ | refine WV_ops ?_ | refine WV_skip ?_ | refine WV_exit ?_); (try simp only [go_sem, init_env', Nat.reduceEqDiff, Nat.reduceAdd, Nat.reduceMul, reduceIte, Nat.reduceLeDiff, Nat.reduceLT, Nat.reduceBEq, reduceCtorEq, hP, ]); (repeat (refine And.intro (by first | omega | (intros; simp_all; done) | (intros; simp_all; omega)) ?_))))
    (refine AS_pure (b1) rfl rfl rfl rfl rfl ?_; simp only [go_sem, init_env', Nat.reduceEqDiff, Nat.reduceAdd, Nat.reduceMul, reduceIte, Nat.reduceLeDiff, Nat.reduceLT, Nat.reduceBEq, reduceCtorEq, hP, Tray.av, recsC]; (repeat (refine And.intro (by first | omega | (intros; simp_all; done) | (intros; simp_all; omega)) ?_)); (repeat ((first | refine WV_seq_ ?_ | refine WV_block ?_ | refine WV_ops ?_ | refine WV_skip ?_ | refine WV_exit ?_); (try simp only [go_sem, init_env', Nat.reduceEqDiff, Nat.reduceAdd, Nat.reduceMul, reduceIte, Nat.reduceLeDiff, Nat.reduceLT, Nat.reduceBEq, reduceCtorEq, hP, Tray.av, recsC]); (repeat (refine And.intro (by first | omega | (intros; simp_all; done) | (intros; simp_all; omega)) ?_)))))
    (refine AS_pure (b2) rfl rfl rfl rfl rfl ?_; simp only [go_sem, init_env', Nat.reduceEqDiff, Nat.reduceAdd, Nat.reduceMul, reduceIte, Nat.reduceLeDiff, Nat.reduceLT, Nat.reduceBEq, reduceCtorEq, hP, Tray.av, recsC]; (repeat (refine And.intro (by first | omega | (intros; simp_all; done) | (intros; simp_all; omega)) ?_)); (repeat ((first | refine WV_seq_ ?_ | refine WV_block ?_ | refine WV_ops ?_ | refine WV_skip ?_ | refine WV_exit ?_); (try simp only [go_sem, init_env', Nat.reduceEqDiff, Nat.reduceAdd, Nat.reduceMul, reduceIte, Nat.reduceLeDiff, Nat.reduceLT, Nat.reduceBEq, reduceCtorEq, hP, Tray.av, recsC]); (repeat (refine And.intro (by first | omega | (intros; simp_all; done) | (intros; simp_all; omega)) ?_)))))
    (refine AS_pure (ha) rfl rfl rfl rfl rfl ?_; simp only [go_sem, init_env', Nat.reduceEqDiff, Nat.reduceAdd, Nat.reduceMul, reduceIte, Nat.reduceLeDiff, Nat.reduceLT, Nat.reduceBEq, reduceCtorEq, hP, Tray.av, recsC, prsC]; (repeat (refine And.intro (by first | omega | (intros; simp_all; done) | (intros; simp_all; omega)) ?_)); (repeat ((first | refine WV_seq_ ?_ | refine WV_block ?_ | refine WV_ops ?_ | refine WV_skip ?_ | refine WV_exit ?_); (try simp only [go_sem, init_env', Nat.reduceEqDiff, Nat.reduceAdd, Nat.reduceMul, reduceIte, Nat.reduceLeDiff, Nat.reduceLT, Nat.reduceBEq, reduceCtorEq, hP, Tray.av, recsC, prsC]); (repeat (refine And.intro (by first | omega | (intros; simp_all; done) | (intros; simp_all; omega)) ?_)))))
    (refine AS_pure (b3) rfl rfl rfl rfl rfl ?_; simp only [go_sem, init_env', Nat.reduceEqDiff, Nat.reduceAdd, Nat.reduceMul, reduceIte, Nat.reduceLeDiff, Nat.reduceLT, Nat.reduceBEq, reduceCtorEq, hP, Tray.av, recsC, prsC, bne_self_eq_false]; (repeat (refine And.intro (by first | omega | (intros; simp_all; done) | (intros; simp_all; omega)) ?_)); (repeat ((first | refine WV_seq_ ?_ | refine WV_block ?_ | refine WV_ops ?_ | refine WV_skip ?_ | refine WV_exit ?_); (try simp only [go_sem, init_env', Nat.reduceEqDiff, Nat.reduceAdd, Nat.reduceMul, reduceIte, Nat.reduceLeDiff, Nat.reduceLT, Nat.reduceBEq, reduceCtorEq, hP, Tray.av, recsC, prsC, bne_self_eq_false]); (repeat (refine And.intro (by first | omega | (intros; simp_all; done) | (intros; simp_all; omega)) ?_)))))
    (refine WV_cond rfl (fun h => ?_) (fun h => ?_))
    · simp at h
    (repeat ((first | refine WV_seq_ ?_ | refine WV_block ?_ | refine WV_ops ?_ | refine WV_skip ?_ | refine WV_exit ?_); (try simp only [go_sem, init_env', Nat.reduceEqDiff, Nat.reduceAdd, Nat.reduceMul, reduceIte, Nat.reduceLeDiff, Nat.reduceLT, Nat.reduceBEq, reduceCtorEq, hP, bne_self_eq_false, f1, f2, f3]); (repeat (refine And.intro (by first | omega | (intros; simp_all; done) | (intros; simp_all; omega)) ?_))))
    (refine AG_pure (fun hG => works19) rfl (fun hG => by first | (simp only [go_sem, init_env', Nat.reduceEqDiff, Nat.reduceAdd, Nat.reduceMul, reduceIte, Nat.reduceLeDiff, Nat.reduceLT, Nat.reduceBEq, reduceCtorEq, hG]; done) | (simp only [go_sem, init_env', Nat.reduceEqDiff, Nat.reduceAdd, Nat.reduceMul, reduceIte, Nat.reduceLeDiff, Nat.reduceLT, Nat.reduceBEq, reduceCtorEq]; revert hG; simp; done) | (simp only [go_sem, init_env', Nat.reduceEqDiff, Nat.reduceAdd, Nat.reduceMul, reduceIte, Nat.reduceLeDiff, Nat.reduceLT, Nat.reduceBEq, reduceCtorEq, hG]; simp_all; done) | (revert hG; simp; done) | simp_all) rfl rfl rfl ?_; simp only [go_sem, init_env', Nat.reduceEqDiff, Nat.reduceAdd, Nat.reduceMul, reduceIte, Nat.reduceLeDiff, Nat.reduceLT, Nat.reduceBEq, reduceCtorEq, hP, ]; (repeat (refine And.intro (by first | omega | (intros; simp_all; done) | (intros; simp_all; omega)) ?_)); (repeat ((first | refine WV_seq_ ?_ | refine WV_block ?_ | refine WV_ops ?_ | refine WV_skip ?_ | refine WV_exit ?_); (try simp only [go_sem, init_env', Nat.reduceEqDiff, Nat.reduceAdd, Nat.reduceMul, reduceIte, Nat.reduceLeDiff, Nat.reduceLT, Nat.reduceBEq, reduceCtorEq, hP, ]); (repeat (refine And.intro (by first | omega | (intros; simp_all; done) | (intros; simp_all; omega)) ?_)))))
    (refine WV_ret ?_; simp only [thenQ, inQ, RetQ, RetOk, resAll, resA]; simp only [go_sem, init_env', Nat.reduceEqDiff, Nat.reduceAdd, Nat.reduceMul, reduceIte, Nat.reduceLeDiff, Nat.reduceLT, Nat.reduceBEq, reduceCtorEq, tupA, AV.port, AV.portL, exists_eq_left', ]; (first | exact AVle.of rfl | refine AVle.of ?_ | skip))
  · have h3 : pressedE t = 3 := by
      unfold pressedE at h0 ⊢
      rw [hok, if_pos rfl] at h0 ⊢
      by_cases hc : t.pres.length = 0
      · rw [if_pos hc]
      · rw [if_neg hc] at h0; exact absurd rfl h0
    have h3' : pressedE (arrT t π) = 3 := by rw [arrT_pressed hok hpi]; exact h3
    rw [show soonR t = (0, 3) by unfold soonR; rw [h3]; rfl] at b1
    rw [show endR t = (0, 3) by unfold endR; rw [h3]; rfl] at b2
    rw [show endR (arrT t π) = (0, 3) by unfold endR; rw [h3']; rfl] at b3
    rw [hav] at ha b3
    generalize (arrT t π).recs = R1 at *
    generalize (arrT t π).pres = P1 at *
    refine FSpec_of c10 (Nat.le_refl _) (by decide) fun C hP hN hC hL => ?_
    simp only [ir10, Tray.av]
    (repeat ((first | refine WV_seq_ ?_ | refine WV_block ?_ | refine WV_ops ?_ | refine WV_skip ?_ | refine WV_exit ?_); (try simp only [go_sem, init_env', Nat.reduceEqDiff, Nat.reduceAdd, Nat.reduceMul, reduceIte, Nat.reduceLeDiff, Nat.reduceLT, Nat.reduceBEq, reduceCtorEq, hP, ints, List.length_map]); (repeat (refine And.intro (by first | omega | (intros; simp_all; done) | (intros; simp_all; omega)) ?_))))
    (refine AS_pure (hready) rfl rfl rfl rfl rfl ?_; simp only [go_sem, init_env', Nat.reduceEqDiff, Nat.reduceAdd, Nat.reduceMul, reduceIte, Nat.reduceLeDiff, Nat.reduceLT, Nat.reduceBEq, reduceCtorEq, hP, Tray.av, recsC, List.length_map, hrl, d1, d2]; (repeat (refine And.intro (by first | omega | (intros; simp_all; done) | (intros; simp_all; omega)) ?_)); (repeat ((first | refine WV_seq_ ?_ | refine WV_block ?_ | refine WV_ops ?_ | refine WV_skip ?_ | refine WV_exit ?_); (try simp only [go_sem, init_env', Nat.reduceEqDiff, Nat.reduceAdd, Nat.reduceMul, reduceIte, Nat.reduceLeDiff, Nat.reduceLT, Nat.reduceBEq, reduceCtorEq, hP, Tray.av, recsC, List.length_map, hrl, d1, d2]); (repeat (refine And.intro (by first | omega | (intros; simp_all; done) | (intros; simp_all; omega)) ?_)))))
    (refine AG_pure (fun hG => hio) rfl (fun hG => by first | (simp only [go_sem, init_env', Nat.reduceEqDiff, Nat.reduceAdd, Nat.reduceMul, reduceIte, Nat.reduceLeDiff, Nat.reduceLT, Nat.reduceBEq, reduceCtorEq, hG]; done) | (simp only [go_sem, init_env', Nat.reduceEqDiff, Nat.reduceAdd, Nat.reduceMul, reduceIte, Nat.reduceLeDiff, Nat.reduceLT, Nat.reduceBEq, reduceCtorEq]; revert hG; simp; done) | (simp only [go_sem, init_env', Nat.reduceEqDiff, Nat.reduceAdd, Nat.reduceMul, reduceIte, Nat.reduceLeDiff, Nat.reduceLT, Nat.reduceBEq, reduceCtorEq, hG]; simp_all; done) | (revert hG; simp; done) | simp_all) rfl rfl rfl ?_; simp only [go_sem, init_env', Nat.reduceEqDiff, Nat.reduceAdd, Nat.reduceMul, reduceIte, Nat.reduceLeDiff, Nat.reduceLT, Nat.reduceBEq, reduceCtorEq, hP, Tray.av, recsC]; (repeat (refine And.intro (by first | omega | (intros; simp_all; done) | (intros; simp_all; omega)) ?_)); (repeat ((first | refine WV_seq_ ?_ | refine WV_block ?_ | refine WV_ops ?_ | refine WV_skip ?_ | refine WV_exit ?_); (try simp only [go_sem, init_env', Nat.reduceEqDiff, Nat.reduceAdd, Nat.reduceMul, reduceIte, Nat.reduceLeDiff, Nat.reduceLT, Nat.reduceBEq, reduceCtorEq, hP, Tray.av, recsC]); (repeat (refine And.intro (by first | omega | (intros; simp_all; done) | (intros; simp_all; omega)) ?_)))))
    (refine WV_cond rfl (fun h => ?_) (fun h => ?_))
    · simp at h
    (repeat ((first | refine WV_seq_ ?_ | refine WV_block ?_ | refine WV_ops ?_ | refine WV_skip ?_ | refine WV_exit ?_); (try simp only [go_sem, init_env', Nat.reduceEqDiff, Nat.reduceAdd, Nat.reduceMul, reduceIte, Nat.reduceLeDiff, Nat.reduceLT, Nat.reduceBEq, reduceCtorEq, hP, ]); (repeat (refine And.intro (by first | omega | (intros; simp_all; done) | (intros; simp_all; omega)) ?_))))
    (refine AS_pure (b1) rfl rfl rfl rfl rfl ?_; simp only [go_sem, init_env', Nat.reduceEqDiff, Nat.reduceAdd, Nat.reduceMul, reduceIte, Nat.reduceLeDiff, Nat.reduceLT, Nat.reduceBEq, reduceCtorEq, hP, Tray.av, recsC]; (repeat (refine And.intro (by first | omega | (intros; simp_all; done) | (intros; simp_all; omega)) ?_)); (repeat ((first | refine WV_seq_ ?_ | refine WV_block ?_ | refine WV_ops ?_ | refine WV_skip ?_ | refine WV_exit ?_); (try simp only [go_sem, init_env', Nat.reduceEqDiff, Nat.reduceAdd, Nat.reduceMul, reduceIte, Nat.reduceLeDiff, Nat.reduceLT, Nat.reduceBEq, reduceCtorEq, hP, Tray.av, recsC]); (repeat (refine And.intro (by first | omega | (intros; simp_all; done) | (intros; simp_all; omega)) ?_)))))
    (refine AS_pure (b2) rfl rfl rfl rfl rfl ?_; simp only [go_sem, init_env', Nat.reduceEqDiff, Nat.reduceAdd, Nat.reduceMul, reduceIte, Nat.reduceLeDiff, Nat.reduceLT, Nat.reduceBEq, reduceCtorEq, hP, Tray.av, recsC]; (repeat (refine And.intro (by first | omega | (intros; simp_all; done) | (intros; simp_all; omega)) ?_)); (repeat ((first | refine WV_seq_ ?_ | refine WV_block ?_ | refine WV_ops ?_ | refine WV_skip ?_ | refine WV_exit ?_); (try simp only [go_sem, init_env', Nat.reduceEqDiff, Nat.reduceAdd, Nat.reduceMul, reduceIte, Nat.reduceLeDiff, Nat.reduceLT, Nat.reduceBEq, reduceCtorEq, hP, Tray.av, recsC]); (repeat (refine And.intro (by first | omega | (intros; simp_all; done) | (intros; simp_all; omega)) ?_)))))
    (refine AS_pure (ha) rfl rfl rfl rfl rfl ?_; simp only [go_sem, init_env', Nat.reduceEqDiff, Nat.reduceAdd, Nat.reduceMul, reduceIte, Nat.reduceLeDiff, Nat.reduceLT, Nat.reduceBEq, reduceCtorEq, hP, Tray.av, recsC, prsC]; (repeat (refine And.intro (by first | omega | (intros; simp_all; done) | (intros; simp_all; omega)) ?_)); (repeat ((first | refine WV_seq_ ?_ | refine WV_block ?_ | refine WV_ops ?_ | refine WV_skip ?_ | refine WV_exit ?_); (try simp only [go_sem, init_env', Nat.reduceEqDiff, Nat.reduceAdd, Nat.reduceMul, reduceIte, Nat.reduceLeDiff, Nat.reduceLT, Nat.reduceBEq, reduceCtorEq, hP, Tray.av, recsC, prsC]); (repeat (refine And.intro (by first | omega | (intros; simp_all; done) | (intros; simp_all; omega)) ?_)))))
    (refine AS_pure (b3) rfl rfl rfl rfl rfl ?_; simp only [go_sem, init_env', Nat.reduceEqDiff, Nat.reduceAdd, Nat.reduceMul, reduceIte, Nat.reduceLeDiff, Nat.reduceLT, Nat.reduceBEq, reduceCtorEq, hP, Tray.av, recsC, prsC, bne_self_eq_false]; (repeat (refine And.intro (by first | omega | (intros; simp_all; done) | (intros; simp_all; omega)) ?_)); (repeat ((first | refine WV_seq_ ?_ | refine WV_block ?_ | refine WV_ops ?_ | refine WV_skip ?_ | refine WV_exit ?_); (try simp only [go_sem, init_env', Nat.reduceEqDiff, Nat.reduceAdd, Nat.reduceMul, reduceIte, Nat.reduceLeDiff, Nat.reduceLT, Nat.reduceBEq, reduceCtorEq, hP, Tray.av, recsC, prsC, bne_self_eq_false]); (repeat (refine And.intro (by first | omega | (intros; simp_all; done) | (intros; simp_all; omega)) ?_)))))
    (refine WV_cond rfl (fun h => ?_) (fun h => ?_))
    · simp at h
    (repeat ((first | refine WV_seq_ ?_ | refine WV_block ?_ | refine WV_ops ?_ | refine WV_skip ?_ | refine WV_exit ?_); (try simp only [go_sem, init_env', Nat.reduceEqDiff, Nat.reduceAdd, Nat.reduceMul, reduceIte, Nat.reduceLeDiff, Nat.reduceLT, Nat.reduceBEq, reduceCtorEq, hP, ]); (repeat (refine And.intro (by first | omega | (intros; simp_all; done) | (intros; simp_all; omega)) ?_))))
    (refine AG_pure (fun hG => works19) rfl (fun hG => by first | (simp only [go_sem, init_env', Nat.reduceEqDiff, Nat.reduceAdd, Nat.reduceMul, reduceIte, Nat.reduceLeDiff, Nat.reduceLT, Nat.reduceBEq, reduceCtorEq, hG]; done) | (simp only [go_sem, init_env', Nat.reduceEqDiff, Nat.reduceAdd, Nat.reduceMul, reduceIte, Nat.reduceLeDiff, Nat.reduceLT, Nat.reduceBEq, reduceCtorEq]; revert hG; simp; done) | (simp only [go_sem, init_env', Nat.reduceEqDiff, Nat.reduceAdd, Nat.reduceMul, reduceIte, Nat.reduceLeDiff, Nat.reduceLT, Nat.reduceBEq, reduceCtorEq, hG]; simp_all; done) | (revert hG; simp; done) | simp_all) rfl rfl rfl ?_; simp only [go_sem, init_env', Nat.reduceEqDiff, Nat.reduceAdd, Nat.reduceMul, reduceIte, Nat.reduceLeDiff, Nat.reduceLT, Nat.reduceBEq, reduceCtorEq, hP, ]; (repeat (refine And.intro (by first | omega | (intros; simp_all; done) | (intros; simp_all; omega)) ?_)); (repeat ((first | refine WV_seq_ ?_ | refine WV_block ?_ | refine WV_ops ?_ | refine WV_skip ?_ | refine WV_exit ?_); (try simp only [go_sem, init_env', Nat.reduceEqDiff, Nat.reduceAdd, Nat.reduceMul, reduceIte, Nat.reduceLeDiff, Nat.reduceLT, Nat.reduceBEq, reduceCtorEq, hP, ]); (repeat (refine And.intro (by first | omega | (intros; simp_all; done) | (intros; simp_all; omega)) ?_)))))
    (refine WV_ret ?_; simp only [thenQ, inQ, RetQ, RetOk, resAll, resA]; simp only [go_sem, init_env', Nat.reduceEqDiff, Nat.reduceAdd, Nat.reduceMul, reduceIte, Nat.reduceLeDiff, Nat.reduceLT, Nat.reduceBEq, reduceCtorEq, tupA, AV.port, AV.portL, exists_eq_left', ]; (first | exact AVle.of rfl | refine AVle.of ?_ | skip))
end Go.Proofs.Ytkpgpgaojjobgaa
