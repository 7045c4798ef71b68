/-
  Contracts of the layer's functions, of the laws' helpers and of the law; conditions: as each theorem states.
-/
import Derived.Test.YtkpgpgaojjobgaaU4
import Derived.Test.YtkpgpgaojjobgaaV2
set_option linter.unusedVariables false
set_option linter.unusedSimpArgs false
namespace Go.Proofs.Ytkpgpgaojjobgaa
open Go Go.V
@[reducible] def o77_0 : List Ins := [⟨(some 6), .ld false 5 (.t 1), none, true⟩,
  ⟨(some 7), .mv (.t 0), none, true⟩,
  ⟨(some 8), .call (.k (.fn 78 [])) [(.t 6), (.t 7)], none, true⟩,
  ⟨(some 9), .call (.k (.fn 54 [])) [(.t 8)], none, true⟩,
  ⟨(some 10), .fld true 1 3 (.t 9), none, true⟩,
  ⟨(some 5), .mv (.t 10), none, true⟩]
@[reducible] def o77_1 : List Ins := [⟨(some 11), .ld true 1 (.t 2), none, true⟩,
  ⟨(some 12), .bin .lss (.t 11) (.k (.c (.int .i64 0))), none, true⟩,
  ⟨(some 13), .mv (.t 12), none, true⟩,
  ⟨(some 14), .mv (.t 5), (some (13, false)), true⟩,
  ⟨(some 15), .ld true 1 (.t 2), (some (13, false)), true⟩,
  ⟨(some 16), .bin .lss (.t 14) (.t 15), (some (13, false)), true⟩,
  ⟨(some 17), .pick (.t 13) (.k (.c (.bool true))) (.t 16), none, true⟩]
@[reducible] def o77_2 : List Ins := [⟨(some 18), .mv (.t 0), none, true⟩,
  ⟨(some 19), .call (.k (.fn 79 [])) [(.t 18)], none, true⟩,
  ⟨(some 20), .mv (.t 5), none, true⟩,
  ⟨none, .st 1 (.t 3) (.t 19), none, true⟩,
  ⟨none, .st 1 (.t 2) (.t 20), none, true⟩]
@[reducible] def v77_3 : VC := (.cond (.t 17) (.ops o77_2) .skip)
@[reducible] def v77_4 : VC := (.seq (.ops o77_1) v77_3)
def ir77 : FC := ⟨4, 21, [], (.seq (.ops o77_0) v77_4)⟩
@[reducible] def o63_0 : List Ins := [⟨(some 1), .box 5 (.t 0), none, true⟩,
  ⟨(some 2), .alloc [(.c (.raw (.slice none 0 0)))], none, true⟩,
  ⟨(some 3), .alloc [(.c (.int .i64 0))], none, true⟩]
@[reducible] def o63_1 : List Ins := [⟨none, .st 1 (.t 3) (.k (.c (.int .i64 (-1)))), none, true⟩]
@[reducible] def o63_2 : List Ins := [⟨(some 4), .fa 0 (.t 1), none, true⟩,
  ⟨(some 5), .ld true 1 (.t 4), none, true⟩,
  ⟨(some 6), .len (.t 5), none, true⟩,
  ⟨(some 7), .mkfn 77 [(.t 1), (.t 3), (.t 2)], none, true⟩,
  ⟨(some 8), .call (.k (.fn 76 [])) [(.t 6), (.t 7)], none, true⟩]
@[reducible] def t63_3 : OT := (.cons ⟨(some 9), .ld true 1 (.t 2), none, false⟩
  (.br [(.cons ⟨(some 10), .ld true 1 (.t 3), none, false⟩
    (.cons ⟨none, .st 1 (.t 2) (.t 9), none, false⟩
    (.cons ⟨none, .st 1 (.t 3) (.t 10), none, true⟩
    .nil))), (.cons ⟨none, .st 1 (.t 2) (.t 9), none, false⟩
    (.cons ⟨(some 10), .ld true 1 (.t 3), none, false⟩
    (.cons ⟨none, .st 1 (.t 3) (.t 10), none, true⟩
    .nil)))]))
@[reducible] def v63_4 : VC := (.seq (.drw t63_3) .ret)
@[reducible] def v63_5 : VC := (.seq (.ops o63_2) v63_4)
@[reducible] def v63_6 : VC := (.seq (.ops o63_1) v63_5)
def ir63 : FC := ⟨1, 11, [.cell 2 true 1, .cell 3 true 1], (.seq (.ops o63_0) v63_6)⟩
@[reducible] def o37_0 : List Ins := [⟨(some 1), .box 5 (.t 0), none, true⟩,
  ⟨(some 2), .mv (.k (.c (.int .i64 0))), none, true⟩,
  ⟨(some 3), .mv (.k (.c (.int .i64 0))), none, true⟩]
@[reducible] def o37_1 : List Ins := [⟨(some 7), .ld false 5 (.t 1), none, true⟩,
  ⟨(some 8), .call (.k (.fn 62 [])) [(.t 7)], none, true⟩,
  ⟨(some 4), .mv (.t 8), none, true⟩]
@[reducible] def o37_2 : List Ins := [⟨(some 9), .mv (.t 4), none, true⟩,
  ⟨(some 10), .bin .neq (.t 9) (.k (.c (.int .i64 0))), none, true⟩]
@[reducible] def o37_3 : List Ins := [⟨(some 11), .mv (.t 4), none, true⟩,
  ⟨(some 2), .mv (.k (.c (.int .i64 0))), none, true⟩,
  ⟨(some 3), .mv (.t 11), none, true⟩]
@[reducible] def v37_4 : VC := (.seq (.ops o37_3) .ret)
@[reducible] def v37_5 : VC := (.cond (.t 10) v37_4 .skip)
@[reducible] def v37_6 : VC := (.seq (.ops o37_2) v37_5)
@[reducible] def o37_7 : List Ins := [⟨(some 13), .ld false 5 (.t 1), none, true⟩,
  ⟨(some 14), .call (.k (.fn 63 [])) [(.t 13)], none, true⟩,
  ⟨(some 12), .mv (.t 14), none, true⟩,
  ⟨(some 15), .ext (.t 12) 0, none, true⟩,
  ⟨(some 16), .ext (.t 12) 1, none, true⟩,
  ⟨(some 5), .mv (.t 15), none, true⟩,
  ⟨(some 6), .mv (.t 16), none, true⟩]
@[reducible] def o37_8 : List Ins := [⟨(some 17), .mv (.t 6), none, true⟩,
  ⟨(some 2), .mv (.t 17), none, true⟩,
  ⟨(some 3), .mv (.k (.c (.int .i64 0))), none, true⟩]
@[reducible] def v37_9 : VC := (.seq (.ops o37_8) .ret)
@[reducible] def v37_10 : VC := (.seq (.ops o37_7) v37_9)
@[reducible] def v37_11 : VC := (.seq (.seq (.ops o37_1) v37_6) v37_10)
def ir37 : FC := ⟨1, 18, [.t 2, .t 3], (.seq (.ops o37_0) v37_11)⟩
@[reducible] def o45_0 : List Ins := [⟨(some 1), .box 5 (.t 0), none, true⟩,
  ⟨(some 2), .mv (.k (.c (.raw (.slice none 0 0)))), none, true⟩,
  ⟨(some 3), .mv (.k (.c (.int .i64 0))), none, true⟩]
@[reducible] def o45_1 : List Ins := [⟨(some 7), .ld false 5 (.t 1), none, true⟩,
  ⟨(some 8), .call (.k (.fn 62 [])) [(.t 7)], none, true⟩,
  ⟨(some 4), .mv (.t 8), none, true⟩]
@[reducible] def o45_2 : List Ins := [⟨(some 9), .mv (.t 4), none, true⟩,
  ⟨(some 10), .bin .neq (.t 9) (.k (.c (.int .i64 0))), none, true⟩]
@[reducible] def o45_3 : List Ins := [⟨(some 11), .mv (.t 4), none, true⟩,
  ⟨(some 2), .mv (.k (.c (.raw (.slice none 0 0)))), none, true⟩,
  ⟨(some 3), .mv (.t 11), none, true⟩]
@[reducible] def v45_4 : VC := (.seq (.ops o45_3) .ret)
@[reducible] def v45_5 : VC := (.cond (.t 10) v45_4 .skip)
@[reducible] def v45_6 : VC := (.seq (.ops o45_2) v45_5)
@[reducible] def o45_7 : List Ins := [⟨(some 13), .ld false 5 (.t 1), none, true⟩,
  ⟨(some 14), .call (.k (.fn 63 [])) [(.t 13)], none, true⟩,
  ⟨(some 12), .mv (.t 14), none, true⟩,
  ⟨(some 15), .ext (.t 12) 0, none, true⟩,
  ⟨(some 16), .ext (.t 12) 1, none, true⟩,
  ⟨(some 5), .mv (.t 15), none, true⟩,
  ⟨(some 6), .mv (.t 16), none, true⟩]
@[reducible] def o45_8 : List Ins := [⟨(some 17), .mv (.t 5), none, true⟩,
  ⟨(some 2), .mv (.t 17), none, true⟩,
  ⟨(some 3), .mv (.k (.c (.int .i64 0))), none, true⟩]
@[reducible] def v45_9 : VC := (.seq (.ops o45_8) .ret)
@[reducible] def v45_10 : VC := (.seq (.ops o45_7) v45_9)
@[reducible] def v45_11 : VC := (.seq (.seq (.ops o45_1) v45_6) v45_10)
def ir45 : FC := ⟨1, 18, [.t 2, .t 3], (.seq (.ops o45_0) v45_11)⟩
theorem c77 : compM Try.prog [] 77 = some ir77 := by kernel_rfl
theorem c63 : compM Try.prog [] 63 = some ir63 := by kernel_rfl
theorem c37 : compM Try.prog [] 37 = some ir37 := by kernel_rfl
theorem c45 : compM Try.prog [] 45 = some ir45 := by kernel_rfl



theorem elemsV_winG {α : Type} {cds : α → List CD} {m : Nat} (hm : ∀ a, (cds a).length = m) (own : Nat → Ob) (n : Nat) (l : List α) (j cap : Nat) (h : own n = .win (cellsG cds l j)) : AV.elemsV own (.vw m n 0 l.length cap) = some (m, l.map cds) := by
  have h2 : (cellsG cds l j).take (l.length * m) = (flatG cds l).map .c := by rw [cellsG_take hm]; simp [cellsG]
  have h3 : ((flatG cds l).map AV.c).mapM (AV.toCD own) = some (flatG cds l) := by
    induction flatG cds l with
    | nil => rfl
    | cons a t ih => simp only [List.map_cons, List.mapM_cons, AV.toCD, Option.pure_def, Option.bind_eq_bind, Option.bind_some, ih]
  simp only [AV.elemsV, h, Ob.cellsR, Nat.zero_add, List.drop_zero, h2, h3, Option.map_some]
  rw [if_pos (by rw [cellsG_len hm]; omega)]
  have := grp_cellsG hm l
  rw [List.take_of_length_le (by rw [flatG_len hm]; exact Nat.le_refl _)] at this
  rw [this]
/-- When the last side has ended, with the records in another order. -/
def endO (t : Tray) (o : List Nat) : Int := (goesS (arrT t o)).end_
def bestStep (t : Tray) (s : Int × Option (List Nat)) (o : List Nat) : Int × Option (List Nat) := if s.1 < 0 ∨ endO t o < s.1 then (endO t o, some o) else s
def bestG (t : Tray) (l : List (List Nat)) : Int × Option (List Nat) := l.foldl (bestStep t) (-1, none)
theorem bestG_snoc (t : Tray) (l : List (List Nat)) (o : List Nat) : bestG t (l ++ [o]) = bestStep t (bestG t l) o := by unfold bestG; rw [List.foldl_append]; rfl
def ordA : Option (List Nat) → AV
  | none => .c (.raw (.slice none 0 0))
  | some o => .c (natsC o)
def bestO (s : Int × Option (List Nat)) : List Ob := [.box [iv s.1], .box [ordA s.2]]

set_option maxRecDepth 20000 in
set_option maxHeartbeats 8000000 in
theorem best77 {t : Tray} (ht : TrayOk t) {o : List Nat} (ho : IsOrd t.n o) (s : Int × Option (List Nat)) :
    FSpecL Try.prog 77 [.vw 1 2000 0 o.length o.length, .c (.pt t.cds), .bp 1000 0, .bp 1001 0] (bestO s) [cellsG ncd o 0] (fun res l' => res = .tup [] ∧ l' = bestO (bestStep t s o)) := by
  have hn6 := ht.n6
  have hol := ho.len
  have har := arranged78 ht ho
  have hgo := goes54 (arr_ok ht ho)
  have hend : (goesS (arrT t o)).end_ = endO t o := rfl
  obtain ⟨m, so⟩ := s
  generalize hA : ordA so = A
  simp only [bestO, hA]
  refine FSpecL_of c77 (by first | simp | exact Nat.le_of_ble_eq_true rfl) (Nat.le_refl _) (by decide) (by decide) fun C hP hN hC hL => ?_; rw [init_env', ownW_upd (by first | simp | exact Nat.le_of_ble_eq_true rfl)]; simp only [ir77, updL, updLo, List.map_nil, List.map_cons, Nat.reduceAdd, ]
  (repeat ((first | refine WV_seq_ ?_ | refine WV_block ?_ | refine WV_ops ?_ | refine WV_skip ?_ | refine WV_exit ?_); (try simp only [go_sem, init_env', Nat.reduceEqDiff, Nat.reduceAdd, Nat.reduceMul, reduceIte, Nat.reduceLeDiff, Nat.reduceLT, Nat.reduceBEq, reduceCtorEq, hP, Tray.cds, List.length_cons, List.length_nil, List.map_cons, List.map_nil]); (repeat refine qI ?_)))
  refine AS_fresh har rfl rfl rfl ?_ rfl ?_
  · simp only [go_sem, init_env', Nat.reduceEqDiff, Nat.reduceAdd, Nat.reduceMul, reduceIte, Nat.reduceLeDiff, Nat.reduceLT, Nat.reduceBEq, reduceCtorEq, AV.vportL, AV.vport, List.take_succ_cons, List.take_zero]
    rw [elemsV_winG ncd_one _ 2000 o 0 o.length rfl]
    rfl
  simp only [go_sem, init_env', Nat.reduceEqDiff, Nat.reduceAdd, Nat.reduceMul, reduceIte, Nat.reduceLeDiff, Nat.reduceLT, Nat.reduceBEq, reduceCtorEq, hP]
  (repeat ((first | refine WV_seq_ ?_ | refine WV_block ?_ | refine WV_ops ?_ | refine WV_skip ?_ | refine WV_exit ?_); (try simp only [go_sem, init_env', Nat.reduceEqDiff, Nat.reduceAdd, Nat.reduceMul, reduceIte, Nat.reduceLeDiff, Nat.reduceLT, Nat.reduceBEq, reduceCtorEq, hP, ]); (repeat refine qI ?_)))
  (refine AS_pure (hgo) rfl rfl rfl rfl rfl ?_; simp only [go_sem, init_env', Nat.reduceEqDiff, Nat.reduceAdd, Nat.reduceMul, reduceIte, Nat.reduceLeDiff, Nat.reduceLT, Nat.reduceBEq, reduceCtorEq, hP, Cs.run, hend]; (repeat refine qI ?_); (repeat ((first | refine WV_seq_ ?_ | refine WV_block ?_ | refine WV_ops ?_ | refine WV_skip ?_ | refine WV_exit ?_); (try simp only [go_sem, init_env', Nat.reduceEqDiff, Nat.reduceAdd, Nat.reduceMul, reduceIte, Nat.reduceLeDiff, Nat.reduceLT, Nat.reduceBEq, reduceCtorEq, hP, Cs.run, hend]); (repeat refine qI ?_))))
  by_cases hc : m < 0 ∨ endO t o < m
  · have hst : bestStep t (m, so) o = (endO t o, some o) := by unfold bestStep; rw [if_pos hc]
    have hb : (decide (m < 0) || decide (endO t o < m)) = true := by simpa using hc
    rw [hb, hst]
    (refine WV_cond rfl (fun h => ?_) (fun h => ?_))
    rotate_left
    · simp at h
    (repeat ((first | refine WV_seq_ ?_ | refine WV_block ?_ | refine WV_ops ?_ | refine WV_skip ?_ | refine WV_exit ?_); (try simp only [go_sem, init_env', Nat.reduceEqDiff, Nat.reduceAdd, Nat.reduceMul, reduceIte, Nat.reduceLeDiff, Nat.reduceLT, Nat.reduceBEq, reduceCtorEq, hP, ]); (repeat refine qI ?_)))
    refine AS_fresh (cloneI79 o (by omega)) rfl rfl rfl ?_ rfl ?_
    · simp only [go_sem, init_env', Nat.reduceEqDiff, Nat.reduceAdd, Nat.reduceMul, reduceIte, Nat.reduceLeDiff, Nat.reduceLT, Nat.reduceBEq, reduceCtorEq, AV.vportL, AV.vport]
      rw [elemsV_winG ncd_one _ 2000 o 0 o.length rfl]
      rfl
    simp only [go_sem, init_env', Nat.reduceEqDiff, Nat.reduceAdd, Nat.reduceMul, reduceIte, Nat.reduceLeDiff, Nat.reduceLT, Nat.reduceBEq, reduceCtorEq, hP]
    (repeat ((first | refine WV_seq_ ?_ | refine WV_block ?_ | refine WV_ops ?_ | refine WV_skip ?_ | refine WV_exit ?_); (try simp only [go_sem, init_env', Nat.reduceEqDiff, Nat.reduceAdd, Nat.reduceMul, reduceIte, Nat.reduceLeDiff, Nat.reduceLT, Nat.reduceBEq, reduceCtorEq, hP, ]); (repeat refine qI ?_)))
    ((try simp only [thenQ, inQ, RetQL, RetOkL, resAll, resA]); (try simp only [go_sem, init_env', Nat.reduceEqDiff, Nat.reduceAdd, Nat.reduceMul, reduceIte, Nat.reduceLeDiff, Nat.reduceLT, Nat.reduceBEq, reduceCtorEq, tupA, AV.keepP, AV.keepPL]); refine ⟨_, [.box [iv (endO t o)], .box [.c (natsC o)]], rfl, KeepL_mk rfl rfl ?_ ?_ rfl, ?_⟩)
    · simp only [go_sem, init_env', Nat.reduceEqDiff, Nat.reduceAdd, Nat.reduceMul, reduceIte, Nat.reduceLeDiff, Nat.reduceLT, Nat.reduceBEq, reduceCtorEq, keepAll, Ob.keepP, AV.keepP, AV.keepPL]
    · simp only [go_sem, init_env', Nat.reduceEqDiff, Nat.reduceAdd, Nat.reduceMul, reduceIte, Nat.reduceLeDiff, Nat.reduceLT, Nat.reduceBEq, reduceCtorEq, winAll]
    · exact ⟨rfl, rfl⟩
  · have hst : bestStep t (m, so) o = (m, so) := by
      unfold bestStep; rw [if_neg hc]
    have hb : (decide (m < 0) || decide (endO t o < m)) = false := by simpa using hc
    rw [hb, hst]
    (refine WV_cond rfl (fun h => ?_) (fun h => ?_))
    · simp at h
    refine WV_skip ?_
    ((try simp only [thenQ, inQ, RetQL, RetOkL, resAll, resA]); (try simp only [go_sem, init_env', Nat.reduceEqDiff, Nat.reduceAdd, Nat.reduceMul, reduceIte, Nat.reduceLeDiff, Nat.reduceLT, Nat.reduceBEq, reduceCtorEq, tupA, AV.keepP, AV.keepPL]); refine ⟨_, [.box [iv m], .box [A]], rfl, KeepL_mk rfl rfl ?_ ?_ rfl, ?_⟩)
    · rw [← hA]
      cases so <;> simp only [go_sem, init_env', Nat.reduceEqDiff, Nat.reduceAdd, Nat.reduceMul, reduceIte, Nat.reduceLeDiff, Nat.reduceLT, Nat.reduceBEq, reduceCtorEq, keepAll, Ob.keepP, AV.keepP, AV.keepPL, ordA]
    · simp only [go_sem, init_env', Nat.reduceEqDiff, Nat.reduceAdd, Nat.reduceMul, reduceIte, Nat.reduceLeDiff, Nat.reduceLT, Nat.reduceBEq, reduceCtorEq, winAll]
    · refine ⟨rfl, ?_⟩
      rw [← hA]

/-- All orders are orders. -/
theorem swap_ord {n : Nat} {o : List Nat} (h : IsOrd n o) {i j : Nat} (hi : i < n) (hj : j < n) : IsOrd n (swapL o i j) := by
  have hl := h.len
  have hi' : i < o.length := by omega
  have hj' : j < o.length := by omega
  have e : swapL o i j = (o.set i o[j]).set j o[i] := by unfold swapL; simp [hi', hj']
  rw [e]
  exact (List.set_set_perm hi' hj').trans h
theorem perms_ord {n : Nat} : ∀ (f : Nat) (o : List Nat), f ≤ n → IsOrd n o → ∀ x ∈ permsF n f o, IsOrd n x
  | 0, o, _, h, x, hx => by simp only [permsF, List.mem_singleton] at hx; subst hx; exact h
  | f + 1, o, hf, h, x, hx => by
    simp only [permsF] at hx
    obtain ⟨j, hj, hx⟩ := List.mem_flatMap.1 hx
    have hj := List.mem_range.1 hj
    exact perms_ord f _ (by omega) (swap_ord h (by omega) (by omega)) x hx
theorem permsS_ord {n : Nat} {o : List Nat} (h : o ∈ permsS n) : IsOrd n o := perms_ord n _ (Nat.le_refl _) (List.Perm.refl _) o h
theorem permsF_ne (n : Nat) : ∀ (f : Nat) (o : List Nat), permsF n f o ≠ []
  | 0, o => by simp [permsF]
  | f + 1, o => by
    simp only [permsF]
    rw [List.range_succ_eq_map, List.flatMap_cons]
    intro h
    exact permsF_ne n f _ (List.append_eq_nil_iff.1 h).1
theorem bestG_cases (t : Tray) (l : List (List Nat)) : (bestG t l = (-1, none)) ∨ ∃ o, bestG t l = (endO t o, some o) ∧ o ∈ l := by
  suffices h : ∀ (m pre : List (List Nat)), l = pre ++ m → ((bestG t pre = (-1, none)) ∨ ∃ o, bestG t pre = (endO t o, some o) ∧ o ∈ l) → (bestG t l = (-1, none)) ∨ ∃ o, bestG t l = (endO t o, some o) ∧ o ∈ l from h l [] rfl (.inl rfl)
  intro m
  induction m with
  | nil => intro pre hp hh; rw [hp, List.append_nil] at *; exact hh
  | cons a m ih =>
    intro pre hp hh
    refine ih (pre ++ [a]) (by rw [hp]; simp) ?_
    rw [bestG_snoc]
    unfold bestStep
    split
    · exact .inr ⟨a, rfl, by rw [hp]; simp⟩
    · exact hh
def bestS (t : Tray) : Int × Option (List Nat) := bestG t (permsS t.n)
def cdOrd : Option (List Nat) → AV
  | none => .c (natsC [])
  | some o => .c (natsC o)
set_option maxRecDepth 20000 in
set_option maxHeartbeats 8000000 in
theorem best63 {t : Tray} (ht : TrayOk t) : FSpec Try.prog 63 [t.av] (.tup [cdOrd (bestS t).2, iv (bestS t).1]) := by
  have hn6 := ht.n6
  refine FSpec_of c63 (Nat.le_refl _) (by decide) fun C hP hN hC hL => ?_
  simp only [ir63, Tray.av]
  (refine WV_seq_ (WV_ops ?_); simp only [go_sem, init_env', Nat.reduceEqDiff, Nat.reduceAdd, Nat.reduceMul, reduceIte, Nat.reduceLeDiff, Nat.reduceLT, Nat.reduceBEq, reduceCtorEq, hP, ]; (repeat refine qI ?_))
  refine WV_freeze 1 (ds := t.cds) rfl rfl ?_
  simp only [go_sem, init_env', Nat.reduceEqDiff, Nat.reduceAdd, Nat.reduceMul, reduceIte, Nat.reduceLeDiff, Nat.reduceLT, Nat.reduceBEq, reduceCtorEq, List.drop_zero]
  refine WV_seq_ (WV_ops ?_)
  simp only [go_sem, init_env', Nat.reduceEqDiff, Nat.reduceAdd, Nat.reduceMul, reduceIte, Nat.reduceLeDiff, Nat.reduceLT, Nat.reduceBEq, reduceCtorEq, hP]
  refine WV_seq_ (WV_ops ?_)
  simp only [go_sem, init_env', Nat.reduceEqDiff, Nat.reduceAdd, Nat.reduceMul, reduceIte, Nat.reduceLeDiff, Nat.reduceLT, Nat.reduceBEq, reduceCtorEq, hP, Tray.cds, recsC, List.length_map]
  have hnl : t.recs.length = t.n := rfl
  have hid : IsOrd t.n (List.range t.n) := List.Perm.refl _
  refine AS_clos [3, 2] [iv t.n] [] (l := bestO (bestG t [])) (lf := bestO (bestG t (permsS t.n))) (rem := (permsS t.n).map entO) (r := .tup []) (fun g => orders76 t.n (by omega) g) rfl rfl rfl (by decide) (by decide) rfl (by simp only [go_sem, init_env', Nat.reduceEqDiff, Nat.reduceAdd, Nat.reduceMul, reduceIte, Nat.reduceLeDiff, Nat.reduceLT, Nat.reduceBEq, reduceCtorEq, AV.lendL, AV.lend]; rfl) rfl rfl (by simp only [go_sem, init_env', Nat.reduceEqDiff, Nat.reduceAdd, Nat.reduceMul, reduceIte, Nat.reduceLeDiff, Nat.reduceLT, Nat.reduceBEq, reduceCtorEq, obsLend, Ob.lend, AV.lend, AV.lendL]; rfl) (best77 ht hid (0, none)).1 ?_ rfl ?_
  · refine Run_pre entO (fun pre => bestO (bestG t pre)) (permsS t.n) (fun pre => ?_) (fun o _ => rfl) (fun pre o post hts => ?_) (permsS t.n) [] rfl
    · cases h : (bestG t pre).2 <;> simp [bestO, ordA, h, Ob.solid] <;> exact ⟨rfl, rfl⟩
    · have ho : IsOrd t.n o := permsS_ord (by rw [hts]; simp)
      have := best77 ht ho (bestG t pre)
      simp only [bestG_snoc]
      exact this
  · refine ⟨[.box [iv (bestS t).1], .box [ordA (bestS t).2]], ?_, rfl, ?_⟩
    · show obsBack [3, 2] (bestO (bestS t)) = _
      generalize bestS t = S
      obtain ⟨m, so⟩ := S
      cases so <;> rfl
    · generalize bestS t = S
      obtain ⟨m, so⟩ := S
      cases so with
      | none =>
        simp only [go_sem, init_env', Nat.reduceEqDiff, Nat.reduceAdd, Nat.reduceMul, reduceIte, Nat.reduceLeDiff, Nat.reduceLT, Nat.reduceBEq, reduceCtorEq, hP, ownBack, ordA]
        (repeat ((first | refine WV_seq_ ?_ | refine WV_block ?_ | refine WV_ops ?_ | refine WV_skip ?_ | refine WV_exit ?_); (try simp only [go_sem, init_env', Nat.reduceEqDiff, Nat.reduceAdd, Nat.reduceMul, reduceIte, Nat.reduceLeDiff, Nat.reduceLT, Nat.reduceBEq, reduceCtorEq, hP, ]); (repeat refine qI ?_)))
        (refine WV_drw ?_; simp only [go_sem, init_env', Nat.reduceEqDiff, Nat.reduceAdd, Nat.reduceMul, reduceIte, Nat.reduceLeDiff, Nat.reduceLT, Nat.reduceBEq, reduceCtorEq, hP, ]; (repeat' (refine And.intro ?_ ?_)))
        all_goals
          (repeat ((first | refine WV_seq_ ?_ | refine WV_block ?_ | refine WV_ops ?_ | refine WV_skip ?_ | refine WV_exit ?_); (try simp only [go_sem, init_env', Nat.reduceEqDiff, Nat.reduceAdd, Nat.reduceMul, reduceIte, Nat.reduceLeDiff, Nat.reduceLT, Nat.reduceBEq, reduceCtorEq, hP, ]); (repeat refine qI ?_)))
          (refine WV_ret ?_; simp only [thenQ, inQ, RetQ, RetOk, resAll, resA]; simp only [go_sem, init_env', Nat.reduceEqDiff, Nat.reduceAdd, Nat.reduceMul, reduceIte, Nat.reduceLeDiff, Nat.reduceLT, Nat.reduceBEq, reduceCtorEq, tupA, AV.port, AV.portL, exists_eq_left', ])
          exact AVle.tup (AVles.cons (AVle.nil 1) (AVles.refl _))
      | some o =>
        simp only [go_sem, init_env', Nat.reduceEqDiff, Nat.reduceAdd, Nat.reduceMul, reduceIte, Nat.reduceLeDiff, Nat.reduceLT, Nat.reduceBEq, reduceCtorEq, hP, ownBack, ordA]
        (repeat ((first | refine WV_seq_ ?_ | refine WV_block ?_ | refine WV_ops ?_ | refine WV_skip ?_ | refine WV_exit ?_); (try simp only [go_sem, init_env', Nat.reduceEqDiff, Nat.reduceAdd, Nat.reduceMul, reduceIte, Nat.reduceLeDiff, Nat.reduceLT, Nat.reduceBEq, reduceCtorEq, hP, ]); (repeat refine qI ?_)))
        (refine WV_drw ?_; simp only [go_sem, init_env', Nat.reduceEqDiff, Nat.reduceAdd, Nat.reduceMul, reduceIte, Nat.reduceLeDiff, Nat.reduceLT, Nat.reduceBEq, reduceCtorEq, hP, ]; (repeat' (refine And.intro ?_ ?_)))
        all_goals
          (repeat ((first | refine WV_seq_ ?_ | refine WV_block ?_ | refine WV_ops ?_ | refine WV_skip ?_ | refine WV_exit ?_); (try simp only [go_sem, init_env', Nat.reduceEqDiff, Nat.reduceAdd, Nat.reduceMul, reduceIte, Nat.reduceLeDiff, Nat.reduceLT, Nat.reduceBEq, reduceCtorEq, hP, ]); (repeat refine qI ?_)))
          (refine WV_ret ?_; simp only [thenQ, inQ, RetQ, RetOk, resAll, resA]; simp only [go_sem, init_env', Nat.reduceEqDiff, Nat.reduceAdd, Nat.reduceMul, reduceIte, Nat.reduceLeDiff, Nat.reduceLT, Nat.reduceBEq, reduceCtorEq, tupA, AV.port, AV.portL, exists_eq_left', ]; (first | exact AVle.of rfl | refine AVle.of ?_ | skip))

def soonR (t : Tray) : Int × Int := if pressedE t = 0 then ((bestS t).1, 0) else (0, pressedE t)
theorem soonest37 (t : Tray) : FSpec Try.prog 37 [t.av] (.tup [iv (soonR t).1, iv (soonR t).2]) := by
  have hck := pressed62 t
  unfold soonR
  by_cases h0 : pressedE t = 0
  · rw [if_pos h0]
    rw [h0] at hck
    have hgo := best63 (Tray.ok_spec (pressed_zero h0).1).1
    generalize bestS t = S at *
    obtain ⟨m, so⟩ := S
    cases so <;>
    · simp only [cdOrd] at hgo
      refine FSpec_of c37 (Nat.le_refl _) (by decide) fun C hP hN hC hL => ?_
      simp only [ir37, Tray.av]
      (repeat ((first | refine WV_seq_ ?_ | refine WV_block ?_ | refine WV_ops ?_ | refine WV_skip ?_ | refine WV_exit ?_); (try simp only [go_sem, init_env', Nat.reduceEqDiff, Nat.reduceAdd, Nat.reduceMul, reduceIte, Nat.reduceLeDiff, Nat.reduceLT, Nat.reduceBEq, reduceCtorEq, hP, ]); (repeat refine qI ?_)))
      (refine AS_pure (hck) rfl rfl rfl rfl rfl ?_; simp only [go_sem, init_env', Nat.reduceEqDiff, Nat.reduceAdd, Nat.reduceMul, reduceIte, Nat.reduceLeDiff, Nat.reduceLT, Nat.reduceBEq, reduceCtorEq, hP, Tray.av]; (repeat refine qI ?_); (repeat ((first | refine WV_seq_ ?_ | refine WV_block ?_ | refine WV_ops ?_ | refine WV_skip ?_ | refine WV_exit ?_); (try simp only [go_sem, init_env', Nat.reduceEqDiff, Nat.reduceAdd, Nat.reduceMul, reduceIte, Nat.reduceLeDiff, Nat.reduceLT, Nat.reduceBEq, reduceCtorEq, hP, Tray.av]); (repeat refine qI ?_))))
      (refine WV_cond rfl (fun h => ?_) (fun h => ?_))
      · simp at h
      · (repeat ((first | refine WV_seq_ ?_ | refine WV_block ?_ | refine WV_ops ?_ | refine WV_skip ?_ | refine WV_exit ?_); (try simp only [go_sem, init_env', Nat.reduceEqDiff, Nat.reduceAdd, Nat.reduceMul, reduceIte, Nat.reduceLeDiff, Nat.reduceLT, Nat.reduceBEq, reduceCtorEq, hP, ]); (repeat refine qI ?_)))
        (refine AS_pure (hgo) rfl rfl rfl rfl rfl ?_; simp only [go_sem, init_env', Nat.reduceEqDiff, Nat.reduceAdd, Nat.reduceMul, reduceIte, Nat.reduceLeDiff, Nat.reduceLT, Nat.reduceBEq, reduceCtorEq, hP, Tray.av]; (repeat refine qI ?_); (repeat ((first | refine WV_seq_ ?_ | refine WV_block ?_ | refine WV_ops ?_ | refine WV_skip ?_ | refine WV_exit ?_); (try simp only [go_sem, init_env', Nat.reduceEqDiff, Nat.reduceAdd, Nat.reduceMul, reduceIte, Nat.reduceLeDiff, Nat.reduceLT, Nat.reduceBEq, reduceCtorEq, hP, Tray.av]); (repeat refine qI ?_))))
        (refine WV_ret ?_; simp only [thenQ, inQ, RetQ, RetOk, resAll, resA]; simp only [go_sem, init_env', Nat.reduceEqDiff, Nat.reduceAdd, Nat.reduceMul, reduceIte, Nat.reduceLeDiff, Nat.reduceLT, Nat.reduceBEq, reduceCtorEq, tupA, AV.port, AV.portL, exists_eq_left', ]; (first | exact AVle.of rfl | refine AVle.of ?_ | skip))
  · rw [if_neg h0]
    have hb : (pressedE t != 0) = true := by simpa using h0
    refine FSpec_of c37 (Nat.le_refl _) (by decide) fun C hP hN hC hL => ?_
    simp only [ir37, Tray.av]
    (repeat ((first | refine WV_seq_ ?_ | refine WV_block ?_ | refine WV_ops ?_ | refine WV_skip ?_ | refine WV_exit ?_); (try simp only [go_sem, init_env', Nat.reduceEqDiff, Nat.reduceAdd, Nat.reduceMul, reduceIte, Nat.reduceLeDiff, Nat.reduceLT, Nat.reduceBEq, reduceCtorEq, hP, ]); (repeat refine qI ?_)))
    (refine AS_pure (hck) rfl rfl rfl rfl rfl ?_; simp only [go_sem, init_env', Nat.reduceEqDiff, Nat.reduceAdd, Nat.reduceMul, reduceIte, Nat.reduceLeDiff, Nat.reduceLT, Nat.reduceBEq, reduceCtorEq, hP, Tray.av, hb]; (repeat refine qI ?_); (repeat ((first | refine WV_seq_ ?_ | refine WV_block ?_ | refine WV_ops ?_ | refine WV_skip ?_ | refine WV_exit ?_); (try simp only [go_sem, init_env', Nat.reduceEqDiff, Nat.reduceAdd, Nat.reduceMul, reduceIte, Nat.reduceLeDiff, Nat.reduceLT, Nat.reduceBEq, reduceCtorEq, hP, Tray.av, hb]); (repeat refine qI ?_))))
    (refine WV_cond rfl (fun h => ?_) (fun h => ?_))
    · (repeat ((first | refine WV_seq_ ?_ | refine WV_block ?_ | refine WV_ops ?_ | refine WV_skip ?_ | refine WV_exit ?_); (try simp only [go_sem, init_env', Nat.reduceEqDiff, Nat.reduceAdd, Nat.reduceMul, reduceIte, Nat.reduceLeDiff, Nat.reduceLT, Nat.reduceBEq, reduceCtorEq, hP, ]); (repeat refine qI ?_)))
      (refine WV_ret ?_; simp only [thenQ, inQ, RetQ, RetOk, resAll, resA]; simp only [go_sem, init_env', Nat.reduceEqDiff, Nat.reduceAdd, Nat.reduceMul, reduceIte, Nat.reduceLeDiff, Nat.reduceLT, Nat.reduceBEq, reduceCtorEq, tupA, AV.port, AV.portL, exists_eq_left', ]; (first | exact AVle.of rfl | refine AVle.of ?_ | skip))
    · simp at h
def arrR (t : Tray) : List Nat × Int := if pressedE t = 0 then ((bestS t).2.getD [], 0) else ([], pressedE t)
theorem arrange45 (t : Tray) : FSpec Try.prog 45 [t.av] (.tup [.c (natsC (arrR t).1), iv (arrR t).2]) := by
  have hck := pressed62 t
  unfold arrR
  by_cases h0 : pressedE t = 0
  · rw [if_pos h0]
    rw [h0] at hck
    have hgo := best63 (Tray.ok_spec (pressed_zero h0).1).1
    generalize bestS t = S at *
    obtain ⟨m, so⟩ := S
    cases so <;>
    · simp only [cdOrd, Option.getD_none, Option.getD_some] at hgo ⊢
      refine FSpec_of c45 (Nat.le_refl _) (by decide) fun C hP hN hC hL => ?_
      simp only [ir45, Tray.av]
      (repeat ((first | refine WV_seq_ ?_ | refine WV_block ?_ | refine WV_ops ?_ | refine WV_skip ?_ | refine WV_exit ?_); (try simp only [go_sem, init_env', Nat.reduceEqDiff, Nat.reduceAdd, Nat.reduceMul, reduceIte, Nat.reduceLeDiff, Nat.reduceLT, Nat.reduceBEq, reduceCtorEq, hP, ]); (repeat refine qI ?_)))
      (refine AS_pure (hck) rfl rfl rfl rfl rfl ?_; simp only [go_sem, init_env', Nat.reduceEqDiff, Nat.reduceAdd, Nat.reduceMul, reduceIte, Nat.reduceLeDiff, Nat.reduceLT, Nat.reduceBEq, reduceCtorEq, hP, Tray.av]; (repeat refine qI ?_); (repeat ((first | refine WV_seq_ ?_ | refine WV_block ?_ | refine WV_ops ?_ | refine WV_skip ?_ | refine WV_exit ?_); (try simp only [go_sem, init_env', Nat.reduceEqDiff, Nat.reduceAdd, Nat.reduceMul, reduceIte, Nat.reduceLeDiff, Nat.reduceLT, Nat.reduceBEq, reduceCtorEq, hP, Tray.av]); (repeat refine qI ?_))))
      (refine WV_cond rfl (fun h => ?_) (fun h => ?_))
      · simp at h
      · (repeat ((first | refine WV_seq_ ?_ | refine WV_block ?_ | refine WV_ops ?_ | refine WV_skip ?_ | refine WV_exit ?_); (try simp only [go_sem, init_env', Nat.reduceEqDiff, Nat.reduceAdd, Nat.reduceMul, reduceIte, Nat.reduceLeDiff, Nat.reduceLT, Nat.reduceBEq, reduceCtorEq, hP, ]); (repeat refine qI ?_)))
        (refine AS_pure (hgo) rfl rfl rfl rfl rfl ?_; simp only [go_sem, init_env', Nat.reduceEqDiff, Nat.reduceAdd, Nat.reduceMul, reduceIte, Nat.reduceLeDiff, Nat.reduceLT, Nat.reduceBEq, reduceCtorEq, hP, Tray.av]; (repeat refine qI ?_); (repeat ((first | refine WV_seq_ ?_ | refine WV_block ?_ | refine WV_ops ?_ | refine WV_skip ?_ | refine WV_exit ?_); (try simp only [go_sem, init_env', Nat.reduceEqDiff, Nat.reduceAdd, Nat.reduceMul, reduceIte, Nat.reduceLeDiff, Nat.reduceLT, Nat.reduceBEq, reduceCtorEq, hP, Tray.av]); (repeat refine qI ?_))))
        (refine WV_ret ?_; simp only [thenQ, inQ, RetQ, RetOk, resAll, resA]; simp only [go_sem, init_env', Nat.reduceEqDiff, Nat.reduceAdd, Nat.reduceMul, reduceIte, Nat.reduceLeDiff, Nat.reduceLT, Nat.reduceBEq, reduceCtorEq, tupA, AV.port, AV.portL, exists_eq_left', ]; (first | exact AVle.of rfl | refine AVle.of ?_ | skip))
  · rw [if_neg h0]
    have hb : (pressedE t != 0) = true := by simpa using h0
    refine FSpec_of c45 (Nat.le_refl _) (by decide) fun C hP hN hC hL => ?_
    simp only [ir45, Tray.av]
    (repeat ((first | refine WV_seq_ ?_ | refine WV_block ?_ | refine WV_ops ?_ | refine WV_skip ?_ | refine WV_exit ?_); (try simp only [go_sem, init_env', Nat.reduceEqDiff, Nat.reduceAdd, Nat.reduceMul, reduceIte, Nat.reduceLeDiff, Nat.reduceLT, Nat.reduceBEq, reduceCtorEq, hP, ]); (repeat refine qI ?_)))
    (refine AS_pure (hck) rfl rfl rfl rfl rfl ?_; simp only [go_sem, init_env', Nat.reduceEqDiff, Nat.reduceAdd, Nat.reduceMul, reduceIte, Nat.reduceLeDiff, Nat.reduceLT, Nat.reduceBEq, reduceCtorEq, hP, Tray.av, hb]; (repeat refine qI ?_); (repeat ((first | refine WV_seq_ ?_ | refine WV_block ?_ | refine WV_ops ?_ | refine WV_skip ?_ | refine WV_exit ?_); (try simp only [go_sem, init_env', Nat.reduceEqDiff, Nat.reduceAdd, Nat.reduceMul, reduceIte, Nat.reduceLeDiff, Nat.reduceLT, Nat.reduceBEq, reduceCtorEq, hP, Tray.av, hb]); (repeat refine qI ?_))))
    (refine WV_cond rfl (fun h => ?_) (fun h => ?_))
    · (repeat ((first | refine WV_seq_ ?_ | refine WV_block ?_ | refine WV_ops ?_ | refine WV_skip ?_ | refine WV_exit ?_); (try simp only [go_sem, init_env', Nat.reduceEqDiff, Nat.reduceAdd, Nat.reduceMul, reduceIte, Nat.reduceLeDiff, Nat.reduceLT, Nat.reduceBEq, reduceCtorEq, hP, ]); (repeat refine qI ?_)))
      (refine WV_ret ?_; simp only [thenQ, inQ, RetQ, RetOk, resAll, resA]; simp only [go_sem, init_env', Nat.reduceEqDiff, Nat.reduceAdd, Nat.reduceMul, reduceIte, Nat.reduceLeDiff, Nat.reduceLT, Nat.reduceBEq, reduceCtorEq, tupA, AV.port, AV.portL, exists_eq_left', ])
      exact AVle.tup (AVles.cons (AVle.nil 1) (AVles.refl _))
    · simp at h
end Go.Proofs.Ytkpgpgaojjobgaa

namespace Go.Proofs.Ytkpgpgaojjobgaa
open Go Go.V
@[reducible] def o52_0 : List Ins := [⟨(some 0), .alloc [(.c (.raw (.slice none 0 0))), (.c (.int .i64 0)), (.c (.int .i64 0)), (.c (.int .i64 0)), (.c (.raw (.slice none 0 0)))], none, true⟩,
  ⟨(some 1), .alloc [(.c (.raw (.slice none 0 0))), (.c (.int .i64 0)), (.c (.int .i64 0)), (.c (.int .i64 0)), (.c (.raw (.slice none 0 0)))], none, true⟩]
@[reducible] def o52_1 : List Ins := [⟨(some 2), .bld [(.c (.int .i64 0)), (.c (.int .i64 0))] [(0, 1, (.k (.c (.int .i64 100)))), (1, 1, (.k (.c (.int .i64 90))))], none, true⟩,
  ⟨(some 3), .bld [(.c (.int .i64 0)), (.c (.int .i64 0))] [(0, 1, (.k (.c (.int .i64 120)))), (1, 1, (.k (.c (.int .i64 80))))], none, true⟩,
  ⟨(some 4), .bld [(.c (.int .i64 0)), (.c (.int .i64 0))] [(0, 1, (.k (.c (.int .i64 60)))), (1, 1, (.k (.c (.int .i64 70))))], none, true⟩,
  ⟨(some 5), .bsl 56 2 [(.t 2), (.t 3), (.t 4)], none, true⟩,
  ⟨(some 6), .bld [(.c (.int .i64 0)), (.c (.int .i64 0))] [(0, 1, (.k (.c (.int .i64 3))))], none, true⟩,
  ⟨(some 7), .bld [(.c (.int .i64 0)), (.c (.int .i64 0))] [(0, 1, (.k (.c (.int .i64 4)))), (1, 1, (.k (.c (.int .i64 10))))], none, true⟩,
  ⟨(some 8), .bld [(.c (.int .i64 0)), (.c (.int .i64 0))] [(1, 1, (.k (.c (.int .i64 12))))], none, true⟩,
  ⟨(some 9), .bld [(.c (.int .i64 0)), (.c (.int .i64 0))] [(0, 1, (.k (.c (.int .i64 3)))), (1, 1, (.k (.c (.int .i64 50))))], none, true⟩,
  ⟨(some 10), .bld [(.c (.int .i64 0)), (.c (.int .i64 0))] [(1, 1, (.k (.c (.int .i64 300))))], none, true⟩,
  ⟨(some 11), .bsl 27 2 [(.t 6), (.t 7), (.t 8), (.t 9), (.t 10)], none, true⟩,
  ⟨(some 12), .bld [(.c (.raw (.slice none 0 0))), (.c (.int .i64 0)), (.c (.int .i64 0)), (.c (.int .i64 0)), (.c (.raw (.slice none 0 0)))] [(0, 1, (.t 5)), (2, 1, (.k (.c (.int .i64 1)))), (3, 1, (.k (.c (.int .i64 5)))), (4, 1, (.t 11))], none, true⟩,
  ⟨none, .st 5 (.t 0) (.t 12), none, true⟩]
@[reducible] def o52_2 : List Ins := [⟨(some 13), .bld [(.c (.int .i64 0)), (.c (.int .i64 0))] [(0, 1, (.k (.c (.int .i64 10)))), (1, 1, (.k (.c (.int .i64 20))))], none, true⟩,
  ⟨(some 14), .bld [(.c (.int .i64 0)), (.c (.int .i64 0))] [(0, 1, (.k (.c (.int .i64 30)))), (1, 1, (.k (.c (.int .i64 40))))], none, true⟩,
  ⟨(some 15), .bsl 56 2 [(.t 13), (.t 14)], none, true⟩,
  ⟨(some 16), .bld [(.c (.int .i64 0)), (.c (.int .i64 0))] [(0, 1, (.k (.c (.int .i64 3))))], none, true⟩,
  ⟨(some 17), .bsl 27 2 [(.t 16)], none, true⟩,
  ⟨(some 18), .bld [(.c (.raw (.slice none 0 0))), (.c (.int .i64 0)), (.c (.int .i64 0)), (.c (.int .i64 0)), (.c (.raw (.slice none 0 0)))] [(0, 1, (.t 15)), (2, 1, (.k (.c (.int .i64 (-1))))), (3, 1, (.k (.c (.int .i64 60)))), (4, 1, (.t 17))], none, true⟩,
  ⟨none, .st 5 (.t 1) (.t 18), none, true⟩]
@[reducible] def t52_3 : OT := (.cons ⟨(some 19), .ld false 5 (.t 0), none, false⟩
  (.br [(.cons ⟨(some 20), .ld false 5 (.t 1), none, false⟩
    (.cons ⟨none, .st 5 (.t 0) (.t 19), none, false⟩
    (.cons ⟨none, .st 5 (.t 1) (.t 20), none, true⟩
    .nil))), (.cons ⟨none, .st 5 (.t 0) (.t 19), none, false⟩
    (.cons ⟨(some 20), .ld false 5 (.t 1), none, false⟩
    (.cons ⟨none, .st 5 (.t 1) (.t 20), none, true⟩
    .nil)))]))
@[reducible] def v52_4 : VC := (.seq (.drw t52_3) .ret)
@[reducible] def v52_5 : VC := (.seq (.ops o52_2) v52_4)
@[reducible] def v52_6 : VC := (.seq (.ops o52_1) v52_5)
def ir52 : FC := ⟨0, 21, [.cell 0 false 5, .cell 1 false 5], (.seq (.ops o52_0) v52_6)⟩
@[reducible] def o19_0 : List Ins := [⟨(some 0), .mv (.k (.c (.bool false))), none, true⟩]
@[reducible] def o19_1 : List Ins := [⟨(some 14), .call (.k (.fn 52 [])) [], none, true⟩,
  ⟨(some 13), .mv (.t 14), none, true⟩,
  ⟨(some 15), .ext (.t 13) 0, none, true⟩,
  ⟨(some 16), .ext (.t 13) 1, none, true⟩,
  ⟨(some 1), .alloc [(.c (.raw (.slice none 0 0))), (.c (.int .i64 0)), (.c (.int .i64 0)), (.c (.int .i64 0)), (.c (.raw (.slice none 0 0)))], none, true⟩,
  ⟨(some 2), .alloc [(.c (.raw (.slice none 0 0))), (.c (.int .i64 0)), (.c (.int .i64 0)), (.c (.int .i64 0)), (.c (.raw (.slice none 0 0)))], none, true⟩,
  ⟨none, .st 5 (.t 1) (.t 15), none, true⟩,
  ⟨none, .st 5 (.t 2) (.t 16), none, true⟩]
@[reducible] def o19_2 : List Ins := [⟨(some 18), .ld false 5 (.t 1), none, true⟩,
  ⟨(some 19), .call (.k (.fn 22 [])) [(.t 18)], none, true⟩,
  ⟨(some 17), .mv (.t 19), none, true⟩,
  ⟨(some 20), .ext (.t 17) 0, none, true⟩,
  ⟨(some 21), .ext (.t 17) 1, none, true⟩,
  ⟨(some 3), .mv (.t 20), none, true⟩,
  ⟨(some 4), .mv (.t 21), none, true⟩]
@[reducible] def o19_3 : List Ins := [⟨(some 23), .ld false 5 (.t 1), none, true⟩,
  ⟨(some 24), .call (.k (.fn 27 [])) [(.t 23), (.k (.c (.int .i64 2)))], none, true⟩,
  ⟨(some 22), .mv (.t 24), none, true⟩,
  ⟨(some 25), .ext (.t 22) 0, none, true⟩,
  ⟨(some 26), .ext (.t 22) 1, none, true⟩,
  ⟨(some 5), .mv (.t 25), none, true⟩,
  ⟨(some 6), .mv (.t 26), none, true⟩]
@[reducible] def o19_4 : List Ins := [⟨(some 28), .ld false 5 (.t 1), none, true⟩,
  ⟨(some 29), .call (.k (.fn 21 [])) [(.t 28), (.k (.c (.int .i64 100)))], none, true⟩,
  ⟨(some 27), .mv (.t 29), none, true⟩,
  ⟨(some 30), .ext (.t 27) 0, none, true⟩,
  ⟨(some 31), .ext (.t 27) 1, none, true⟩,
  ⟨(some 7), .alloc [(.c (.int .i64 0)), (.c (.int .i64 0)), (.c (.int .i64 0))], none, true⟩,
  ⟨none, .st 3 (.t 7) (.t 30), none, true⟩,
  ⟨(some 8), .mv (.t 31), none, true⟩]
@[reducible] def o19_5 : List Ins := [⟨(some 33), .ld false 5 (.t 1), none, true⟩,
  ⟨(some 34), .call (.k (.fn 26 [])) [(.t 33), (.k (.c (.int .i64 2))), (.k (.c (.int .i64 20)))], none, true⟩,
  ⟨(some 32), .mv (.t 34), none, true⟩,
  ⟨(some 35), .ext (.t 32) 0, none, true⟩,
  ⟨(some 36), .ext (.t 32) 1, none, true⟩,
  ⟨(some 9), .mv (.t 35), none, true⟩,
  ⟨(some 10), .mv (.t 36), none, true⟩]
@[reducible] def o19_6 : List Ins := [⟨(some 38), .ld false 5 (.t 2), none, true⟩,
  ⟨(some 39), .call (.k (.fn 37 [])) [(.t 38)], none, true⟩,
  ⟨(some 37), .mv (.t 39), none, true⟩,
  ⟨(some 40), .ext (.t 37) 0, none, true⟩,
  ⟨(some 41), .ext (.t 37) 1, none, true⟩,
  ⟨(some 11), .mv (.t 40), none, true⟩,
  ⟨(some 12), .mv (.t 41), none, true⟩]
@[reducible] def o19_7 : List Ins := [⟨(some 42), .mv (.t 4), none, true⟩,
  ⟨(some 43), .bin .eql (.t 42) (.k (.c (.int .i64 0))), none, true⟩,
  ⟨(some 44), .mv (.t 43), none, true⟩,
  ⟨(some 45), .mv (.t 6), (some (44, true)), true⟩,
  ⟨(some 46), .bin .eql (.t 45) (.k (.c (.int .i64 0))), (some (44, true)), true⟩,
  ⟨(some 47), .pick (.t 44) (.t 46) (.k (.c (.bool false))), none, true⟩,
  ⟨(some 48), .mv (.t 47), none, true⟩,
  ⟨(some 49), .mv (.t 8), (some (48, true)), true⟩,
  ⟨(some 50), .bin .eql (.t 49) (.k (.c (.int .i64 0))), (some (48, true)), true⟩,
  ⟨(some 51), .pick (.t 48) (.t 50) (.k (.c (.bool false))), none, true⟩,
  ⟨(some 52), .mv (.t 51), none, true⟩,
  ⟨(some 53), .mv (.t 10), (some (52, true)), true⟩,
  ⟨(some 54), .bin .eql (.t 53) (.k (.c (.int .i64 0))), (some (52, true)), true⟩,
  ⟨(some 55), .pick (.t 52) (.t 54) (.k (.c (.bool false))), none, true⟩,
  ⟨(some 56), .mv (.t 55), none, true⟩,
  ⟨(some 57), .mv (.t 12), (some (56, true)), true⟩,
  ⟨(some 58), .bin .eql (.t 57) (.k (.c (.int .i64 0))), (some (56, true)), true⟩,
  ⟨(some 59), .pick (.t 56) (.t 58) (.k (.c (.bool false))), none, true⟩,
  ⟨(some 60), .mv (.t 59), none, true⟩,
  ⟨(some 61), .mv (.t 3), (some (60, true)), true⟩,
  ⟨(some 62), .len (.t 61), (some (60, true)), true⟩,
  ⟨(some 63), .bin .eql (.t 62) (.k (.c (.int .i64 4))), (some (60, true)), true⟩,
  ⟨(some 64), .pick (.t 60) (.t 63) (.k (.c (.bool false))), none, true⟩,
  ⟨(some 65), .mv (.t 64), none, true⟩,
  ⟨(some 66), .mv (.t 3), (some (65, true)), true⟩,
  ⟨(some 67), .ia 2 (.t 66) (.k (.c (.int .i64 3))), (some (65, true)), true⟩,
  ⟨(some 68), .ld false 2 (.t 67), (some (65, true)), true⟩,
  ⟨(some 69), .bld [(.c (.int .i64 0)), (.c (.int .i64 0))] [(1, 1, (.k (.c (.int .i64 315))))], (some (65, true)), true⟩,
  ⟨(some 70), .seq false [(0, true), (1, true)] (.t 68) (.t 69), (some (65, true)), true⟩,
  ⟨(some 71), .pick (.t 65) (.t 70) (.k (.c (.bool false))), none, true⟩,
  ⟨(some 72), .mv (.t 71), none, true⟩,
  ⟨(some 73), .mv (.t 5), (some (72, true)), true⟩,
  ⟨(some 74), .bin .eql (.t 73) (.k (.c (.int .i64 148))), (some (72, true)), true⟩,
  ⟨(some 75), .pick (.t 72) (.t 74) (.k (.c (.bool false))), none, true⟩,
  ⟨(some 76), .mv (.t 75), none, true⟩,
  ⟨(some 77), .ld false 3 (.t 7), (some (76, true)), true⟩,
  ⟨(some 78), .bld [(.c (.int .i64 0)), (.c (.int .i64 0)), (.c (.int .i64 0))] [(0, 1, (.k (.c (.int .i64 1)))), (1, 1, (.k (.c (.int .i64 (-1))))), (2, 1, (.k (.c (.int .i64 3))))], (some (76, true)), true⟩,
  ⟨(some 79), .seq false [(0, true), (1, true), (2, true)] (.t 77) (.t 78), (some (76, true)), true⟩,
  ⟨(some 80), .pick (.t 76) (.t 79) (.k (.c (.bool false))), none, true⟩,
  ⟨(some 81), .mv (.t 80), none, true⟩,
  ⟨(some 82), .mv (.t 9), (some (81, true)), true⟩,
  ⟨(some 83), .bin .eql (.t 82) (.k (.c (.int .i64 5))), (some (81, true)), true⟩,
  ⟨(some 84), .pick (.t 81) (.t 83) (.k (.c (.bool false))), none, true⟩,
  ⟨(some 85), .mv (.t 84), none, true⟩,
  ⟨(some 86), .mv (.t 11), (some (85, true)), true⟩,
  ⟨(some 87), .bin .eql (.t 86) (.k (.c (.int .i64 40))), (some (85, true)), true⟩,
  ⟨(some 88), .pick (.t 85) (.t 87) (.k (.c (.bool false))), none, true⟩,
  ⟨(some 0), .mv (.t 88), none, true⟩]
@[reducible] def v19_8 : VC := (.seq (.ops o19_7) .ret)
@[reducible] def v19_9 : VC := (.seq (.ops o19_6) v19_8)
@[reducible] def v19_10 : VC := (.seq (.ops o19_5) v19_9)
@[reducible] def v19_11 : VC := (.seq (.ops o19_4) v19_10)
@[reducible] def v19_12 : VC := (.seq (.ops o19_3) v19_11)
@[reducible] def v19_13 : VC := (.seq (.ops o19_2) v19_12)
@[reducible] def v19_14 : VC := (.seq (.ops o19_1) v19_13)
def ir19 : FC := ⟨0, 89, [.t 0], (.seq (.ops o19_0) v19_14)⟩
theorem c52 : compM Try.prog [] 52 = some ir52 := by kernel_rfl
theorem c19 : compM Try.prog [] 19 = some ir19 := by kernel_rfl



def exT : Tray := ⟨[⟨100, 90⟩, ⟨120, 80⟩, ⟨60, 70⟩], 0, 1, 5, [⟨3, 0⟩, ⟨4, 10⟩, ⟨0, 12⟩, ⟨3, 50⟩, ⟨0, 300⟩]⟩
def exU : Tray := ⟨[⟨10, 20⟩, ⟨30, 40⟩], 0, -1, 60, [⟨3, 0⟩]⟩
theorem example52 : FSpec Try.prog 52 [] (.tup [exT.av, exU.av]) := by
  refine FSpec_of c52 (Nat.le_refl _) (by decide) fun C hP hN hC hL => ?_
  simp only [ir52]
  (repeat ((first | refine WV_seq_ ?_ | refine WV_block ?_ | refine WV_ops ?_ | refine WV_skip ?_ | refine WV_exit ?_); (try simp only [go_sem, init_env', Nat.reduceEqDiff, Nat.reduceAdd, Nat.reduceMul, reduceIte, Nat.reduceLeDiff, Nat.reduceLT, Nat.reduceBEq, reduceCtorEq, hP, ]); (repeat refine qI ?_)))
  (refine WV_drw ?_; simp only [go_sem, init_env', Nat.reduceEqDiff, Nat.reduceAdd, Nat.reduceMul, reduceIte, Nat.reduceLeDiff, Nat.reduceLT, Nat.reduceBEq, reduceCtorEq, hP, ]; (repeat' (refine And.intro ?_ ?_)))
  all_goals
    (repeat ((first | refine WV_seq_ ?_ | refine WV_block ?_ | refine WV_ops ?_ | refine WV_skip ?_ | refine WV_exit ?_); (try simp only [go_sem, init_env', Nat.reduceEqDiff, Nat.reduceAdd, Nat.reduceMul, reduceIte, Nat.reduceLeDiff, Nat.reduceLT, Nat.reduceBEq, reduceCtorEq, hP, ]); (repeat refine qI ?_)))
    (refine WV_ret ?_; simp only [thenQ, inQ, RetQ, RetOk, resAll, resA]; simp only [go_sem, init_env', Nat.reduceEqDiff, Nat.reduceAdd, Nat.reduceMul, reduceIte, Nat.reduceLeDiff, Nat.reduceLT, Nat.reduceBEq, reduceCtorEq, tupA, AV.port, AV.portL, exists_eq_left', ]; (first | exact AVle.of rfl | refine AVle.of ?_ | skip))
theorem exPlays : playsR exT = ([⟨4, 10⟩, ⟨3, 75⟩, ⟨0, 160⟩, ⟨0, 315⟩], 0) := by kernel_rfl
theorem exWait : waitR exT 2 = (148, 0) := by kernel_rfl
theorem exStand : (standR exT 100).2 = 0 ∧ (standR exT 100).1.at_ = 1 ∧ (standR exT 100).1.way = -1 ∧ (standR exT 100).1.side = 3 := ⟨by kernel_rfl, by kernel_rfl, by kernel_rfl, by kernel_rfl⟩
theorem exLatest : latestR exT 2 20 = (5, 0) := by kernel_rfl
theorem exSoon : soonR exU = (40, 0) := by kernel_rfl
set_option maxRecDepth 20000 in
set_option maxHeartbeats 4000000 in
theorem works19 : FSpec Try.prog 19 [] (.c (.bool true)) := by
  have c1 := plays22 exT
  rw [exPlays] at c1
  have c2 := wait27 exT 2
  rw [exWait] at c2
  have c3 := stand21 exT 100
  obtain ⟨s1, s2, s3, s4⟩ := exStand
  simp only [spAv, s1, s2, s3, s4] at c3
  have c4 := latest26 exT 2 20
  rw [exLatest] at c4
  have c5 := soonest37 exU
  rw [exSoon] at c5
  have z3 : ((3 : Int)).toNat = 3 := rfl
  generalize hE : exT = E at *
  generalize hU : exU = U at *
  have hex := example52
  rw [hE, hU] at hex
  refine FSpec_of c19 (Nat.le_refl _) (by decide) fun C hP hN hC hL => ?_
  simp only [ir19]
  (repeat ((first | refine WV_seq_ ?_ | refine WV_block ?_ | refine WV_ops ?_ | refine WV_skip ?_ | refine WV_exit ?_); (try simp only [go_sem, init_env', Nat.reduceEqDiff, Nat.reduceAdd, Nat.reduceMul, reduceIte, Nat.reduceLeDiff, Nat.reduceLT, Nat.reduceBEq, reduceCtorEq, hP, ]); (repeat refine qI ?_)))
  (refine AS_pure (hex) rfl rfl rfl rfl rfl ?_; simp only [go_sem, init_env', Nat.reduceEqDiff, Nat.reduceAdd, Nat.reduceMul, reduceIte, Nat.reduceLeDiff, Nat.reduceLT, Nat.reduceBEq, reduceCtorEq, hP, Tray.av]; (repeat refine qI ?_); (repeat ((first | refine WV_seq_ ?_ | refine WV_block ?_ | refine WV_ops ?_ | refine WV_skip ?_ | refine WV_exit ?_); (try simp only [go_sem, init_env', Nat.reduceEqDiff, Nat.reduceAdd, Nat.reduceMul, reduceIte, Nat.reduceLeDiff, Nat.reduceLT, Nat.reduceBEq, reduceCtorEq, hP, Tray.av]); (repeat refine qI ?_))))
  (refine AS_pure (c1) rfl rfl rfl rfl rfl ?_; simp only [go_sem, init_env', Nat.reduceEqDiff, Nat.reduceAdd, Nat.reduceMul, reduceIte, Nat.reduceLeDiff, Nat.reduceLT, Nat.reduceBEq, reduceCtorEq, hP, Tray.av]; (repeat refine qI ?_); (repeat ((first | refine WV_seq_ ?_ | refine WV_block ?_ | refine WV_ops ?_ | refine WV_skip ?_ | refine WV_exit ?_); (try simp only [go_sem, init_env', Nat.reduceEqDiff, Nat.reduceAdd, Nat.reduceMul, reduceIte, Nat.reduceLeDiff, Nat.reduceLT, Nat.reduceBEq, reduceCtorEq, hP, Tray.av]); (repeat refine qI ?_))))
  (refine AS_pure (c2) rfl rfl rfl rfl rfl ?_; simp only [go_sem, init_env', Nat.reduceEqDiff, Nat.reduceAdd, Nat.reduceMul, reduceIte, Nat.reduceLeDiff, Nat.reduceLT, Nat.reduceBEq, reduceCtorEq, hP, Tray.av]; (repeat refine qI ?_); (repeat ((first | refine WV_seq_ ?_ | refine WV_block ?_ | refine WV_ops ?_ | refine WV_skip ?_ | refine WV_exit ?_); (try simp only [go_sem, init_env', Nat.reduceEqDiff, Nat.reduceAdd, Nat.reduceMul, reduceIte, Nat.reduceLeDiff, Nat.reduceLT, Nat.reduceBEq, reduceCtorEq, hP, Tray.av]); (repeat refine qI ?_))))
  (refine AS_pure (c3) rfl rfl rfl rfl rfl ?_; simp only [go_sem, init_env', Nat.reduceEqDiff, Nat.reduceAdd, Nat.reduceMul, reduceIte, Nat.reduceLeDiff, Nat.reduceLT, Nat.reduceBEq, reduceCtorEq, hP, Tray.av]; (repeat refine qI ?_); (repeat ((first | refine WV_seq_ ?_ | refine WV_block ?_ | refine WV_ops ?_ | refine WV_skip ?_ | refine WV_exit ?_); (try simp only [go_sem, init_env', Nat.reduceEqDiff, Nat.reduceAdd, Nat.reduceMul, reduceIte, Nat.reduceLeDiff, Nat.reduceLT, Nat.reduceBEq, reduceCtorEq, hP, Tray.av]); (repeat refine qI ?_))))
  (refine AS_pure (c4) rfl rfl rfl rfl rfl ?_; simp only [go_sem, init_env', Nat.reduceEqDiff, Nat.reduceAdd, Nat.reduceMul, reduceIte, Nat.reduceLeDiff, Nat.reduceLT, Nat.reduceBEq, reduceCtorEq, hP, Tray.av]; (repeat refine qI ?_); (repeat ((first | refine WV_seq_ ?_ | refine WV_block ?_ | refine WV_ops ?_ | refine WV_skip ?_ | refine WV_exit ?_); (try simp only [go_sem, init_env', Nat.reduceEqDiff, Nat.reduceAdd, Nat.reduceMul, reduceIte, Nat.reduceLeDiff, Nat.reduceLT, Nat.reduceBEq, reduceCtorEq, hP, Tray.av]); (repeat refine qI ?_))))
  (refine AS_pure (c5) rfl rfl rfl rfl rfl ?_; simp only [go_sem, init_env', Nat.reduceEqDiff, Nat.reduceAdd, Nat.reduceMul, reduceIte, Nat.reduceLeDiff, Nat.reduceLT, Nat.reduceBEq, reduceCtorEq, hP, Tray.av, beq_self_eq_true, prsC, List.map_cons, List.map_nil, List.length_cons, List.length_nil, Pr.cds, z3, List.getD_cons_succ, List.getD_cons_zero, seqGo]; (repeat refine qI ?_); (repeat ((first | refine WV_seq_ ?_ | refine WV_block ?_ | refine WV_ops ?_ | refine WV_skip ?_ | refine WV_exit ?_); (try simp only [go_sem, init_env', Nat.reduceEqDiff, Nat.reduceAdd, Nat.reduceMul, reduceIte, Nat.reduceLeDiff, Nat.reduceLT, Nat.reduceBEq, reduceCtorEq, hP, Tray.av, beq_self_eq_true, prsC, List.map_cons, List.map_nil, List.length_cons, List.length_nil, Pr.cds, z3, List.getD_cons_succ, List.getD_cons_zero, seqGo]); (repeat refine qI ?_))))
  (refine WV_ret ?_; simp only [thenQ, inQ, RetQ, RetOk, resAll, resA]; simp only [go_sem, init_env', Nat.reduceEqDiff, Nat.reduceAdd, Nat.reduceMul, reduceIte, Nat.reduceLeDiff, Nat.reduceLT, Nat.reduceBEq, reduceCtorEq, tupA, AV.port, AV.portL, exists_eq_left', ]; (first | exact AVle.of rfl | refine AVle.of ?_ | skip))
end Go.Proofs.Ytkpgpgaojjobgaa

namespace Go.Proofs.Ytkpgpgaojjobgaa
open Go Go.V
@[reducible] def o24_0 : List Ins := [⟨(some 2), .box 5 (.t 0), none, true⟩,
  ⟨(some 4), .mv (.k (.c (.int .i64 0))), none, true⟩]
@[reducible] def o24_1 : List Ins := [⟨(some 5), .mv (.t 1), none, true⟩,
  ⟨(some 6), .bin .rem (.t 5) (.k (.c (.int .i64 2))), none, true⟩,
  ⟨(some 7), .bin .eql (.t 6) (.k (.c (.int .i64 1))), none, true⟩]
@[reducible] def o24_2 : List Ins := [⟨(some 8), .fa 0 (.t 2), none, true⟩,
  ⟨(some 9), .ld true 1 (.t 8), none, true⟩,
  ⟨(some 10), .mv (.t 1), none, true⟩,
  ⟨(some 11), .bin .quo (.t 10) (.k (.c (.int .i64 2))), none, true⟩,
  ⟨(some 12), .ia 2 (.t 9) (.t 11), none, true⟩,
  ⟨(some 13), .fa 1 (.t 12), none, true⟩,
  ⟨(some 14), .ld true 1 (.t 13), none, true⟩,
  ⟨(some 4), .mv (.t 14), none, true⟩]
@[reducible] def v24_3 : VC := (.seq (.ops o24_2) .ret)
@[reducible] def v24_4 : VC := (.cond (.t 7) v24_3 .skip)
@[reducible] def o24_5 : List Ins := [⟨(some 15), .fa 0 (.t 2), none, true⟩,
  ⟨(some 16), .ld true 1 (.t 15), none, true⟩,
  ⟨(some 17), .mv (.t 1), none, true⟩,
  ⟨(some 18), .bin .quo (.t 17) (.k (.c (.int .i64 2))), none, true⟩,
  ⟨(some 19), .ia 2 (.t 16) (.t 18), none, true⟩,
  ⟨(some 20), .fa 0 (.t 19), none, true⟩,
  ⟨(some 21), .ld true 1 (.t 20), none, true⟩,
  ⟨(some 4), .mv (.t 21), none, true⟩]
@[reducible] def v24_6 : VC := (.seq (.ops o24_5) .ret)
@[reducible] def v24_7 : VC := (.seq (.seq (.ops o24_1) v24_4) v24_6)
def ir24 : FC := ⟨2, 22, [.t 4], (.seq (.ops o24_0) v24_7)⟩
@[reducible] def o25_0 : List Ins := [⟨(some 4), .mv (.k (.c (.int .i64 0))), none, true⟩]
@[reducible] def o25_1 : List Ins := [⟨(some 5), .mv (.t 1), none, true⟩,
  ⟨(some 6), .bin .lss (.t 5) (.k (.c (.int .i64 0))), none, true⟩]
@[reducible] def o25_2 : List Ins := [⟨(some 7), .mv (.t 0), none, true⟩,
  ⟨(some 8), .bin .mul (.k (.c (.int .i64 2))) (.t 7), none, true⟩,
  ⟨(some 9), .bin .add (.t 8) (.k (.c (.int .i64 1))), none, true⟩,
  ⟨(some 4), .mv (.t 9), none, true⟩]
@[reducible] def v25_3 : VC := (.seq (.ops o25_2) .ret)
@[reducible] def v25_4 : VC := (.cond (.t 6) v25_3 .skip)
@[reducible] def o25_5 : List Ins := [⟨(some 10), .mv (.t 0), none, true⟩,
  ⟨(some 11), .bin .mul (.k (.c (.int .i64 2))) (.t 10), none, true⟩,
  ⟨(some 4), .mv (.t 11), none, true⟩]
@[reducible] def v25_6 : VC := (.seq (.ops o25_5) .ret)
@[reducible] def v25_7 : VC := (.seq (.seq (.ops o25_1) v25_4) v25_6)
def ir25 : FC := ⟨2, 12, [.t 4], (.seq (.ops o25_0) v25_7)⟩
theorem c24 : compM Try.prog [] 24 = some ir24 := by kernel_rfl
theorem c25 : compM Try.prog [] 25 = some ir25 := by kernel_rfl
theorem secs24 (t : Tray) (s : Nat) (hs : s < 2 * t.n) (hn : t.n ≤ 1000) : FSpec Try.prog 24 [t.av, iv s] (iv (secs t s)) := by
  have e1 : ((s : Int)).tmod 2 = ((s % 2 : Nat) : Int) := by rw [Int.tmod_eq_emod_of_nonneg (by omega)]; omega
  have e2 : ((s : Int)).tdiv 2 = ((s / 2 : Nat) : Int) := by rw [Int.tdiv_eq_ediv_of_nonneg (by omega)]; omega
  have hk : s / 2 < t.recs.length := by show s / 2 < t.n; omega
  have hI : ((s / 2 : Nat) : Int) < (t.recs.length : Int) := by omega
  have w1 := w64 (n := ((s / 2 : Nat) : Int)) (by omega) (by omega)
  have w2 := w64 (n := ((s % 2 : Nat) : Int)) (by omega) (by omega)
  have hrc : t.rc (s / 2) = t.recs[s / 2] := by unfold Tray.rc; simp [hk]
  have hb : ((((s % 2 : Nat) : Int)) == 1) = decide (s % 2 = 1) := by rw [Bool.eq_iff_iff]; simp; omega
  refine FSpec_of c24 (Nat.le_refl _) (by decide) fun C hP hN hC hL => ?_
  simp only [ir24, Tray.av]
  (repeat ((first | refine WV_seq_ ?_ | refine WV_block ?_ | refine WV_ops ?_ | refine WV_skip ?_ | refine WV_exit ?_); (try simp only [go_sem, init_env', Nat.reduceEqDiff, Nat.reduceAdd, Nat.reduceMul, reduceIte, Nat.reduceLeDiff, Nat.reduceLT, Nat.reduceBEq, reduceCtorEq, hP, e1, w2, hb]); (repeat refine qI ?_)))
  by_cases hc : s % 2 = 1
  · rw [decide_eq_true hc]
    (refine WV_cond rfl (fun h => ?_) (fun h => ?_))
    · (repeat ((first | refine WV_seq_ ?_ | refine WV_block ?_ | refine WV_ops ?_ | refine WV_skip ?_ | refine WV_exit ?_); (try simp only [go_sem, init_env', Nat.reduceEqDiff, Nat.reduceAdd, Nat.reduceMul, reduceIte, Nat.reduceLeDiff, Nat.reduceLT, Nat.reduceBEq, reduceCtorEq, hP, e2, w1, recsC, List.length_map, hI, map_getD hk, Rec.cds, Int.natCast_nonneg]); (repeat refine qI ?_)))
      (refine WV_ret ?_; simp only [thenQ, inQ, RetQ, RetOk, resAll, resA]; simp only [go_sem, init_env', Nat.reduceEqDiff, Nat.reduceAdd, Nat.reduceMul, reduceIte, Nat.reduceLeDiff, Nat.reduceLT, Nat.reduceBEq, reduceCtorEq, tupA, AV.port, AV.portL, exists_eq_left', ]; (first | exact AVle.of rfl | refine AVle.of ?_ | skip))
      rw [secs, if_neg (by omega), hrc]
    · simp at h
  · rw [decide_eq_false hc]
    (refine WV_cond rfl (fun h => ?_) (fun h => ?_))
    · simp at h
    · (repeat ((first | refine WV_seq_ ?_ | refine WV_block ?_ | refine WV_ops ?_ | refine WV_skip ?_ | refine WV_exit ?_); (try simp only [go_sem, init_env', Nat.reduceEqDiff, Nat.reduceAdd, Nat.reduceMul, reduceIte, Nat.reduceLeDiff, Nat.reduceLT, Nat.reduceBEq, reduceCtorEq, hP, e2, w1, recsC, List.length_map, hI, map_getD hk, Rec.cds, Int.natCast_nonneg]); (repeat refine qI ?_)))
      (refine WV_ret ?_; simp only [thenQ, inQ, RetQ, RetOk, resAll, resA]; simp only [go_sem, init_env', Nat.reduceEqDiff, Nat.reduceAdd, Nat.reduceMul, reduceIte, Nat.reduceLeDiff, Nat.reduceLT, Nat.reduceBEq, reduceCtorEq, tupA, AV.port, AV.portL, exists_eq_left', ]; (first | exact AVle.of rfl | refine AVle.of ?_ | skip))
      rw [secs, if_pos (by omega), hrc]
theorem sideat25 (k : Nat) (up : Bool) (hk : k ≤ 1000) : FSpec Try.prog 25 [iv k, iv (wayI up)] (iv (sideAt k up)) := by
  have w1 := w64 (n := 2 * (k : Int)) (by omega) (by omega)
  have w2 := w64 (n := 2 * (k : Int) + 1) (by omega) (by omega)
  refine FSpec_of c25 (Nat.le_refl _) (by decide) fun C hP hN hC hL => ?_
  simp only [ir25]
  cases up
  · simp only [wayI, Bool.false_eq_true, if_false]
    (repeat ((first | refine WV_seq_ ?_ | refine WV_block ?_ | refine WV_ops ?_ | refine WV_skip ?_ | refine WV_exit ?_); (try simp only [go_sem, init_env', Nat.reduceEqDiff, Nat.reduceAdd, Nat.reduceMul, reduceIte, Nat.reduceLeDiff, Nat.reduceLT, Nat.reduceBEq, reduceCtorEq, hP, ]); (repeat refine qI ?_)))
    (refine WV_cond rfl (fun h => ?_) (fun h => ?_))
    · (repeat ((first | refine WV_seq_ ?_ | refine WV_block ?_ | refine WV_ops ?_ | refine WV_skip ?_ | refine WV_exit ?_); (try simp only [go_sem, init_env', Nat.reduceEqDiff, Nat.reduceAdd, Nat.reduceMul, reduceIte, Nat.reduceLeDiff, Nat.reduceLT, Nat.reduceBEq, reduceCtorEq, hP, w1, w2]); (repeat refine qI ?_)))
      (refine WV_ret ?_; simp only [thenQ, inQ, RetQ, RetOk, resAll, resA]; simp only [go_sem, init_env', Nat.reduceEqDiff, Nat.reduceAdd, Nat.reduceMul, reduceIte, Nat.reduceLeDiff, Nat.reduceLT, Nat.reduceBEq, reduceCtorEq, tupA, AV.port, AV.portL, exists_eq_left', ]; (first | exact AVle.of rfl | refine AVle.of ?_ | skip))
    · simp at h
  · simp only [wayI, if_true]
    (repeat ((first | refine WV_seq_ ?_ | refine WV_block ?_ | refine WV_ops ?_ | refine WV_skip ?_ | refine WV_exit ?_); (try simp only [go_sem, init_env', Nat.reduceEqDiff, Nat.reduceAdd, Nat.reduceMul, reduceIte, Nat.reduceLeDiff, Nat.reduceLT, Nat.reduceBEq, reduceCtorEq, hP, ]); (repeat refine qI ?_)))
    (refine WV_cond rfl (fun h => ?_) (fun h => ?_))
    · simp at h
    · (repeat ((first | refine WV_seq_ ?_ | refine WV_block ?_ | refine WV_ops ?_ | refine WV_skip ?_ | refine WV_exit ?_); (try simp only [go_sem, init_env', Nat.reduceEqDiff, Nat.reduceAdd, Nat.reduceMul, reduceIte, Nat.reduceLeDiff, Nat.reduceLT, Nat.reduceBEq, reduceCtorEq, hP, w1]); (repeat refine qI ?_)))
      (refine WV_ret ?_; simp only [thenQ, inQ, RetQ, RetOk, resAll, resA]; simp only [go_sem, init_env', Nat.reduceEqDiff, Nat.reduceAdd, Nat.reduceMul, reduceIte, Nat.reduceLeDiff, Nat.reduceLT, Nat.reduceBEq, reduceCtorEq, tupA, AV.port, AV.portL, exists_eq_left', ]; (first | exact AVle.of rfl | refine AVle.of ?_ | skip))
end Go.Proofs.Ytkpgpgaojjobgaa

/-
  Runs of two trays side by side: another order of the presses, one more press: plain.
-/
namespace Go.Proofs.Ytkpgpgaojjobgaa
open Go Go.V

/-! ### A run looks at the records and the step only -/
/-! ### Another order of the presses -/
/-- Two states that differ in the order of presses only. -/
structure Like (s s' : Cs) : Prop where
  q : s.q.Perm s'.q
  eq : { s' with q := s.q } = s
theorem sides_set (l : List Int) : ∀ pins : List Bool, ∀ k, (l.foldl (fun b x => b.set x.toNat true) pins).getD k false = (pins.getD k false || (decide (k < pins.length) && l.any fun x => x.toNat == k)) := by
  induction l with
  | nil => intro pins k; simp
  | cons a l ih =>
    intro pins k
    rw [List.foldl_cons, ih, List.length_set, List.any_cons]
    have e : (pins.set a.toNat true).getD k false = (pins.getD k false || (decide (k < pins.length) && (a.toNat == k))) := by
      rw [List.getD_eq_getElem?_getD, List.getElem?_set, List.getD_eq_getElem?_getD]
      by_cases h1 : a.toNat = k
      · subst h1
        by_cases h2 : a.toNat < pins.length
        · simp [h2]
        · simp [h2]
      · have : (a.toNat == k) = false := by simpa using h1
        rw [if_neg h1, this]; simp
    rw [e]
    cases pins.getD k false <;> cases decide (k < pins.length) <;> cases (a.toNat == k) <;> cases (l.any fun x => x.toNat == k) <;> rfl
theorem ext_pins {l m : List Bool} (hl : l.length = m.length) (h : ∀ k, l.getD k false = m.getD k false) : l = m := by
  apply List.ext_getElem hl
  intro i h1 h2
  have := h i
  simpa [h1, h2] using this
/-- What presses that are sorted come to: those that are over, and those to come. -/
theorem pressQ_eq (now : Int) : ∀ (q : List Pr) (pins : List Bool), q.Pairwise (fun a b => a.time ≤ b.time) →
    pressQ now q pins = (q.filter fun p => decide (now < p.time), ((q.filter fun p => decide (p.time ≤ now)).map Pr.side).foldl (fun b x => b.set x.toNat true) pins)
  | [], pins, _ => rfl
  | p :: q, pins, hs => by
    have hs := List.pairwise_cons.1 hs
    simp only [pressQ]
    by_cases h : p.time ≤ now
    · rw [if_pos h, pressQ_eq now q _ hs.2]
      simp only [List.filter_cons]
      rw [if_neg (by simp; omega), if_pos (by simpa using h), List.map_cons, List.foldl_cons]
    · rw [if_neg h]
      have h1 : (p :: q).filter (fun p => decide (now < p.time)) = p :: q := List.filter_eq_self.2 fun a ha => by
        rcases List.mem_cons.1 ha with rfl | ha
        · simp; omega
        · have := hs.1 a ha; simp; omega
      have h2 : (p :: q).filter (fun p => decide (p.time ≤ now)) = [] := List.filter_eq_nil_iff.2 fun a ha => by
        rcases List.mem_cons.1 ha with rfl | ha
        · simpa using h
        · have := hs.1 a ha; simp; omega
      rw [h1, h2]; rfl
theorem foldl_len (l : List Int) : ∀ pins : List Bool, (l.foldl (fun b x => b.set x.toNat true) pins).length = pins.length := by
  induction l with
  | nil => intro _; rfl
  | cons a l ih => intro pins; rw [List.foldl_cons, ih, List.length_set]
theorem perm_any {l m : List Int} (h : l.Perm m) (f : Int → Bool) : l.any f = m.any f := by
  rw [Bool.eq_iff_iff, List.any_eq_true, List.any_eq_true]
  exact ⟨fun ⟨x, hx, hf⟩ => ⟨x, h.mem_iff.1 hx, hf⟩, fun ⟨x, hx, hf⟩ => ⟨x, h.mem_iff.2 hx, hf⟩⟩
theorem pressQ_perm {now : Int} {q q' : List Pr} {pins : List Bool} (h : q.Perm q') (hs : q.Pairwise fun a b => a.time ≤ b.time) (hs' : q'.Pairwise fun a b => a.time ≤ b.time) :
    (pressQ now q pins).1.Perm (pressQ now q' pins).1 ∧ (pressQ now q pins).2 = (pressQ now q' pins).2 := by
  rw [pressQ_eq _ _ _ hs, pressQ_eq _ _ _ hs']
  refine ⟨h.filter _, ext_pins (by simp only [foldl_len]) fun k => ?_⟩
  simp only [sides_set]
  rw [perm_any ((h.filter _).map _)]
theorem Like.press {t : Tray} {s s' : Cs} (h : Like s s') (hs : CsOk t s) (hs' : CsOk t s') : Like s.press s'.press := by
  obtain ⟨hq, he⟩ := h
  obtain ⟨q, pins, now, a, u, sd, sp, pl, st, en⟩ := s
  obtain ⟨q', pins', now', a', u', sd', sp', pl', st', en'⟩ := s'
  simp only [Cs.mk.injEq, true_and] at he
  obtain ⟨rfl, rfl, rfl, rfl, rfl, rfl, rfl, rfl, rfl⟩ := he
  obtain ⟨h1, h2⟩ := pressQ_perm (now := now') (pins := pins') hq hs.sorted hs'.sorted
  refine ⟨h1, ?_⟩
  simp only [Cs.press, Cs.mk.injEq, true_and]
  exact ⟨h2.symm, trivial⟩
theorem head_time {q q' : List Pr} (h : q.Perm q') (hs : q.Pairwise fun a b => a.time ≤ b.time) (hs' : q'.Pairwise fun a b => a.time ≤ b.time) {p : Pr} {l : List Pr} (hq : q = p :: l) : ∃ p' l', q' = p' :: l' ∧ p'.time = p.time := by
  cases q' with
  | nil => rw [hq] at h; exact absurd h.length_eq (by simp)
  | cons p' l' =>
    subst hq
    refine ⟨p', l', rfl, ?_⟩
    have h1 : p' ∈ p :: l := h.mem_iff.2 (by simp)
    have h2 : p ∈ p' :: l' := h.mem_iff.1 (by simp)
    have e1 : p.time ≤ p'.time := by
      rcases List.mem_cons.1 h1 with rfl | h1
      · exact Int.le_refl _
      · exact (List.pairwise_cons.1 hs).1 _ h1
    have e2 : p'.time ≤ p.time := by
      rcases List.mem_cons.1 h2 with rfl | h2
      · exact Int.le_refl _
      · exact (List.pairwise_cons.1 hs').1 _ h2
    omega
theorem play_q (t : Tray) (s : Cs) (q : List Pr) : ({ s with q := q } : Cs).play t = { s.play t with q := q } := by
  unfold Cs.play
  by_cases h : s.pins.getD s.pos false = true
  · have h' : ({ s with q := q } : Cs).pins.getD ({ s with q := q } : Cs).pos false = true := h
    rw [if_pos h, if_pos h']; rfl
  · have h' : ¬ ({ s with q := q } : Cs).pins.getD ({ s with q := q } : Cs).pos false = true := h
    rw [if_neg h, if_neg h']
theorem next_q (t : Tray) (s : Cs) (q : List Pr) : ({ s with q := q } : Cs).next t = { s.next t with q := q } := by
  obtain ⟨q', pins, now, a, up, sd, sp, pl, st, en⟩ := s
  cases up
  · by_cases h : 0 < a <;> simp [Cs.next, Cs.move, Cs.mark, h]
  · by_cases h : a + 1 < t.n <;> simp [Cs.next, Cs.move, Cs.mark, h]
theorem step_q (t : Tray) (s : Cs) (q : List Pr) : (({ s with q := q } : Cs).play t).next t = { (s.play t).next t with q := q } := by rw [play_q, next_q]
/-- One act of both. -/
theorem Like.act1 {t : Tray} {s s' : Cs} (h : Like s s') (hs : CsOk t s) (hs' : CsOk t s') : (s.act1 t = none ∧ s'.act1 t = none) ∨ ∃ u u', s.act1 t = some u ∧ s'.act1 t = some u' ∧ Like u u' := by
  obtain ⟨hq, he⟩ := h
  obtain ⟨q, pins, now, a, up, sd, sp, pl, st, en⟩ := s
  obtain ⟨q', pins', now', a', up', sd', sp', pl', st', en'⟩ := s'
  simp only [Cs.mk.injEq, true_and] at he
  obtain ⟨rfl, rfl, rfl, rfl, rfl, rfl, rfl, rfl, rfl⟩ := he
  simp only at hq
  unfold Cs.act1
  simp only
  by_cases hp : pins'.all (!·) = true
  · rw [if_pos hp]
    cases q with
    | nil =>
      cases q' with
      | nil => left; simp [hp]
      | cons a b => exact absurd hq.length_eq (by simp)
    | cons p l =>
      obtain ⟨p', l', rfl, ht⟩ := head_time hq hs.sorted hs'.sorted rfl
      right
      refine ⟨_, _, rfl, by simp only [hp, if_true]; rfl, hq, ?_⟩
      simp only [Cs.mk.injEq, true_and, and_true]
      exact ht
  · rw [if_neg hp]
    right
    refine ⟨_, _, rfl, by rw [if_neg hp], ?_, ?_⟩
    · have e1 : ∀ (q : List Pr), (((⟨q, pins', now', a', up', sd', sp', pl', st', en'⟩ : Cs).play t).next t).q = q := fun q => by
        rw [(next_keeps t _).1, (play_pins t _).2.1]
      rw [e1, e1]; exact hq
    · have e1 := step_q t ⟨q', pins', now', a', up', sd', sp', pl', st', en'⟩ q
      have e2 : (((⟨q, pins', now', a', up', sd', sp', pl', st', en'⟩ : Cs).play t).next t).q = q := by
        rw [(next_keeps t _).1, (play_pins t _).2.1]
      rw [e2]
      exact e1.symm
end Go.Proofs.Ytkpgpgaojjobgaa

/-
  One more press: plain.
-/
namespace Go.Proofs.Ytkpgpgaojjobgaa
open Go Go.V

/-- What an act adds comes later. -/
structure Adds (s u : Cs) : Prop where
  now : s.now ≤ u.now
  sp : ∃ a, u.spells = s.spells ++ a ∧ ∀ e ∈ a, s.now ≤ e.from_
  pl : ∃ b, u.plays = s.plays ++ b ∧ ∀ x ∈ b, s.now ≤ x.time
theorem Adds.refl (s : Cs) : Adds s s := ⟨Int.le_refl _, ⟨[], by simp, by simp⟩, ⟨[], by simp, by simp⟩⟩
theorem Adds.trans {s u v : Cs} (h : Adds s u) (k : Adds u v) : Adds s v := by
  obtain ⟨a, ha, ha2⟩ := h.sp
  obtain ⟨b, hb, hb2⟩ := k.sp
  obtain ⟨c, hc, hc2⟩ := h.pl
  obtain ⟨d, hd, hd2⟩ := k.pl
  have h1 := h.now
  have h2 := k.now
  refine ⟨by omega, ⟨a ++ b, by rw [hb, ha, List.append_assoc], fun e he => ?_⟩, ⟨c ++ d, by rw [hd, hc, List.append_assoc], fun e he => ?_⟩⟩
  · rcases List.mem_append.1 he with he | he
    · exact ha2 e he
    · have := hb2 e he; omega
  · rcases List.mem_append.1 he with he | he
    · exact hc2 e he
    · have := hd2 e he; omega
/-- The second one has one more press to come. -/
structure More (p : Pr) (s s' : Cs) : Prop where
  q : s'.q.Perm (p :: s.q)
  eq : { s' with q := s.q } = s
theorem pressQ_more {now : Int} {p : Pr} {q q' : List Pr} {pins : List Bool} (h : q'.Perm (p :: q)) (hs : q.Pairwise fun a b => a.time ≤ b.time) (hs' : q'.Pairwise fun a b => a.time ≤ b.time) (hlt : now < p.time) :
    (pressQ now q' pins).1.Perm (p :: (pressQ now q pins).1) ∧ (pressQ now q pins).2 = (pressQ now q' pins).2 := by
  rw [pressQ_eq _ _ _ hs, pressQ_eq _ _ _ hs']
  have f1 := h.filter (fun p => decide (now < p.time))
  have f2 := h.filter (fun p => decide (p.time ≤ now))
  rw [List.filter_cons, if_pos (by simpa using hlt)] at f1
  rw [List.filter_cons, if_neg (by simp; omega)] at f2
  refine ⟨f1, ext_pins (by simp only [foldl_len]) fun k => ?_⟩
  simp only [sides_set]
  rw [perm_any (f2.map Pr.side)]
/-- The press is set, too. -/
theorem pressQ_set {now : Int} {p : Pr} {q q' : List Pr} {pins : List Bool} (h : q'.Perm (p :: q)) (hs : q.Pairwise fun a b => a.time ≤ b.time) (hs' : q'.Pairwise fun a b => a.time ≤ b.time) (hle : p.time ≤ now) (hpin : (pressQ now q pins).2.getD p.side.toNat false = true) :
    (pressQ now q pins).1.Perm (pressQ now q' pins).1 ∧ (pressQ now q pins).2 = (pressQ now q' pins).2 := by
  rw [pressQ_eq _ _ _ hs] at hpin ⊢
  rw [pressQ_eq _ _ _ hs']
  have f1 := h.filter (fun p => decide (now < p.time))
  have f2 := h.filter (fun p => decide (p.time ≤ now))
  rw [List.filter_cons, if_neg (by simp; omega)] at f1
  rw [List.filter_cons, if_pos (by simpa using hle)] at f2
  refine ⟨f1.symm, ext_pins (by simp only [foldl_len]) fun k => ?_⟩
  simp only [sides_set] at hpin ⊢
  rw [perm_any (f2.map Pr.side), List.map_cons, List.any_cons]
  by_cases hk : p.side.toNat = k
  · subst hk
    rw [hpin]
    by_cases hl : p.side.toNat < pins.length
    · simp [hl]
    · have : pins.getD p.side.toNat false = false := by rw [List.getD_eq_getElem?_getD, List.getElem?_eq_none (by omega)]; rfl
      rw [this] at hpin
      simp [hl] at hpin
  · have : (p.side.toNat == k) = false := by simpa using hk
    rw [this, Bool.false_or]
theorem More.press {t : Tray} {p : Pr} {s s' : Cs} (h : More p s s') (hs : CsOk t s) (hs' : CsOk t s') (hlt : s.now < p.time) : More p s.press s'.press := by
  obtain ⟨hq, he⟩ := h
  obtain ⟨q, pins, now, a, u, sd, sp, pl, st, en⟩ := s
  obtain ⟨q', pins', now', a', u', sd', sp', pl', st', en'⟩ := s'
  simp only [Cs.mk.injEq, true_and] at he
  obtain ⟨rfl, rfl, rfl, rfl, rfl, rfl, rfl, rfl, rfl⟩ := he
  obtain ⟨h1, h2⟩ := pressQ_more (now := now') (pins := pins') hq hs.sorted hs'.sorted hlt
  refine ⟨h1, ?_⟩
  simp only [Cs.press, Cs.mk.injEq, true_and]
  exact ⟨h2.symm, trivial⟩
theorem More.set {t : Tray} {p : Pr} {s s' : Cs} (h : More p s s') (hs : CsOk t s) (hs' : CsOk t s') (hle : p.time ≤ s.now) (hpin : s.press.pins.getD p.side.toNat false = true) : Like s.press s'.press := by
  obtain ⟨hq, he⟩ := h
  obtain ⟨q, pins, now, a, u, sd, sp, pl, st, en⟩ := s
  obtain ⟨q', pins', now', a', u', sd', sp', pl', st', en'⟩ := s'
  simp only [Cs.mk.injEq, true_and] at he
  obtain ⟨rfl, rfl, rfl, rfl, rfl, rfl, rfl, rfl, rfl⟩ := he
  obtain ⟨h1, h2⟩ := pressQ_set (now := now') (pins := pins') hq hs.sorted hs'.sorted hle hpin
  refine ⟨h1, ?_⟩
  simp only [Cs.press, Cs.mk.injEq, true_and]
  exact ⟨h2.symm, trivial⟩
/-- Both do the same, as long as something is asked for. -/
theorem More.step {t : Tray} {p : Pr} {s s' : Cs} (h : More p s s') : More p ((s.play t).next t) ((s'.play t).next t) := by
  have e1 : ∀ x : Cs, ((x.play t).next t).q = x.q := fun x => by rw [(next_keeps t _).1, (play_pins t x).2.1]
  refine ⟨by rw [e1, e1]; exact h.q, ?_⟩
  have := step_q t s' s.q
  rw [h.eq] at this
  rw [e1]
  exact this.symm
theorem act1_busy {t : Tray} {s : Cs} (h : s.pins.all (!·) = false) : s.act1 t = some ((s.play t).next t) := by
  unfold Cs.act1; rw [if_neg (by rw [h]; simp)]
theorem act1_idle {t : Tray} {s : Cs} (h : s.pins.all (!·) = true) {p : Pr} {q : List Pr} (hq : s.q = p :: q) : s.act1 t = some { s with now := p.time } := by
  unfold Cs.act1; rw [if_pos h, hq]
theorem act1_end {t : Tray} {s : Cs} (h : s.pins.all (!·) = true) (hq : s.q = []) : s.act1 t = none := by
  unfold Cs.act1; rw [if_pos h, hq]
theorem More.pins {p : Pr} {s s' : Cs} (h : More p s s') : s'.pins = s.pins ∧ s'.now = s.now ∧ s'.spells = s.spells ∧ s'.plays = s.plays := by
  have e := h.eq
  rw [← e]; exact ⟨rfl, rfl, rfl, rfl⟩
/-! ### What was before -/
end Go.Proofs.Ytkpgpgaojjobgaa

/-
  While a side plays, the carriage stands at its place: plain.
-/
namespace Go.Proofs.Ytkpgpgaojjobgaa
open Go Go.V

theorem standG_later {x : Int} {a : Sp} (h : x < a.from_) : ∀ (l : List Sp) (o : Sp), standG x o (l ++ [a]) = standG x o l
  | [], o => by simp [standG, h]
  | s :: l, o => by
    simp only [List.cons_append, standG]
    split
    · rfl
    · exact standG_later h l s
theorem standG_now {x : Int} {a : Sp} (h : a.from_ ≤ x) : ∀ (l : List Sp) (o : Sp), (∀ e ∈ l, e.from_ ≤ x) → standG x o (l ++ [a]) = a
  | [], o, _ => by simp only [List.nil_append, standG]; rw [if_neg (by omega)]
  | s :: l, o, hl => by
    simp only [List.cons_append, standG]
    rw [if_neg (by have := hl s (by simp); omega)]
    exact standG_now h l s fun e he => hl e (by simp [he])
/-- The side that plays at a time; -1: none. -/
def playing (t : Tray) (l : List Pr) (x : Int) : Int := l.foldl (fun w p => if p.time ≤ x ∧ x < p.time + secsI t p.side then p.side else w) (-1)
theorem playing_snoc (t : Tray) (l : List Pr) (p : Pr) (x : Int) : playing t (l ++ [p]) x = if p.time ≤ x ∧ x < p.time + secsI t p.side then p.side else playing t l x := by
  unfold playing; rw [List.foldl_append]; rfl
theorem playing_none {t : Tray} {l : List Pr} {x : Int} (h : ∀ p ∈ l, p.time + secsI t p.side ≤ x) : playing t l x = -1 := by
  unfold playing
  generalize hw : (-1 : Int) = w
  clear hw
  induction l generalizing w with
  | nil => rfl
  | cons p l ih =>
    rw [List.foldl_cons, if_neg (by have := h p (by simp); omega)]
    exact ih (fun q hq => h q (by simp [hq])) w
structure Shows (t : Tray) (s : Cs) (x : Int) (e : Sp) : Prop where
  at_ : ∃ (k : Nat) (up : Bool), k < t.n ∧ e.at_ = (k : Int) ∧ e.way = wayI up ∧ (e.side = -1 ∨ e.side = (sideAt k up : Int))
  before : x < s.now → e.side = playing t s.plays x
  now : s.now ≤ x → e.side = -1 ∧ e.at_ = (s.at_ : Int) ∧ e.way = wayI s.up
structure Stands (t : Tray) (s : Cs) : Prop where
  inv : Inv t s
  le : ∀ e ∈ s.spells, e.from_ ≤ s.now
  shows : ∀ (o : Sp) (x : Int), 0 ≤ x → Shows t s x (standG x o s.spells)
theorem Stands.next {t : Tray} {s : Cs} (ht : TrayOk t) (hs : s.at_ < t.n) (hp : ∀ p ∈ s.plays, p.time + secsI t p.side ≤ s.now) (h1 : ∀ e ∈ s.spells, e.from_ ≤ s.now) (h : ∀ (o : Sp) (x : Int), 0 ≤ x → Shows t s x (standG x o s.spells)) :
    (∀ e ∈ (s.next t).spells, e.from_ ≤ (s.next t).now) ∧ ∀ (o : Sp) (x : Int), 0 ≤ x → Shows t (s.next t) x (standG x o (s.next t).spells) := by
  obtain ⟨m1, m2, m3, m4, m5⟩ := move_q t s
  obtain ⟨n1, n2, n3, n4⟩ := move_now ht.step.1 s
  have hat := (move_c (t := t) hs).2
  have es : (s.next t).spells = s.spells ++ [⟨((s.move t).at_ : Int), wayI (s.move t).up, -1, (s.move t).now⟩] := by
    show (s.move t).spells ++ _ = _
    rw [m4]
  have en : (s.next t).now = (s.move t).now := rfl
  have ep : (s.next t).plays = s.plays := m3
  rw [es, en]
  refine ⟨fun e he => ?_, fun o x hx => ?_⟩
  · rcases List.mem_append.1 he with he | he
    · have := h1 e he; omega
    · simp only [List.mem_singleton] at he
      subst he; exact Int.le_refl _
  · by_cases hc : x < (s.move t).now
    · rw [standG_later (by exact hc)]
      have hh := h o x hx
      refine ⟨hh.at_, fun _ => ?_, fun hc2 => by rw [en] at hc2; omega⟩
      rw [ep]
      by_cases hc2 : x < s.now
      · exact hh.before hc2
      · rw [(hh.now (by omega)).1, playing_none fun p hpm => by have := hp p hpm; omega]
    · rw [standG_now (by simp only; omega) _ _ fun e he => by have := h1 e he; omega]
      exact ⟨⟨(s.move t).at_, (s.move t).up, hat, rfl, rfl, .inl rfl⟩, fun hc2 => by rw [en] at hc2; omega, fun _ => ⟨rfl, rfl, rfl⟩⟩
theorem Stands.act1 {t : Tray} (ht : TrayOk t) {s s' : Cs} (hs : CsOk t s) (hpr : Pressed s) (h : Stands t s) (e : s.act1 t = some s') : Stands t s' := by
  have hi := h.inv.act1 ht hs hpr e
  have hpl := fun p hp => (h.inv.ply p hp).2.2.2
  rcases act1_cases e with ⟨p, q, hq, hpins, rfl⟩ | ⟨hpins, rfl⟩
  · have hnow := hpr p (by rw [hq]; simp)
    refine ⟨hi, fun e he => by have := h.le e he; simp only; omega, fun o x hx => ?_⟩
    have hh := h.shows o x hx
    refine ⟨hh.at_, fun hc => ?_, fun hc => hh.now (by simp only at hc; omega)⟩
    by_cases hc2 : x < s.now
    · exact hh.before hc2
    · show (standG x o s.spells).side = playing t s.plays x
      rw [(hh.now (by omega)).1, playing_none fun p hpm => by have := hpl p hpm; omega]
  · by_cases hp : s.pins.getD s.pos false = true
    · have hpos := pos_lt hs
      have hsec := secs_ok ht hpos
      have hnow := hs.now
      have hsI : secsI t ((s.pos : Nat) : Int) = secs t s.pos := by unfold secsI; rw [Int.toNat_natCast]
      have ep : s.play t = (s.play1).play2 t := by unfold Cs.play; rw [if_pos hp]
      obtain ⟨p1, p2, p3, p4, p5, p6⟩ := play_yes (t := t) hp
      have ea : (s.play t).at_ = s.at_ ∧ (s.play t).up = s.up := ⟨(play_pins t s).2.2.1, (play_pins t s).2.2.2⟩
      have es : (s.play t).spells = s.spells ++ [⟨s.at_, wayI s.up, s.pos, s.now⟩] ++ [⟨s.at_, wayI s.up, -1, s.now + secs t s.pos⟩] := by rw [ep]; rfl
      have hk := Stands.next (s := s.play t) ht (by rw [ea.1]; exact hs.at_) (fun x hx => by
        rw [p3] at hx; rw [p4]
        rcases List.mem_append.1 hx with hx | hx
        · have := hpl x hx; omega
        · simp only [List.mem_singleton] at hx
          subst hx; simp only [hsI]; omega) (fun e he => by
        rw [es] at he; rw [p4]
        rcases List.mem_append.1 he with he | he
        · rcases List.mem_append.1 he with he | he
          · have := h.le e he; omega
          · simp only [List.mem_singleton] at he; subst he; simp only; omega
        · simp only [List.mem_singleton] at he; subst he; simp only; omega) (fun o x hx => by
        rw [es]
        by_cases hc : x < s.now + secs t s.pos
        · rw [standG_later (by exact hc)]
          by_cases hc2 : x < s.now
          · rw [standG_later (by exact hc2)]
            have hh := h.shows o x hx
            refine ⟨hh.at_, fun _ => ?_, fun hc3 => by rw [p4] at hc3; omega⟩
            rw [p3, playing_snoc, if_neg (by simp only; omega)]
            exact hh.before hc2
          · rw [standG_now (by simp only; omega) _ _ fun e he => by have := h.le e he; omega]
            refine ⟨⟨s.at_, s.up, hs.at_, rfl, rfl, .inr rfl⟩, fun _ => ?_, fun hc3 => by rw [p4] at hc3; omega⟩
            rw [p3, playing_snoc, if_pos (by simp only [hsI]; omega)]
        · rw [standG_now (by simp only; omega) _ _ fun e he => by
            rcases List.mem_append.1 he with he | he
            · have := h.le e he; omega
            · simp only [List.mem_singleton] at he; subst he; simp only; omega]
          exact ⟨⟨s.at_, s.up, hs.at_, rfl, rfl, .inl rfl⟩, fun hc3 => by rw [p4] at hc3; omega, fun _ => ⟨rfl, by rw [ea.1], by rw [ea.2]⟩⟩)
      exact ⟨hi, hk.1, hk.2⟩
    · rw [play_no hp] at hi ⊢
      have hk := Stands.next (s := s) ht hs.at_ hpl h.le h.shows
      exact ⟨hi, hk.1, hk.2⟩
end Go.Proofs.Ytkpgpgaojjobgaa

namespace Go.Proofs.Ytkpgpgaojjobgaa
open Go Go.V
@[reducible] def o20_0 : List Ins := [⟨(some 1), .box 5 (.t 0), none, true⟩,
  ⟨(some 2), .alloc [(.c (.raw (.slice none 0 0))), (.c (.int .i64 0)), (.c (.int .i64 0)), (.c (.int .i64 0)), (.c (.raw (.slice none 0 0)))], none, true⟩]
@[reducible] def o20_1 : List Ins := [⟨(some 4), .ld false 5 (.t 1), none, true⟩,
  ⟨(some 3), .alloc [(.c (.raw (.slice none 0 0))), (.c (.int .i64 0)), (.c (.int .i64 0)), (.c (.int .i64 0)), (.c (.raw (.slice none 0 0)))], none, true⟩,
  ⟨none, .st 5 (.t 3) (.t 4), none, true⟩]
@[reducible] def t20_2 : OT := (.cons ⟨(some 6), .fa 0 (.t 1), none, false⟩
  (.cons ⟨(some 7), .ld true 1 (.t 6), none, false⟩
  (.cons ⟨(some 10), .fa 4 (.t 1), none, false⟩
  (.cons ⟨(some 11), .ld true 1 (.t 10), none, false⟩
  (.br [(.cons ⟨(some 5), .bsl 56 2 [], none, false⟩
    (.br [(.cons ⟨(some 8), .app 56 2 16 (.t 5) (.t 7), none, false⟩
      (.cons ⟨(some 9), .bsl 27 2 [], none, false⟩
      (.cons ⟨(some 12), .app 27 2 16 (.t 9) (.t 11), none, false⟩
      (.cons ⟨(some 13), .fa 0 (.t 3), none, false⟩
      (.cons ⟨none, .st 1 (.t 13) (.t 8), none, true⟩
      (.cons ⟨(some 14), .fa 4 (.t 3), none, true⟩
      (.cons ⟨none, .st 1 (.t 14) (.t 12), none, true⟩
      .nil))))))), (.cons ⟨(some 9), .bsl 27 2 [], none, false⟩
      (.cons ⟨(some 8), .app 56 2 16 (.t 5) (.t 7), none, false⟩
      (.cons ⟨(some 12), .app 27 2 16 (.t 9) (.t 11), none, false⟩
      (.cons ⟨(some 13), .fa 0 (.t 3), none, false⟩
      (.cons ⟨none, .st 1 (.t 13) (.t 8), none, true⟩
      (.cons ⟨(some 14), .fa 4 (.t 3), none, true⟩
      (.cons ⟨none, .st 1 (.t 14) (.t 12), none, true⟩
      .nil)))))))])), (.cons ⟨(some 9), .bsl 27 2 [], none, false⟩
    (.cons ⟨(some 5), .bsl 56 2 [], none, false⟩
    (.cons ⟨(some 8), .app 56 2 16 (.t 5) (.t 7), none, false⟩
    (.cons ⟨(some 12), .app 27 2 16 (.t 9) (.t 11), none, false⟩
    (.cons ⟨(some 13), .fa 0 (.t 3), none, false⟩
    (.cons ⟨none, .st 1 (.t 13) (.t 8), none, true⟩
    (.cons ⟨(some 14), .fa 4 (.t 3), none, true⟩
    (.cons ⟨none, .st 1 (.t 14) (.t 12), none, true⟩
    .nil))))))))])))))
@[reducible] def o20_3 : List Ins := [⟨(some 15), .ld false 5 (.t 3), none, true⟩,
  ⟨none, .st 5 (.t 2) (.t 15), none, true⟩]
@[reducible] def v20_4 : VC := (.seq (.ops o20_3) .ret)
@[reducible] def v20_5 : VC := (.seq (.drw t20_2) v20_4)
@[reducible] def v20_6 : VC := (.seq (.ops o20_1) v20_5)
def ir20 : FC := ⟨1, 16, [.cell 2 false 5], (.seq (.ops o20_0) v20_6)⟩
theorem c20 : compM Try.prog [] 20 = some ir20 := by kernel_rfl



set_option maxRecDepth 20000 in
set_option maxHeartbeats 8000000 in
theorem copy20 (t : Tray) (hn : t.recs.length ≤ 1000) (hp : t.pres.length ≤ 1000) : FSpec Try.prog 20 [t.av] t.av := by
  have hmax : maxLen = 9223372036854775807 := rfl
  refine FSpec_of c20 (Nat.le_refl _) (by decide) fun C hP hN hC hL => ?_
  simp only [ir20, Tray.av]
  (repeat ((first | refine WV_seq_ ?_ | refine WV_block ?_ | refine WV_ops ?_ | refine WV_skip ?_ | refine WV_exit ?_); (try simp only [go_sem, init_env', Nat.reduceEqDiff, Nat.reduceAdd, Nat.reduceMul, reduceIte, Nat.reduceLeDiff, Nat.reduceLT, Nat.reduceBEq, reduceCtorEq, hP, ]); (repeat refine qI ?_)))
  (refine WV_drw ?_; simp only [go_sem, init_env', Nat.reduceEqDiff, Nat.reduceAdd, Nat.reduceMul, reduceIte, Nat.reduceLeDiff, Nat.reduceLT, Nat.reduceBEq, reduceCtorEq, hP, recsC, prsC, recs_two, prs_two, List.nil_append, List.length_nil, List.length_map]; (repeat' (refine And.intro ?_ ?_)))
  all_goals try omega
  all_goals
    (repeat ((first | refine WV_seq_ ?_ | refine WV_block ?_ | refine WV_ops ?_ | refine WV_skip ?_ | refine WV_exit ?_); (try simp only [go_sem, init_env', Nat.reduceEqDiff, Nat.reduceAdd, Nat.reduceMul, reduceIte, Nat.reduceLeDiff, Nat.reduceLT, Nat.reduceBEq, reduceCtorEq, hP, recsC, prsC, recs_two, prs_two, List.nil_append, List.length_nil, List.length_map]); (repeat refine qI ?_)))
    (refine WV_ret ?_; simp only [thenQ, inQ, RetQ, RetOk, resAll, resA]; simp only [go_sem, init_env', Nat.reduceEqDiff, Nat.reduceAdd, Nat.reduceMul, reduceIte, Nat.reduceLeDiff, Nat.reduceLT, Nat.reduceBEq, reduceCtorEq, tupA, AV.port, AV.portL, exists_eq_left', ]; (first | exact AVle.of rfl | refine AVle.of ?_ | skip))
end Go.Proofs.Ytkpgpgaojjobgaa

namespace Go.Proofs.Ytkpgpgaojjobgaa
open Go Go.V
namespace W
@[reducible] def o20_0 : List Ins := [⟨(some 1), .box 5 (.t 0), none, true⟩,
  ⟨(some 2), .alloc [(.c (.raw (.slice none 0 0))), (.c (.int .i64 0)), (.c (.int .i64 0)), (.c (.int .i64 0)), (.c (.raw (.slice none 0 0)))], none, true⟩]
@[reducible] def o20_1 : List Ins := [⟨(some 4), .ld false 5 (.t 1), none, true⟩,
  ⟨(some 3), .alloc [(.c (.raw (.slice none 0 0))), (.c (.int .i64 0)), (.c (.int .i64 0)), (.c (.int .i64 0)), (.c (.raw (.slice none 0 0)))], none, true⟩,
  ⟨none, .st 5 (.t 3) (.t 4), none, true⟩]
@[reducible] def t20_2 : OT := (.cons ⟨(some 6), .fa 0 (.t 1), none, false⟩
  (.cons ⟨(some 7), .ld true 1 (.t 6), none, false⟩
  (.br [(.cons ⟨(some 5), .bsl 56 2 [], none, false⟩
    (.br [(.cons ⟨(some 8), .appv 56 2 16 (.t 5) (.t 7), none, true⟩
      (.cons ⟨(some 9), .bsl 27 2 [], none, false⟩
      (.cons ⟨(some 10), .fa 4 (.t 1), none, false⟩
      (.cons ⟨(some 11), .ld true 1 (.t 10), none, false⟩
      (.br [(.cons ⟨(some 12), .appv 27 2 16 (.t 9) (.t 11), none, true⟩
        (.cons ⟨(some 13), .fa 0 (.t 3), none, false⟩
        (.cons ⟨none, .st 1 (.t 13) (.t 8), none, true⟩
        (.cons ⟨(some 14), .fa 4 (.t 3), none, true⟩
        (.cons ⟨none, .st 1 (.t 14) (.t 12), none, true⟩
        .nil))))), (.cons ⟨(some 13), .fa 0 (.t 3), none, false⟩
        (.cons ⟨(some 12), .appv 27 2 16 (.t 9) (.t 11), none, true⟩
        (.cons ⟨none, .st 1 (.t 13) (.t 8), none, true⟩
        (.cons ⟨(some 14), .fa 4 (.t 3), none, true⟩
        (.cons ⟨none, .st 1 (.t 14) (.t 12), none, true⟩
        .nil)))))]))))), (.cons ⟨(some 9), .bsl 27 2 [], none, false⟩
      (.br [(.cons ⟨(some 8), .appv 56 2 16 (.t 5) (.t 7), none, true⟩
        (.cons ⟨(some 10), .fa 4 (.t 1), none, false⟩
        (.cons ⟨(some 11), .ld true 1 (.t 10), none, false⟩
        (.br [(.cons ⟨(some 12), .appv 27 2 16 (.t 9) (.t 11), none, true⟩
          (.cons ⟨(some 13), .fa 0 (.t 3), none, false⟩
          (.cons ⟨none, .st 1 (.t 13) (.t 8), none, true⟩
          (.cons ⟨(some 14), .fa 4 (.t 3), none, true⟩
          (.cons ⟨none, .st 1 (.t 14) (.t 12), none, true⟩
          .nil))))), (.cons ⟨(some 13), .fa 0 (.t 3), none, false⟩
          (.cons ⟨(some 12), .appv 27 2 16 (.t 9) (.t 11), none, true⟩
          (.cons ⟨none, .st 1 (.t 13) (.t 8), none, true⟩
          (.cons ⟨(some 14), .fa 4 (.t 3), none, true⟩
          (.cons ⟨none, .st 1 (.t 14) (.t 12), none, true⟩
          .nil)))))])))), (.cons ⟨(some 10), .fa 4 (.t 1), none, false⟩
        (.br [(.cons ⟨(some 8), .appv 56 2 16 (.t 5) (.t 7), none, true⟩
          (.cons ⟨(some 11), .ld true 1 (.t 10), none, false⟩
          (.br [(.cons ⟨(some 12), .appv 27 2 16 (.t 9) (.t 11), none, true⟩
            (.cons ⟨(some 13), .fa 0 (.t 3), none, false⟩
            (.cons ⟨none, .st 1 (.t 13) (.t 8), none, true⟩
            (.cons ⟨(some 14), .fa 4 (.t 3), none, true⟩
            (.cons ⟨none, .st 1 (.t 14) (.t 12), none, true⟩
            .nil))))), (.cons ⟨(some 13), .fa 0 (.t 3), none, false⟩
            (.cons ⟨(some 12), .appv 27 2 16 (.t 9) (.t 11), none, true⟩
            (.cons ⟨none, .st 1 (.t 13) (.t 8), none, true⟩
            (.cons ⟨(some 14), .fa 4 (.t 3), none, true⟩
            (.cons ⟨none, .st 1 (.t 14) (.t 12), none, true⟩
            .nil)))))]))), (.cons ⟨(some 11), .ld true 1 (.t 10), none, false⟩
          (.cons ⟨(some 8), .appv 56 2 16 (.t 5) (.t 7), none, true⟩
          (.br [(.cons ⟨(some 12), .appv 27 2 16 (.t 9) (.t 11), none, true⟩
            (.cons ⟨(some 13), .fa 0 (.t 3), none, false⟩
            (.cons ⟨none, .st 1 (.t 13) (.t 8), none, true⟩
            (.cons ⟨(some 14), .fa 4 (.t 3), none, true⟩
            (.cons ⟨none, .st 1 (.t 14) (.t 12), none, true⟩
            .nil))))), (.cons ⟨(some 13), .fa 0 (.t 3), none, false⟩
            (.cons ⟨(some 12), .appv 27 2 16 (.t 9) (.t 11), none, true⟩
            (.cons ⟨none, .st 1 (.t 13) (.t 8), none, true⟩
            (.cons ⟨(some 14), .fa 4 (.t 3), none, true⟩
            (.cons ⟨none, .st 1 (.t 14) (.t 12), none, true⟩
            .nil)))))])))]))])), (.cons ⟨(some 10), .fa 4 (.t 1), none, false⟩
      (.br [(.cons ⟨(some 8), .appv 56 2 16 (.t 5) (.t 7), none, true⟩
        (.cons ⟨(some 9), .bsl 27 2 [], none, false⟩
        (.cons ⟨(some 11), .ld true 1 (.t 10), none, false⟩
        (.br [(.cons ⟨(some 12), .appv 27 2 16 (.t 9) (.t 11), none, true⟩
          (.cons ⟨(some 13), .fa 0 (.t 3), none, false⟩
          (.cons ⟨none, .st 1 (.t 13) (.t 8), none, true⟩
          (.cons ⟨(some 14), .fa 4 (.t 3), none, true⟩
          (.cons ⟨none, .st 1 (.t 14) (.t 12), none, true⟩
          .nil))))), (.cons ⟨(some 13), .fa 0 (.t 3), none, false⟩
          (.cons ⟨(some 12), .appv 27 2 16 (.t 9) (.t 11), none, true⟩
          (.cons ⟨none, .st 1 (.t 13) (.t 8), none, true⟩
          (.cons ⟨(some 14), .fa 4 (.t 3), none, true⟩
          (.cons ⟨none, .st 1 (.t 14) (.t 12), none, true⟩
          .nil)))))])))), (.cons ⟨(some 9), .bsl 27 2 [], none, false⟩
        (.br [(.cons ⟨(some 8), .appv 56 2 16 (.t 5) (.t 7), none, true⟩
          (.cons ⟨(some 11), .ld true 1 (.t 10), none, false⟩
          (.br [(.cons ⟨(some 12), .appv 27 2 16 (.t 9) (.t 11), none, true⟩
            (.cons ⟨(some 13), .fa 0 (.t 3), none, false⟩
            (.cons ⟨none, .st 1 (.t 13) (.t 8), none, true⟩
            (.cons ⟨(some 14), .fa 4 (.t 3), none, true⟩
            (.cons ⟨none, .st 1 (.t 14) (.t 12), none, true⟩
            .nil))))), (.cons ⟨(some 13), .fa 0 (.t 3), none, false⟩
            (.cons ⟨(some 12), .appv 27 2 16 (.t 9) (.t 11), none, true⟩
            (.cons ⟨none, .st 1 (.t 13) (.t 8), none, true⟩
            (.cons ⟨(some 14), .fa 4 (.t 3), none, true⟩
            (.cons ⟨none, .st 1 (.t 14) (.t 12), none, true⟩
            .nil)))))]))), (.cons ⟨(some 11), .ld true 1 (.t 10), none, false⟩
          (.cons ⟨(some 8), .appv 56 2 16 (.t 5) (.t 7), none, true⟩
          (.br [(.cons ⟨(some 12), .appv 27 2 16 (.t 9) (.t 11), none, true⟩
            (.cons ⟨(some 13), .fa 0 (.t 3), none, false⟩
            (.cons ⟨none, .st 1 (.t 13) (.t 8), none, true⟩
            (.cons ⟨(some 14), .fa 4 (.t 3), none, true⟩
            (.cons ⟨none, .st 1 (.t 14) (.t 12), none, true⟩
            .nil))))), (.cons ⟨(some 13), .fa 0 (.t 3), none, false⟩
            (.cons ⟨(some 12), .appv 27 2 16 (.t 9) (.t 11), none, true⟩
            (.cons ⟨none, .st 1 (.t 13) (.t 8), none, true⟩
            (.cons ⟨(some 14), .fa 4 (.t 3), none, true⟩
            (.cons ⟨none, .st 1 (.t 14) (.t 12), none, true⟩
            .nil)))))])))])), (.cons ⟨(some 11), .ld true 1 (.t 10), none, false⟩
        (.br [(.cons ⟨(some 8), .appv 56 2 16 (.t 5) (.t 7), none, true⟩
          (.cons ⟨(some 9), .bsl 27 2 [], none, false⟩
          (.br [(.cons ⟨(some 12), .appv 27 2 16 (.t 9) (.t 11), none, true⟩
            (.cons ⟨(some 13), .fa 0 (.t 3), none, false⟩
            (.cons ⟨none, .st 1 (.t 13) (.t 8), none, true⟩
            (.cons ⟨(some 14), .fa 4 (.t 3), none, true⟩
            (.cons ⟨none, .st 1 (.t 14) (.t 12), none, true⟩
            .nil))))), (.cons ⟨(some 13), .fa 0 (.t 3), none, false⟩
            (.cons ⟨(some 12), .appv 27 2 16 (.t 9) (.t 11), none, true⟩
            (.cons ⟨none, .st 1 (.t 13) (.t 8), none, true⟩
            (.cons ⟨(some 14), .fa 4 (.t 3), none, true⟩
            (.cons ⟨none, .st 1 (.t 14) (.t 12), none, true⟩
            .nil)))))]))), (.cons ⟨(some 9), .bsl 27 2 [], none, false⟩
          (.cons ⟨(some 8), .appv 56 2 16 (.t 5) (.t 7), none, true⟩
          (.br [(.cons ⟨(some 12), .appv 27 2 16 (.t 9) (.t 11), none, true⟩
            (.cons ⟨(some 13), .fa 0 (.t 3), none, false⟩
            (.cons ⟨none, .st 1 (.t 13) (.t 8), none, true⟩
            (.cons ⟨(some 14), .fa 4 (.t 3), none, true⟩
            (.cons ⟨none, .st 1 (.t 14) (.t 12), none, true⟩
            .nil))))), (.cons ⟨(some 13), .fa 0 (.t 3), none, false⟩
            (.cons ⟨(some 12), .appv 27 2 16 (.t 9) (.t 11), none, true⟩
            (.cons ⟨none, .st 1 (.t 13) (.t 8), none, true⟩
            (.cons ⟨(some 14), .fa 4 (.t 3), none, true⟩
            (.cons ⟨none, .st 1 (.t 14) (.t 12), none, true⟩
            .nil)))))])))]))]))])), (.cons ⟨(some 9), .bsl 27 2 [], none, false⟩
    (.cons ⟨(some 5), .bsl 56 2 [], none, false⟩
    (.br [(.cons ⟨(some 8), .appv 56 2 16 (.t 5) (.t 7), none, true⟩
      (.cons ⟨(some 10), .fa 4 (.t 1), none, false⟩
      (.cons ⟨(some 11), .ld true 1 (.t 10), none, false⟩
      (.br [(.cons ⟨(some 12), .appv 27 2 16 (.t 9) (.t 11), none, true⟩
        (.cons ⟨(some 13), .fa 0 (.t 3), none, false⟩
        (.cons ⟨none, .st 1 (.t 13) (.t 8), none, true⟩
        (.cons ⟨(some 14), .fa 4 (.t 3), none, true⟩
        (.cons ⟨none, .st 1 (.t 14) (.t 12), none, true⟩
        .nil))))), (.cons ⟨(some 13), .fa 0 (.t 3), none, false⟩
        (.cons ⟨(some 12), .appv 27 2 16 (.t 9) (.t 11), none, true⟩
        (.cons ⟨none, .st 1 (.t 13) (.t 8), none, true⟩
        (.cons ⟨(some 14), .fa 4 (.t 3), none, true⟩
        (.cons ⟨none, .st 1 (.t 14) (.t 12), none, true⟩
        .nil)))))])))), (.cons ⟨(some 10), .fa 4 (.t 1), none, false⟩
      (.br [(.cons ⟨(some 8), .appv 56 2 16 (.t 5) (.t 7), none, true⟩
        (.cons ⟨(some 11), .ld true 1 (.t 10), none, false⟩
        (.br [(.cons ⟨(some 12), .appv 27 2 16 (.t 9) (.t 11), none, true⟩
          (.cons ⟨(some 13), .fa 0 (.t 3), none, false⟩
          (.cons ⟨none, .st 1 (.t 13) (.t 8), none, true⟩
          (.cons ⟨(some 14), .fa 4 (.t 3), none, true⟩
          (.cons ⟨none, .st 1 (.t 14) (.t 12), none, true⟩
          .nil))))), (.cons ⟨(some 13), .fa 0 (.t 3), none, false⟩
          (.cons ⟨(some 12), .appv 27 2 16 (.t 9) (.t 11), none, true⟩
          (.cons ⟨none, .st 1 (.t 13) (.t 8), none, true⟩
          (.cons ⟨(some 14), .fa 4 (.t 3), none, true⟩
          (.cons ⟨none, .st 1 (.t 14) (.t 12), none, true⟩
          .nil)))))]))), (.cons ⟨(some 11), .ld true 1 (.t 10), none, false⟩
        (.cons ⟨(some 8), .appv 56 2 16 (.t 5) (.t 7), none, true⟩
        (.br [(.cons ⟨(some 12), .appv 27 2 16 (.t 9) (.t 11), none, true⟩
          (.cons ⟨(some 13), .fa 0 (.t 3), none, false⟩
          (.cons ⟨none, .st 1 (.t 13) (.t 8), none, true⟩
          (.cons ⟨(some 14), .fa 4 (.t 3), none, true⟩
          (.cons ⟨none, .st 1 (.t 14) (.t 12), none, true⟩
          .nil))))), (.cons ⟨(some 13), .fa 0 (.t 3), none, false⟩
          (.cons ⟨(some 12), .appv 27 2 16 (.t 9) (.t 11), none, true⟩
          (.cons ⟨none, .st 1 (.t 13) (.t 8), none, true⟩
          (.cons ⟨(some 14), .fa 4 (.t 3), none, true⟩
          (.cons ⟨none, .st 1 (.t 14) (.t 12), none, true⟩
          .nil)))))])))]))]))), (.cons ⟨(some 10), .fa 4 (.t 1), none, false⟩
    (.br [(.cons ⟨(some 5), .bsl 56 2 [], none, false⟩
      (.br [(.cons ⟨(some 8), .appv 56 2 16 (.t 5) (.t 7), none, true⟩
        (.cons ⟨(some 9), .bsl 27 2 [], none, false⟩
        (.cons ⟨(some 11), .ld true 1 (.t 10), none, false⟩
        (.br [(.cons ⟨(some 12), .appv 27 2 16 (.t 9) (.t 11), none, true⟩
          (.cons ⟨(some 13), .fa 0 (.t 3), none, false⟩
          (.cons ⟨none, .st 1 (.t 13) (.t 8), none, true⟩
          (.cons ⟨(some 14), .fa 4 (.t 3), none, true⟩
          (.cons ⟨none, .st 1 (.t 14) (.t 12), none, true⟩
          .nil))))), (.cons ⟨(some 13), .fa 0 (.t 3), none, false⟩
          (.cons ⟨(some 12), .appv 27 2 16 (.t 9) (.t 11), none, true⟩
          (.cons ⟨none, .st 1 (.t 13) (.t 8), none, true⟩
          (.cons ⟨(some 14), .fa 4 (.t 3), none, true⟩
          (.cons ⟨none, .st 1 (.t 14) (.t 12), none, true⟩
          .nil)))))])))), (.cons ⟨(some 9), .bsl 27 2 [], none, false⟩
        (.br [(.cons ⟨(some 8), .appv 56 2 16 (.t 5) (.t 7), none, true⟩
          (.cons ⟨(some 11), .ld true 1 (.t 10), none, false⟩
          (.br [(.cons ⟨(some 12), .appv 27 2 16 (.t 9) (.t 11), none, true⟩
            (.cons ⟨(some 13), .fa 0 (.t 3), none, false⟩
            (.cons ⟨none, .st 1 (.t 13) (.t 8), none, true⟩
            (.cons ⟨(some 14), .fa 4 (.t 3), none, true⟩
            (.cons ⟨none, .st 1 (.t 14) (.t 12), none, true⟩
            .nil))))), (.cons ⟨(some 13), .fa 0 (.t 3), none, false⟩
            (.cons ⟨(some 12), .appv 27 2 16 (.t 9) (.t 11), none, true⟩
            (.cons ⟨none, .st 1 (.t 13) (.t 8), none, true⟩
            (.cons ⟨(some 14), .fa 4 (.t 3), none, true⟩
            (.cons ⟨none, .st 1 (.t 14) (.t 12), none, true⟩
            .nil)))))]))), (.cons ⟨(some 11), .ld true 1 (.t 10), none, false⟩
          (.cons ⟨(some 8), .appv 56 2 16 (.t 5) (.t 7), none, true⟩
          (.br [(.cons ⟨(some 12), .appv 27 2 16 (.t 9) (.t 11), none, true⟩
            (.cons ⟨(some 13), .fa 0 (.t 3), none, false⟩
            (.cons ⟨none, .st 1 (.t 13) (.t 8), none, true⟩
            (.cons ⟨(some 14), .fa 4 (.t 3), none, true⟩
            (.cons ⟨none, .st 1 (.t 14) (.t 12), none, true⟩
            .nil))))), (.cons ⟨(some 13), .fa 0 (.t 3), none, false⟩
            (.cons ⟨(some 12), .appv 27 2 16 (.t 9) (.t 11), none, true⟩
            (.cons ⟨none, .st 1 (.t 13) (.t 8), none, true⟩
            (.cons ⟨(some 14), .fa 4 (.t 3), none, true⟩
            (.cons ⟨none, .st 1 (.t 14) (.t 12), none, true⟩
            .nil)))))])))])), (.cons ⟨(some 11), .ld true 1 (.t 10), none, false⟩
        (.br [(.cons ⟨(some 8), .appv 56 2 16 (.t 5) (.t 7), none, true⟩
          (.cons ⟨(some 9), .bsl 27 2 [], none, false⟩
          (.br [(.cons ⟨(some 12), .appv 27 2 16 (.t 9) (.t 11), none, true⟩
            (.cons ⟨(some 13), .fa 0 (.t 3), none, false⟩
            (.cons ⟨none, .st 1 (.t 13) (.t 8), none, true⟩
            (.cons ⟨(some 14), .fa 4 (.t 3), none, true⟩
            (.cons ⟨none, .st 1 (.t 14) (.t 12), none, true⟩
            .nil))))), (.cons ⟨(some 13), .fa 0 (.t 3), none, false⟩
            (.cons ⟨(some 12), .appv 27 2 16 (.t 9) (.t 11), none, true⟩
            (.cons ⟨none, .st 1 (.t 13) (.t 8), none, true⟩
            (.cons ⟨(some 14), .fa 4 (.t 3), none, true⟩
            (.cons ⟨none, .st 1 (.t 14) (.t 12), none, true⟩
            .nil)))))]))), (.cons ⟨(some 9), .bsl 27 2 [], none, false⟩
          (.cons ⟨(some 8), .appv 56 2 16 (.t 5) (.t 7), none, true⟩
          (.br [(.cons ⟨(some 12), .appv 27 2 16 (.t 9) (.t 11), none, true⟩
            (.cons ⟨(some 13), .fa 0 (.t 3), none, false⟩
            (.cons ⟨none, .st 1 (.t 13) (.t 8), none, true⟩
            (.cons ⟨(some 14), .fa 4 (.t 3), none, true⟩
            (.cons ⟨none, .st 1 (.t 14) (.t 12), none, true⟩
            .nil))))), (.cons ⟨(some 13), .fa 0 (.t 3), none, false⟩
            (.cons ⟨(some 12), .appv 27 2 16 (.t 9) (.t 11), none, true⟩
            (.cons ⟨none, .st 1 (.t 13) (.t 8), none, true⟩
            (.cons ⟨(some 14), .fa 4 (.t 3), none, true⟩
            (.cons ⟨none, .st 1 (.t 14) (.t 12), none, true⟩
            .nil)))))])))]))])), (.cons ⟨(some 9), .bsl 27 2 [], none, false⟩
      (.cons ⟨(some 5), .bsl 56 2 [], none, false⟩
      (.br [(.cons ⟨(some 8), .appv 56 2 16 (.t 5) (.t 7), none, true⟩
        (.cons ⟨(some 11), .ld true 1 (.t 10), none, false⟩
        (.br [(.cons ⟨(some 12), .appv 27 2 16 (.t 9) (.t 11), none, true⟩
          (.cons ⟨(some 13), .fa 0 (.t 3), none, false⟩
          (.cons ⟨none, .st 1 (.t 13) (.t 8), none, true⟩
          (.cons ⟨(some 14), .fa 4 (.t 3), none, true⟩
          (.cons ⟨none, .st 1 (.t 14) (.t 12), none, true⟩
          .nil))))), (.cons ⟨(some 13), .fa 0 (.t 3), none, false⟩
          (.cons ⟨(some 12), .appv 27 2 16 (.t 9) (.t 11), none, true⟩
          (.cons ⟨none, .st 1 (.t 13) (.t 8), none, true⟩
          (.cons ⟨(some 14), .fa 4 (.t 3), none, true⟩
          (.cons ⟨none, .st 1 (.t 14) (.t 12), none, true⟩
          .nil)))))]))), (.cons ⟨(some 11), .ld true 1 (.t 10), none, false⟩
        (.cons ⟨(some 8), .appv 56 2 16 (.t 5) (.t 7), none, true⟩
        (.br [(.cons ⟨(some 12), .appv 27 2 16 (.t 9) (.t 11), none, true⟩
          (.cons ⟨(some 13), .fa 0 (.t 3), none, false⟩
          (.cons ⟨none, .st 1 (.t 13) (.t 8), none, true⟩
          (.cons ⟨(some 14), .fa 4 (.t 3), none, true⟩
          (.cons ⟨none, .st 1 (.t 14) (.t 12), none, true⟩
          .nil))))), (.cons ⟨(some 13), .fa 0 (.t 3), none, false⟩
          (.cons ⟨(some 12), .appv 27 2 16 (.t 9) (.t 11), none, true⟩
          (.cons ⟨none, .st 1 (.t 13) (.t 8), none, true⟩
          (.cons ⟨(some 14), .fa 4 (.t 3), none, true⟩
          (.cons ⟨none, .st 1 (.t 14) (.t 12), none, true⟩
          .nil)))))])))]))), (.cons ⟨(some 11), .ld true 1 (.t 10), none, false⟩
      (.br [(.cons ⟨(some 5), .bsl 56 2 [], none, false⟩
        (.br [(.cons ⟨(some 8), .appv 56 2 16 (.t 5) (.t 7), none, true⟩
          (.cons ⟨(some 9), .bsl 27 2 [], none, false⟩
          (.br [(.cons ⟨(some 12), .appv 27 2 16 (.t 9) (.t 11), none, true⟩
            (.cons ⟨(some 13), .fa 0 (.t 3), none, false⟩
            (.cons ⟨none, .st 1 (.t 13) (.t 8), none, true⟩
            (.cons ⟨(some 14), .fa 4 (.t 3), none, true⟩
            (.cons ⟨none, .st 1 (.t 14) (.t 12), none, true⟩
            .nil))))), (.cons ⟨(some 13), .fa 0 (.t 3), none, false⟩
            (.cons ⟨(some 12), .appv 27 2 16 (.t 9) (.t 11), none, true⟩
            (.cons ⟨none, .st 1 (.t 13) (.t 8), none, true⟩
            (.cons ⟨(some 14), .fa 4 (.t 3), none, true⟩
            (.cons ⟨none, .st 1 (.t 14) (.t 12), none, true⟩
            .nil)))))]))), (.cons ⟨(some 9), .bsl 27 2 [], none, false⟩
          (.cons ⟨(some 8), .appv 56 2 16 (.t 5) (.t 7), none, true⟩
          (.br [(.cons ⟨(some 12), .appv 27 2 16 (.t 9) (.t 11), none, true⟩
            (.cons ⟨(some 13), .fa 0 (.t 3), none, false⟩
            (.cons ⟨none, .st 1 (.t 13) (.t 8), none, true⟩
            (.cons ⟨(some 14), .fa 4 (.t 3), none, true⟩
            (.cons ⟨none, .st 1 (.t 14) (.t 12), none, true⟩
            .nil))))), (.cons ⟨(some 13), .fa 0 (.t 3), none, false⟩
            (.cons ⟨(some 12), .appv 27 2 16 (.t 9) (.t 11), none, true⟩
            (.cons ⟨none, .st 1 (.t 13) (.t 8), none, true⟩
            (.cons ⟨(some 14), .fa 4 (.t 3), none, true⟩
            (.cons ⟨none, .st 1 (.t 14) (.t 12), none, true⟩
            .nil)))))])))])), (.cons ⟨(some 9), .bsl 27 2 [], none, false⟩
        (.cons ⟨(some 5), .bsl 56 2 [], none, false⟩
        (.cons ⟨(some 8), .appv 56 2 16 (.t 5) (.t 7), none, true⟩
        (.br [(.cons ⟨(some 12), .appv 27 2 16 (.t 9) (.t 11), none, true⟩
          (.cons ⟨(some 13), .fa 0 (.t 3), none, false⟩
          (.cons ⟨none, .st 1 (.t 13) (.t 8), none, true⟩
          (.cons ⟨(some 14), .fa 4 (.t 3), none, true⟩
          (.cons ⟨none, .st 1 (.t 14) (.t 12), none, true⟩
          .nil))))), (.cons ⟨(some 13), .fa 0 (.t 3), none, false⟩
          (.cons ⟨(some 12), .appv 27 2 16 (.t 9) (.t 11), none, true⟩
          (.cons ⟨none, .st 1 (.t 13) (.t 8), none, true⟩
          (.cons ⟨(some 14), .fa 4 (.t 3), none, true⟩
          (.cons ⟨none, .st 1 (.t 14) (.t 12), none, true⟩
          .nil)))))]))))]))]))])))
@[reducible] def o20_3 : List Ins := [⟨(some 15), .ld false 5 (.t 3), none, true⟩,
  ⟨none, .st 5 (.t 2) (.t 15), none, true⟩]
@[reducible] def v20_4 : VC := (.seq (.ops o20_3) .ret)
@[reducible] def v20_5 : VC := (.seq (.drw t20_2) v20_4)
@[reducible] def v20_6 : VC := (.seq (.ops o20_1) v20_5)
def ir20 : FC := ⟨1, 16, [.cell 2 false 5], (.seq (.ops o20_0) v20_6)⟩
theorem c20 : compM Try.prog [100008,100012] 20 = some ir20 := by kernel_rfl

end W
namespace W8
@[reducible] def o20_0 : List Ins := [⟨(some 1), .box 5 (.t 0), none, true⟩,
  ⟨(some 2), .alloc [(.c (.raw (.slice none 0 0))), (.c (.int .i64 0)), (.c (.int .i64 0)), (.c (.int .i64 0)), (.c (.raw (.slice none 0 0)))], none, true⟩]
@[reducible] def o20_1 : List Ins := [⟨(some 4), .ld false 5 (.t 1), none, true⟩,
  ⟨(some 3), .alloc [(.c (.raw (.slice none 0 0))), (.c (.int .i64 0)), (.c (.int .i64 0)), (.c (.int .i64 0)), (.c (.raw (.slice none 0 0)))], none, true⟩,
  ⟨none, .st 5 (.t 3) (.t 4), none, true⟩]
@[reducible] def t20_2 : OT := (.cons ⟨(some 6), .fa 0 (.t 1), none, false⟩
  (.cons ⟨(some 7), .ld true 1 (.t 6), none, false⟩
  (.br [(.cons ⟨(some 5), .bsl 56 2 [], none, false⟩
    (.br [(.cons ⟨(some 8), .appv 56 2 16 (.t 5) (.t 7), none, true⟩
      (.cons ⟨(some 9), .bsl 27 2 [], none, false⟩
      (.cons ⟨(some 10), .fa 4 (.t 1), none, false⟩
      (.cons ⟨(some 11), .ld true 1 (.t 10), none, false⟩
      (.cons ⟨(some 12), .app 27 2 16 (.t 9) (.t 11), none, false⟩
      (.cons ⟨(some 13), .fa 0 (.t 3), none, false⟩
      (.cons ⟨none, .st 1 (.t 13) (.t 8), none, true⟩
      (.cons ⟨(some 14), .fa 4 (.t 3), none, true⟩
      (.cons ⟨none, .st 1 (.t 14) (.t 12), none, true⟩
      .nil))))))))), (.cons ⟨(some 9), .bsl 27 2 [], none, false⟩
      (.br [(.cons ⟨(some 8), .appv 56 2 16 (.t 5) (.t 7), none, true⟩
        (.cons ⟨(some 10), .fa 4 (.t 1), none, false⟩
        (.cons ⟨(some 11), .ld true 1 (.t 10), none, false⟩
        (.cons ⟨(some 12), .app 27 2 16 (.t 9) (.t 11), none, false⟩
        (.cons ⟨(some 13), .fa 0 (.t 3), none, false⟩
        (.cons ⟨none, .st 1 (.t 13) (.t 8), none, true⟩
        (.cons ⟨(some 14), .fa 4 (.t 3), none, true⟩
        (.cons ⟨none, .st 1 (.t 14) (.t 12), none, true⟩
        .nil)))))))), (.cons ⟨(some 10), .fa 4 (.t 1), none, false⟩
        (.br [(.cons ⟨(some 8), .appv 56 2 16 (.t 5) (.t 7), none, true⟩
          (.cons ⟨(some 11), .ld true 1 (.t 10), none, false⟩
          (.cons ⟨(some 12), .app 27 2 16 (.t 9) (.t 11), none, false⟩
          (.cons ⟨(some 13), .fa 0 (.t 3), none, false⟩
          (.cons ⟨none, .st 1 (.t 13) (.t 8), none, true⟩
          (.cons ⟨(some 14), .fa 4 (.t 3), none, true⟩
          (.cons ⟨none, .st 1 (.t 14) (.t 12), none, true⟩
          .nil))))))), (.cons ⟨(some 11), .ld true 1 (.t 10), none, false⟩
          (.cons ⟨(some 8), .appv 56 2 16 (.t 5) (.t 7), none, true⟩
          (.cons ⟨(some 12), .app 27 2 16 (.t 9) (.t 11), none, false⟩
          (.cons ⟨(some 13), .fa 0 (.t 3), none, false⟩
          (.cons ⟨none, .st 1 (.t 13) (.t 8), none, true⟩
          (.cons ⟨(some 14), .fa 4 (.t 3), none, true⟩
          (.cons ⟨none, .st 1 (.t 14) (.t 12), none, true⟩
          .nil)))))))]))])), (.cons ⟨(some 10), .fa 4 (.t 1), none, false⟩
      (.br [(.cons ⟨(some 8), .appv 56 2 16 (.t 5) (.t 7), none, true⟩
        (.cons ⟨(some 9), .bsl 27 2 [], none, false⟩
        (.cons ⟨(some 11), .ld true 1 (.t 10), none, false⟩
        (.cons ⟨(some 12), .app 27 2 16 (.t 9) (.t 11), none, false⟩
        (.cons ⟨(some 13), .fa 0 (.t 3), none, false⟩
        (.cons ⟨none, .st 1 (.t 13) (.t 8), none, true⟩
        (.cons ⟨(some 14), .fa 4 (.t 3), none, true⟩
        (.cons ⟨none, .st 1 (.t 14) (.t 12), none, true⟩
        .nil)))))))), (.cons ⟨(some 9), .bsl 27 2 [], none, false⟩
        (.br [(.cons ⟨(some 8), .appv 56 2 16 (.t 5) (.t 7), none, true⟩
          (.cons ⟨(some 11), .ld true 1 (.t 10), none, false⟩
          (.cons ⟨(some 12), .app 27 2 16 (.t 9) (.t 11), none, false⟩
          (.cons ⟨(some 13), .fa 0 (.t 3), none, false⟩
          (.cons ⟨none, .st 1 (.t 13) (.t 8), none, true⟩
          (.cons ⟨(some 14), .fa 4 (.t 3), none, true⟩
          (.cons ⟨none, .st 1 (.t 14) (.t 12), none, true⟩
          .nil))))))), (.cons ⟨(some 11), .ld true 1 (.t 10), none, false⟩
          (.cons ⟨(some 8), .appv 56 2 16 (.t 5) (.t 7), none, true⟩
          (.cons ⟨(some 12), .app 27 2 16 (.t 9) (.t 11), none, false⟩
          (.cons ⟨(some 13), .fa 0 (.t 3), none, false⟩
          (.cons ⟨none, .st 1 (.t 13) (.t 8), none, true⟩
          (.cons ⟨(some 14), .fa 4 (.t 3), none, true⟩
          (.cons ⟨none, .st 1 (.t 14) (.t 12), none, true⟩
          .nil)))))))])), (.cons ⟨(some 11), .ld true 1 (.t 10), none, false⟩
        (.br [(.cons ⟨(some 8), .appv 56 2 16 (.t 5) (.t 7), none, true⟩
          (.cons ⟨(some 9), .bsl 27 2 [], none, false⟩
          (.cons ⟨(some 12), .app 27 2 16 (.t 9) (.t 11), none, false⟩
          (.cons ⟨(some 13), .fa 0 (.t 3), none, false⟩
          (.cons ⟨none, .st 1 (.t 13) (.t 8), none, true⟩
          (.cons ⟨(some 14), .fa 4 (.t 3), none, true⟩
          (.cons ⟨none, .st 1 (.t 14) (.t 12), none, true⟩
          .nil))))))), (.cons ⟨(some 9), .bsl 27 2 [], none, false⟩
          (.cons ⟨(some 8), .appv 56 2 16 (.t 5) (.t 7), none, true⟩
          (.cons ⟨(some 12), .app 27 2 16 (.t 9) (.t 11), none, false⟩
          (.cons ⟨(some 13), .fa 0 (.t 3), none, false⟩
          (.cons ⟨none, .st 1 (.t 13) (.t 8), none, true⟩
          (.cons ⟨(some 14), .fa 4 (.t 3), none, true⟩
          (.cons ⟨none, .st 1 (.t 14) (.t 12), none, true⟩
          .nil)))))))]))]))])), (.cons ⟨(some 9), .bsl 27 2 [], none, false⟩
    (.cons ⟨(some 5), .bsl 56 2 [], none, false⟩
    (.br [(.cons ⟨(some 8), .appv 56 2 16 (.t 5) (.t 7), none, true⟩
      (.cons ⟨(some 10), .fa 4 (.t 1), none, false⟩
      (.cons ⟨(some 11), .ld true 1 (.t 10), none, false⟩
      (.cons ⟨(some 12), .app 27 2 16 (.t 9) (.t 11), none, false⟩
      (.cons ⟨(some 13), .fa 0 (.t 3), none, false⟩
      (.cons ⟨none, .st 1 (.t 13) (.t 8), none, true⟩
      (.cons ⟨(some 14), .fa 4 (.t 3), none, true⟩
      (.cons ⟨none, .st 1 (.t 14) (.t 12), none, true⟩
      .nil)))))))), (.cons ⟨(some 10), .fa 4 (.t 1), none, false⟩
      (.br [(.cons ⟨(some 8), .appv 56 2 16 (.t 5) (.t 7), none, true⟩
        (.cons ⟨(some 11), .ld true 1 (.t 10), none, false⟩
        (.cons ⟨(some 12), .app 27 2 16 (.t 9) (.t 11), none, false⟩
        (.cons ⟨(some 13), .fa 0 (.t 3), none, false⟩
        (.cons ⟨none, .st 1 (.t 13) (.t 8), none, true⟩
        (.cons ⟨(some 14), .fa 4 (.t 3), none, true⟩
        (.cons ⟨none, .st 1 (.t 14) (.t 12), none, true⟩
        .nil))))))), (.cons ⟨(some 11), .ld true 1 (.t 10), none, false⟩
        (.cons ⟨(some 8), .appv 56 2 16 (.t 5) (.t 7), none, true⟩
        (.cons ⟨(some 12), .app 27 2 16 (.t 9) (.t 11), none, false⟩
        (.cons ⟨(some 13), .fa 0 (.t 3), none, false⟩
        (.cons ⟨none, .st 1 (.t 13) (.t 8), none, true⟩
        (.cons ⟨(some 14), .fa 4 (.t 3), none, true⟩
        (.cons ⟨none, .st 1 (.t 14) (.t 12), none, true⟩
        .nil)))))))]))]))), (.cons ⟨(some 10), .fa 4 (.t 1), none, false⟩
    (.br [(.cons ⟨(some 5), .bsl 56 2 [], none, false⟩
      (.br [(.cons ⟨(some 8), .appv 56 2 16 (.t 5) (.t 7), none, true⟩
        (.cons ⟨(some 9), .bsl 27 2 [], none, false⟩
        (.cons ⟨(some 11), .ld true 1 (.t 10), none, false⟩
        (.cons ⟨(some 12), .app 27 2 16 (.t 9) (.t 11), none, false⟩
        (.cons ⟨(some 13), .fa 0 (.t 3), none, false⟩
        (.cons ⟨none, .st 1 (.t 13) (.t 8), none, true⟩
        (.cons ⟨(some 14), .fa 4 (.t 3), none, true⟩
        (.cons ⟨none, .st 1 (.t 14) (.t 12), none, true⟩
        .nil)))))))), (.cons ⟨(some 9), .bsl 27 2 [], none, false⟩
        (.br [(.cons ⟨(some 8), .appv 56 2 16 (.t 5) (.t 7), none, true⟩
          (.cons ⟨(some 11), .ld true 1 (.t 10), none, false⟩
          (.cons ⟨(some 12), .app 27 2 16 (.t 9) (.t 11), none, false⟩
          (.cons ⟨(some 13), .fa 0 (.t 3), none, false⟩
          (.cons ⟨none, .st 1 (.t 13) (.t 8), none, true⟩
          (.cons ⟨(some 14), .fa 4 (.t 3), none, true⟩
          (.cons ⟨none, .st 1 (.t 14) (.t 12), none, true⟩
          .nil))))))), (.cons ⟨(some 11), .ld true 1 (.t 10), none, false⟩
          (.cons ⟨(some 8), .appv 56 2 16 (.t 5) (.t 7), none, true⟩
          (.cons ⟨(some 12), .app 27 2 16 (.t 9) (.t 11), none, false⟩
          (.cons ⟨(some 13), .fa 0 (.t 3), none, false⟩
          (.cons ⟨none, .st 1 (.t 13) (.t 8), none, true⟩
          (.cons ⟨(some 14), .fa 4 (.t 3), none, true⟩
          (.cons ⟨none, .st 1 (.t 14) (.t 12), none, true⟩
          .nil)))))))])), (.cons ⟨(some 11), .ld true 1 (.t 10), none, false⟩
        (.br [(.cons ⟨(some 8), .appv 56 2 16 (.t 5) (.t 7), none, true⟩
          (.cons ⟨(some 9), .bsl 27 2 [], none, false⟩
          (.cons ⟨(some 12), .app 27 2 16 (.t 9) (.t 11), none, false⟩
          (.cons ⟨(some 13), .fa 0 (.t 3), none, false⟩
          (.cons ⟨none, .st 1 (.t 13) (.t 8), none, true⟩
          (.cons ⟨(some 14), .fa 4 (.t 3), none, true⟩
          (.cons ⟨none, .st 1 (.t 14) (.t 12), none, true⟩
          .nil))))))), (.cons ⟨(some 9), .bsl 27 2 [], none, false⟩
          (.cons ⟨(some 8), .appv 56 2 16 (.t 5) (.t 7), none, true⟩
          (.cons ⟨(some 12), .app 27 2 16 (.t 9) (.t 11), none, false⟩
          (.cons ⟨(some 13), .fa 0 (.t 3), none, false⟩
          (.cons ⟨none, .st 1 (.t 13) (.t 8), none, true⟩
          (.cons ⟨(some 14), .fa 4 (.t 3), none, true⟩
          (.cons ⟨none, .st 1 (.t 14) (.t 12), none, true⟩
          .nil)))))))]))])), (.cons ⟨(some 9), .bsl 27 2 [], none, false⟩
      (.cons ⟨(some 5), .bsl 56 2 [], none, false⟩
      (.br [(.cons ⟨(some 8), .appv 56 2 16 (.t 5) (.t 7), none, true⟩
        (.cons ⟨(some 11), .ld true 1 (.t 10), none, false⟩
        (.cons ⟨(some 12), .app 27 2 16 (.t 9) (.t 11), none, false⟩
        (.cons ⟨(some 13), .fa 0 (.t 3), none, false⟩
        (.cons ⟨none, .st 1 (.t 13) (.t 8), none, true⟩
        (.cons ⟨(some 14), .fa 4 (.t 3), none, true⟩
        (.cons ⟨none, .st 1 (.t 14) (.t 12), none, true⟩
        .nil))))))), (.cons ⟨(some 11), .ld true 1 (.t 10), none, false⟩
        (.cons ⟨(some 8), .appv 56 2 16 (.t 5) (.t 7), none, true⟩
        (.cons ⟨(some 12), .app 27 2 16 (.t 9) (.t 11), none, false⟩
        (.cons ⟨(some 13), .fa 0 (.t 3), none, false⟩
        (.cons ⟨none, .st 1 (.t 13) (.t 8), none, true⟩
        (.cons ⟨(some 14), .fa 4 (.t 3), none, true⟩
        (.cons ⟨none, .st 1 (.t 14) (.t 12), none, true⟩
        .nil)))))))]))), (.cons ⟨(some 11), .ld true 1 (.t 10), none, false⟩
      (.br [(.cons ⟨(some 5), .bsl 56 2 [], none, false⟩
        (.br [(.cons ⟨(some 8), .appv 56 2 16 (.t 5) (.t 7), none, true⟩
          (.cons ⟨(some 9), .bsl 27 2 [], none, false⟩
          (.cons ⟨(some 12), .app 27 2 16 (.t 9) (.t 11), none, false⟩
          (.cons ⟨(some 13), .fa 0 (.t 3), none, false⟩
          (.cons ⟨none, .st 1 (.t 13) (.t 8), none, true⟩
          (.cons ⟨(some 14), .fa 4 (.t 3), none, true⟩
          (.cons ⟨none, .st 1 (.t 14) (.t 12), none, true⟩
          .nil))))))), (.cons ⟨(some 9), .bsl 27 2 [], none, false⟩
          (.cons ⟨(some 8), .appv 56 2 16 (.t 5) (.t 7), none, true⟩
          (.cons ⟨(some 12), .app 27 2 16 (.t 9) (.t 11), none, false⟩
          (.cons ⟨(some 13), .fa 0 (.t 3), none, false⟩
          (.cons ⟨none, .st 1 (.t 13) (.t 8), none, true⟩
          (.cons ⟨(some 14), .fa 4 (.t 3), none, true⟩
          (.cons ⟨none, .st 1 (.t 14) (.t 12), none, true⟩
          .nil)))))))])), (.cons ⟨(some 9), .bsl 27 2 [], none, false⟩
        (.cons ⟨(some 5), .bsl 56 2 [], none, false⟩
        (.cons ⟨(some 8), .appv 56 2 16 (.t 5) (.t 7), none, true⟩
        (.cons ⟨(some 12), .app 27 2 16 (.t 9) (.t 11), none, false⟩
        (.cons ⟨(some 13), .fa 0 (.t 3), none, false⟩
        (.cons ⟨none, .st 1 (.t 13) (.t 8), none, true⟩
        (.cons ⟨(some 14), .fa 4 (.t 3), none, true⟩
        (.cons ⟨none, .st 1 (.t 14) (.t 12), none, true⟩
        .nil))))))))]))]))])))
@[reducible] def o20_3 : List Ins := [⟨(some 15), .ld false 5 (.t 3), none, true⟩,
  ⟨none, .st 5 (.t 2) (.t 15), none, true⟩]
@[reducible] def v20_4 : VC := (.seq (.ops o20_3) .ret)
@[reducible] def v20_5 : VC := (.seq (.drw t20_2) v20_4)
@[reducible] def v20_6 : VC := (.seq (.ops o20_1) v20_5)
def ir20 : FC := ⟨1, 16, [.cell 2 false 5], (.seq (.ops o20_0) v20_6)⟩
theorem c20 : compM Try.prog [100008] 20 = some ir20 := by kernel_rfl

end W8


/-- A copy whose records and presses may be written. -/
def copyB (t : Tray) (res : AV) (os : List Ob) : Prop := ∃ cap j y o, t.recs.length ≤ cap ∧ cap ≤ maxLen ∧ cap * 2 ≤ t.recs.length * 2 + j ∧ res = .agg [.vw 2 1000 0 t.recs.length cap, iv t.at_, iv t.way, iv t.step, y] ∧ os = [.box (cellsG Rec.cds t.recs j), o] ∧
  ((t.pres = [] ∧ y = .gr 1001 ∧ o = .grow 27 2 []) ∨ (t.pres ≠ [] ∧ ∃ cap2 j2, t.pres.length ≤ cap2 ∧ cap2 ≤ maxLen ∧ cap2 * 2 ≤ t.pres.length * 2 + j2 ∧ y = .vw 2 1001 0 t.pres.length cap2 ∧ o = .box (cellsG Pr.cds t.pres j2)))
theorem recs_cells (l : List Rec) (j : Nat) : List.map AV.c (List.map Rec.cds l).flatten ++ List.replicate j AV.non = cellsG Rec.cds l j := rfl
theorem prs_cells (l : List Pr) (j : Nat) : List.map AV.c (List.map Pr.cds l).flatten ++ List.replicate j AV.non = cellsG Pr.cds l j := rfl
set_option maxRecDepth 20000 in
set_option maxHeartbeats 8000000 in
theorem copyE (t : Tray) (h0 : t.recs ≠ []) (hn : t.recs.length ≤ 1000) (hp : t.pres = []) : FSpecN Try.prog 20 [t.av] (copyB t) := by
  have hmax : maxLen = 9223372036854775807 := rfl
  have hl0 : (t.recs.length = 0) = False := by simpa using h0
  refine FSpecN_of W8.c20 (Nat.le_refl _) (by decide) fun C hP hN hC hL => ?_
  simp only [W8.ir20, Tray.av, hp]
  (repeat ((first | refine WV_seq_ ?_ | refine WV_block ?_ | refine WV_ops ?_ | refine WV_skip ?_ | refine WV_exit ?_); (try simp only [go_sem, init_env', Nat.reduceEqDiff, Nat.reduceAdd, Nat.reduceMul, reduceIte, Nat.reduceLeDiff, Nat.reduceLT, Nat.reduceBEq, reduceCtorEq, hP, ]); (repeat refine qI ?_)))
  (refine WV_drw ?_; simp only [go_sem, init_env', Nat.reduceEqDiff, Nat.reduceAdd, Nat.reduceMul, reduceIte, Nat.reduceLeDiff, Nat.reduceLT, Nat.reduceBEq, reduceCtorEq, hP, recsC, prsC, recs_two, prs_two, List.nil_append, List.length_nil, List.length_map, List.map_nil, List.all_nil, hl0]; (repeat' (refine And.intro ?_ ?_)))
  all_goals try omega
  all_goals
    intro cap j q1 q2 q3
    (repeat ((first | refine WV_seq_ ?_ | refine WV_block ?_ | refine WV_ops ?_ | refine WV_skip ?_ | refine WV_exit ?_); (try simp only [go_sem, init_env', Nat.reduceEqDiff, Nat.reduceAdd, Nat.reduceMul, reduceIte, Nat.reduceLeDiff, Nat.reduceLT, Nat.reduceBEq, reduceCtorEq, hP, recsC, prsC, recs_two, prs_two, List.nil_append, List.length_nil, List.length_map, List.map_nil, List.all_nil]); (repeat refine qI ?_)))
    (refine WV_ret ?_; simp only [thenQ, inQ, RetQN, RetOkN, resAll, resA]; simp only [go_sem, init_env', Nat.reduceEqDiff, Nat.reduceAdd, Nat.reduceMul, reduceIte, Nat.reduceLeDiff, Nat.reduceLT, Nat.reduceBEq, reduceCtorEq, tupA, ])
    refine ⟨[8, 12], .agg [.vw 2 1000 0 t.recs.length cap, iv t.at_, iv t.way, iv t.step, .gr 1001], _, [.box (cellsG Rec.cds t.recs j), .grow 27 2 []], by decide, by decide, rfl, AVle.of rfl, ?_, cap, j, _, _, q1, q2, q3, rfl, rfl, .inl ⟨hp, rfl, rfl⟩⟩
    simp only [go_sem, init_env', Nat.reduceEqDiff, Nat.reduceAdd, Nat.reduceMul, reduceIte, Nat.reduceLeDiff, Nat.reduceLT, Nat.reduceBEq, reduceCtorEq, obsLend, Ob.lend, recs_cells, prs_cells, prg_cellsG, lend_cellsG]
set_option maxRecDepth 20000 in
set_option maxHeartbeats 8000000 in
theorem copyV (t : Tray) (h0 : t.recs ≠ []) (hn : t.recs.length ≤ 1000) (hp : t.pres.length ≤ 1000) : FSpecN Try.prog 20 [t.av] (copyB t) := by
  have hmax : maxLen = 9223372036854775807 := rfl
  by_cases hpn : t.pres = []
  · exact copyE t h0 hn hpn
  have hl0 : (t.recs.length = 0) = False := by simpa using h0
  have hl1 : (t.pres.length = 0) = False := by simpa using hpn
  refine FSpecN_of W.c20 (Nat.le_refl _) (by decide) fun C hP hN hC hL => ?_
  simp only [W.ir20, Tray.av]
  (repeat ((first | refine WV_seq_ ?_ | refine WV_block ?_ | refine WV_ops ?_ | refine WV_skip ?_ | refine WV_exit ?_); (try simp only [go_sem, init_env', Nat.reduceEqDiff, Nat.reduceAdd, Nat.reduceMul, reduceIte, Nat.reduceLeDiff, Nat.reduceLT, Nat.reduceBEq, reduceCtorEq, hP, ]); (repeat refine qI ?_)))
  (refine WV_drw ?_; simp only [go_sem, init_env', Nat.reduceEqDiff, Nat.reduceAdd, Nat.reduceMul, reduceIte, Nat.reduceLeDiff, Nat.reduceLT, Nat.reduceBEq, reduceCtorEq, hP, recsC, prsC, recs_two, prs_two, List.nil_append, List.length_nil, List.length_map, hl0, hl1]; (repeat' (refine And.intro ?_ ?_)))
  all_goals try omega
  all_goals
    intro cap j q1 q2 q3
    (repeat' (refine And.intro ?_ ?_))
  all_goals try omega
  all_goals
    intro cap2 j2 r1 r2 r3
    (repeat ((first | refine WV_seq_ ?_ | refine WV_block ?_ | refine WV_ops ?_ | refine WV_skip ?_ | refine WV_exit ?_); (try simp only [go_sem, init_env', Nat.reduceEqDiff, Nat.reduceAdd, Nat.reduceMul, reduceIte, Nat.reduceLeDiff, Nat.reduceLT, Nat.reduceBEq, reduceCtorEq, hP, recsC, prsC, recs_two, prs_two, List.nil_append, List.length_nil, List.length_map]); (repeat refine qI ?_)))
    (refine WV_ret ?_; simp only [thenQ, inQ, RetQN, RetOkN, resAll, resA]; simp only [go_sem, init_env', Nat.reduceEqDiff, Nat.reduceAdd, Nat.reduceMul, reduceIte, Nat.reduceLeDiff, Nat.reduceLT, Nat.reduceBEq, reduceCtorEq, tupA, ])
    refine ⟨[8, 12], .agg [.vw 2 1000 0 t.recs.length cap, iv t.at_, iv t.way, iv t.step, .vw 2 1001 0 t.pres.length cap2], _, [.box (cellsG Rec.cds t.recs j), .box (cellsG Pr.cds t.pres j2)], by decide, by decide, rfl, AVle.of rfl, ?_, cap, j, _, _, q1, q2, q3, rfl, rfl, .inr ⟨hpn, cap2, j2, r1, r2, r3, rfl, rfl⟩⟩
    simp only [go_sem, init_env', Nat.reduceEqDiff, Nat.reduceAdd, Nat.reduceMul, reduceIte, Nat.reduceLeDiff, Nat.reduceLT, Nat.reduceBEq, reduceCtorEq, obsLend, Ob.lend, recs_cells, prs_cells, prg_cellsG, lend_cellsG]
end Go.Proofs.Ytkpgpgaojjobgaa

/-
  The turned tray: plain.
-/
namespace Go.Proofs.Ytkpgpgaojjobgaa
open Go Go.V

end Go.Proofs.Ytkpgpgaojjobgaa

/-
  The specification's run, by its events: plain.
-/
namespace Go.Proofs.Ytkpgpgaojjobgaa
open Go Go.V

structure Ev where
  from_ : Int
  to_ : Int
  at_ : Int
  way : Int
  side : Int
  deriving DecidableEq, Inhabited
def Ev.cds (e : Ev) : List CD := [.int .i64 e.from_, .int .i64 e.to_, .int .i64 e.at_, .int .i64 e.way, .int .i64 e.side]
def evsC (l : List Ev) : CD := .sl 5 (l.map Ev.cds)
theorem evs_five (l : List Ev) : ((l.map Ev.cds).all fun e => e.length == 5) = true := by
  rw [List.all_eq_true]; intro e he; obtain ⟨p, _, rfl⟩ := List.mem_map.1 he; rfl
def never : Int := 1099511627776
/-- The time of the next press. -/
def nextT (s : Cs) : Int := match s.q with | [] => never | p :: _ => p.time
def moves (t : Tray) (s : Cs) : Bool := if s.up then decide (s.at_ + 1 < t.n) else decide (0 < s.at_)
def goE (t : Tray) (s : Cs) : List Ev := if moves t s then [⟨s.now, s.now + t.step, s.at_, wayI s.up, -1⟩] else []
def playE (t : Tray) (s : Cs) : List Ev := if s.pins.getD s.pos false = true then [⟨s.now, s.now + secs t s.pos, s.at_, wayI s.up, s.pos⟩] else []
/-- The events of one act, behind the presses. -/
def emit1 (t : Tray) (s : Cs) : List Ev := if s.pins.all (!·) then [⟨s.now, nextT s, s.at_, wayI s.up, -2⟩] else playE t s ++ goE t (s.play t)
def evR (t : Tray) : Nat → Cs → List Ev
  | 0, _ => []
  | k + 1, s => emit1 t s.press ++ match s.act t with | none => [] | some s' => evR t k s'
theorem evR_none {t : Tray} {k : Nat} {s : Cs} (h : s.act t = none) : evR t (k + 1) s = emit1 t s.press := by simp only [evR, h, List.append_nil]
theorem evR_some {t : Tray} {k : Nat} {s s' : Cs} (h : s.act t = some s') : evR t (k + 1) s = emit1 t s.press ++ evR t k s' := by simp only [evR, h]
def evS (t : Tray) : List Ev := evR t 250 ((start t (sortT t.pres)).mark (-1))

/-! ### The presses that set their pins -/
def addP (P : List Int) (x : Int) : List Int := if P.contains x then P else P ++ [x]
def Tray.prN (t : Tray) (k : Nat) : Pr := t.pres.getD k default
def scanR (t : Tray) (now : Int) (S : List Bool) (P : List Int) : Nat → List Bool × List Int × Int
  | 0 => (S, P, never)
  | k + 1 =>
    if (scanR t now S P k).1.getD k false = true then scanR t now S P k
    else if (t.prN k).time ≤ now then ((scanR t now S P k).1.set k true, addP (scanR t now S P k).2.1 (t.prN k).side, (scanR t now S P k).2.2)
    else ((scanR t now S P k).1, (scanR t now S P k).2.1, min (scanR t now S P k).2.2 (t.prN k).time)
theorem scanR_succ (t : Tray) (now : Int) (S : List Bool) (P : List Int) (k : Nat) : scanR t now S P (k + 1) =
    if (scanR t now S P k).1.getD k false = true then scanR t now S P k
    else if (t.prN k).time ≤ now then ((scanR t now S P k).1.set k true, addP (scanR t now S P k).2.1 (t.prN k).side, (scanR t now S P k).2.2)
    else ((scanR t now S P k).1, (scanR t now S P k).2.1, min (scanR t now S P k).2.2 (t.prN k).time) := rfl
theorem getD_set_ne {l : List Bool} {i k : Nat} (h : i ≠ k) (b : Bool) : (l.set i b).getD k false = l.getD k false := by
  rw [List.getD_eq_getElem?_getD, List.getElem?_set, if_neg h, ← List.getD_eq_getElem?_getD]
theorem getD_set_eq {l : List Bool} {k : Nat} (h : k < l.length) (b : Bool) : (l.set k b).getD k false = b := by
  rw [List.getD_eq_getElem?_getD, List.getElem?_set, if_pos rfl, if_pos h]; rfl
theorem addP_mem (P : List Int) (x y : Int) : (addP P x).contains y = (P.contains y || (x == y)) := by
  unfold addP
  split
  · rename_i h
    by_cases e : x = y
    · subst e; rw [h]; rfl
    · have : (x == y) = false := by simpa using e
      rw [this, Bool.or_false]
  · rw [Bool.eq_iff_iff, List.contains_iff_mem, List.mem_append, Bool.or_eq_true, List.contains_iff_mem, List.mem_singleton, beq_iff_eq]
    exact or_congr Iff.rfl ⟨Eq.symm, Eq.symm⟩
theorem countP_set {l : List Bool} {k : Nat} (h : k < l.length) (hf : l.getD k false = false) : (l.set k true).countP (!·) + 1 = l.countP (!·) := by
  induction l generalizing k with
  | nil => simp at h
  | cons a l ih =>
    cases k with
    | zero =>
      have : a = false := by simpa using hf
      subst this
      simp
    | succ k =>
      have := ih (k := k) (by simpa using h) (by simpa using hf)
      simp only [List.set_cons_succ, List.countP_cons]
      omega
structure ScanOk (t : Tray) (now : Int) (S : List Bool) (P : List Int) (k : Nat) (r : List Bool × List Int × Int) : Prop where
  len : r.1.length = t.pres.length
  set : ∀ i, r.1.getD i false = (S.getD i false || (decide (i < k) && decide ((t.prN i).time ≤ now)))
  pin : ∀ x, r.2.1.contains x = (P.contains x || (List.range k).any fun i => !S.getD i false && decide ((t.prN i).time ≤ now) && ((t.prN i).side == x))
  cnt : r.2.1.length + r.1.countP (!·) ≤ P.length + S.countP (!·)
  low : ∀ i, i < k → S.getD i false = false → now < (t.prN i).time → r.2.2 ≤ (t.prN i).time
  nx : r.2.2 = never ∨ ∃ i, i < k ∧ S.getD i false = false ∧ now < (t.prN i).time ∧ r.2.2 = (t.prN i).time
theorem scan_ok {t : Tray} {now : Int} {S : List Bool} {P : List Int} (hl : S.length = t.pres.length) (htm : ∀ i, (t.prN i).time ≤ never) : ∀ k, k ≤ t.pres.length → ScanOk t now S P k (scanR t now S P k)
  | 0, _ => ⟨hl, fun i => by simp [scanR], fun x => by simp [scanR], Nat.le_refl _, fun i hi => by omega, .inl rfl⟩
  | k + 1, hk => by
    have h := scan_ok hl htm (P := P) (now := now) k (by omega)
    have hsk : (scanR t now S P k).1.getD k false = S.getD k false := by rw [h.set]; simp
    simp only [scanR]
    rw [hsk]
    have anyS : ∀ f : Nat → Bool, (List.range (k + 1)).any f = ((List.range k).any f || f k) := fun f => by rw [List.range_succ, List.any_append]; simp
    have hlt : ∀ i, decide (i < k + 1) = (decide (i < k) || (i == k)) := fun i => by rw [Bool.eq_iff_iff]; simp; omega
    by_cases h1 : S.getD k false = true
    · rw [if_pos h1]
      refine ⟨h.len, fun i => ?_, fun x => ?_, h.cnt, fun i hi h2 h3 => ?_, ?_⟩
      · rw [h.set, hlt]
        by_cases e : i = k
        · subst e; rw [h1]; simp
        · have : (i == k) = false := by simpa using e
          rw [this, Bool.or_false]
      · rw [h.pin, anyS, h1]; simp
      · by_cases e : i = k
        · subst e; rw [h1] at h2; cases h2
        · exact h.low i (by omega) h2 h3
      · rcases h.nx with h2 | ⟨i, h2, h3⟩
        · exact .inl h2
        · exact .inr ⟨i, by omega, h3⟩
    · have h1 : S.getD k false = false := by simpa using h1
      rw [if_neg (by rw [h1]; simp)]
      by_cases h2 : (t.prN k).time ≤ now
      · rw [if_pos h2]
        have hkl : k < (scanR t now S P k).1.length := by rw [h.len]; omega
        refine ⟨by rw [List.length_set]; exact h.len, fun i => ?_, fun x => ?_, ?_, fun i hi h3 h4 => ?_, ?_⟩
        · simp only
          rw [hlt]
          by_cases e : i = k
          · subst e
            rw [getD_set_eq hkl]
            simp [h2]
          · rw [getD_set_ne (fun e' => e e'.symm), h.set]
            have : (i == k) = false := by simpa using e
            rw [this, Bool.or_false]
        · simp only
          rw [addP_mem, h.pin, anyS, h1, decide_eq_true h2]
          simp [Bool.or_assoc]
        · simp only
          have h5 := countP_set hkl (by rw [hsk]; exact h1)
          have h6 := h.cnt
          unfold addP
          split
          · omega
          · rw [List.length_append, List.length_singleton]; omega
        · by_cases e : i = k
          · subst e; omega
          · exact h.low i (by omega) h3 h4
        · rcases h.nx with h3 | ⟨i, h3, h4⟩
          · exact .inl h3
          · exact .inr ⟨i, by omega, h4⟩
      · rw [if_neg h2]
        refine ⟨h.len, fun i => ?_, fun x => ?_, h.cnt, fun i hi h3 h4 => ?_, ?_⟩
        · simp only
          rw [h.set, hlt]
          by_cases e : i = k
          · subst e; simp [h2]
          · have : (i == k) = false := by simpa using e
            rw [this, Bool.or_false]
        · simp only
          rw [h.pin, anyS, decide_eq_false h2]; simp
        · simp only
          by_cases e : i = k
          · subst e; exact Int.min_le_right _ _
          · exact Int.le_trans (Int.min_le_left _ _) (h.low i (by omega) h3 h4)
        · simp only
          by_cases hm : (scanR t now S P k).2.2 ≤ (t.prN k).time
          · rw [Int.min_eq_left hm]
            rcases h.nx with h3 | ⟨i, h3, h4⟩
            · exact .inl h3
            · exact .inr ⟨i, by omega, h4⟩
          · rw [Int.min_eq_right (by omega)]
            exact .inr ⟨k, by omega, h1, by omega, rfl⟩

/-- The presses that have not set their pins. -/
def uns (t : Tray) (S : List Bool) : List Pr := ((List.range t.pres.length).filter fun i => !S.getD i false).map t.prN
structure RelR (t : Tray) (s : Cs) (S : List Bool) (P : List Int) : Prop where
  len : S.length = t.pres.length
  q : s.q.Perm (uns t S)
  pins : ∀ k : Nat, s.pins.getD k false = P.contains (k : Int)
  rng : ∀ x ∈ P, 0 ≤ x ∧ x < 2 * (t.n : Int)
  cnt : P.length + S.countP (!·) ≤ t.pres.length
theorem RelR.scan {t : Tray} (ht : TrayOk t) {s : Cs} (hs : CsOk t s) {S : List Bool} {P : List Int} (h : RelR t s S P) :
    RelR t s.press (scanR t s.now S P t.pres.length).1 (scanR t s.now S P t.pres.length).2.1 ∧ (scanR t s.now S P t.pres.length).2.2 = nextT s.press := by
  have htm : ∀ i, (t.prN i).time ≤ never := fun i => by
    unfold Tray.prN
    by_cases hi : i < t.pres.length
    · rw [List.getD_eq_getElem?_getD, List.getElem?_eq_getElem hi]
      have := (ht.pres _ (List.getElem_mem hi)).2
      unfold never
      simp only [Option.getD_some]; omega
    · rw [List.getD_eq_getElem?_getD, List.getElem?_eq_none (by omega)]
      decide
  have k := scan_ok (t := t) (now := s.now) (P := P) h.len htm t.pres.length (Nat.le_refl _)
  generalize scanR t s.now S P t.pres.length = r at *
  have hq : s.press.q = s.q.filter fun p => decide (s.now < p.time) := by show (pressQ s.now s.q s.pins).1 = _; rw [pressQ_eq _ _ _ hs.sorted]
  have hp : s.press.pins = ((s.q.filter fun p => decide (p.time ≤ s.now)).map Pr.side).foldl (fun b x => b.set x.toNat true) s.pins := by show (pressQ s.now s.q s.pins).2 = _; rw [pressQ_eq _ _ _ hs.sorted]
  have hu : uns t r.1 = (uns t S).filter fun p => decide (s.now < p.time) := by
    unfold uns
    rw [List.filter_map, List.filter_filter]
    congr 1
    refine List.filter_congr fun i hi => ?_
    have hi : i < t.pres.length := List.mem_range.1 hi
    rw [k.set, decide_eq_true hi, Bool.true_and, Bool.not_or]
    by_cases e : (t.prN i).time ≤ s.now
    · have e2 : ¬ s.now < (t.prN i).time := by omega
      simp [e, e2]
    · have : s.now < (t.prN i).time := by omega
      simp [e, this]
  have hqp : s.press.q.Perm (uns t r.1) := by rw [hq, hu]; exact h.q.filter _
  have hmemu : ∀ p ∈ uns t S, ∃ i, i < t.pres.length ∧ S.getD i false = false ∧ p = t.prN i := fun p hp => by
    obtain ⟨i, hi, rfl⟩ := List.mem_map.1 hp
    have := List.mem_filter.1 hi
    exact ⟨i, List.mem_range.1 this.1, by simpa using this.2, rfl⟩
  refine ⟨⟨k.len, hqp, fun j => ?_, fun x hx => ?_, Nat.le_trans k.cnt h.cnt⟩, ?_⟩
  · rw [hp, sides_set, h.pins, k.pin]
    congr 1
    have h1 := perm_any ((h.q.filter fun p => decide (p.time ≤ s.now)).map Pr.side) fun x => x.toNat == j
    rw [h1]
    unfold uns
    rw [List.filter_map, List.filter_filter, List.map_map, List.any_map, List.any_filter]
    have h2 : ∀ i, i ∈ List.range t.pres.length → (0 ≤ (t.prN i).side ∧ (t.prN i).side < 2 * (t.n : Int)) := fun i hi => by
      have hi := List.mem_range.1 hi
      unfold Tray.prN
      rw [List.getD_eq_getElem?_getD, List.getElem?_eq_getElem hi]
      exact (ht.pres _ (List.getElem_mem hi)).1
    rw [hs.pins]
    rw [Bool.eq_iff_iff]
    simp only [Bool.and_eq_true, List.any_eq_true, decide_eq_true_eq, Function.comp, Bool.not_eq_true', beq_iff_eq]
    constructor
    · rintro ⟨_, i, hi, ⟨a, b⟩, c⟩
      exact ⟨i, hi, ⟨b, a⟩, by have := h2 i hi; omega⟩
    · rintro ⟨i, hi, ⟨b, a⟩, c⟩
      exact ⟨by have := h2 i hi; omega, i, hi, ⟨a, b⟩, by omega⟩
  · have hx : r.2.1.contains x = true := List.contains_iff_mem.2 hx
    rw [k.pin, Bool.or_eq_true] at hx
    rcases hx with hx | hx
    · exact h.rng x (List.contains_iff_mem.1 hx)
    · obtain ⟨i, hi, h3⟩ := List.any_eq_true.1 hx
      have hi := List.mem_range.1 hi
      simp only [Bool.and_eq_true, beq_iff_eq] at h3
      rw [← h3.2]
      unfold Tray.prN
      rw [List.getD_eq_getElem?_getD, List.getElem?_eq_getElem hi]
      exact (ht.pres _ (List.getElem_mem hi)).1
  · unfold nextT
    have hsort := hs.press.sorted
    cases hqq : s.press.q with
    | nil =>
      simp only
      rcases k.nx with h3 | ⟨i, h3, h4, h5, h6⟩
      · exact h3
      · exfalso
        rw [hqq] at hqp
        have hm : t.prN i ∈ uns t r.1 := List.mem_map.2 ⟨i, List.mem_filter.2 ⟨List.mem_range.2 h3, by rw [k.set, h4]; simp; omega⟩, rfl⟩
        have := hqp.mem_iff.2 hm
        cases this
    | cons p q' =>
      simp only
      have hm : p ∈ uns t r.1 := hqp.mem_iff.1 (by rw [hqq]; simp)
      rw [hu] at hm
      obtain ⟨hm1, hm2⟩ := List.mem_filter.1 hm
      obtain ⟨i, hi, h4, rfl⟩ := hmemu p hm1
      have h5 := k.low i hi h4 (by simpa using hm2)
      rcases k.nx with h6 | ⟨j, h6, h7, h8, h9⟩
      · exfalso
        rw [h6] at h5
        have : (t.prN i).time ≤ 9999 := by
          unfold Tray.prN
          rw [List.getD_eq_getElem?_getD, List.getElem?_eq_getElem hi]
          exact (ht.pres _ (List.getElem_mem hi)).2.2
        unfold never at h5; omega
      · have hmj : t.prN j ∈ s.press.q := hqp.mem_iff.2 (List.mem_map.2 ⟨j, List.mem_filter.2 ⟨List.mem_range.2 h6, by rw [k.set, h7]; simp; omega⟩, rfl⟩)
        rw [hqq] at hmj hsort
        rcases List.mem_cons.1 hmj with e | hmj
        · rw [h9, e]
        · have := (List.pairwise_cons.1 hsort).1 _ hmj
          omega
theorem RelR.idle {t : Tray} {s : Cs} (hs : CsOk t s) {S : List Bool} {P : List Int} (h : RelR t s S P) : s.pins.all (!·) = P.isEmpty := by
  cases P with
  | nil =>
    show _ = true
    rw [List.all_eq_true]
    intro b hb
    obtain ⟨i, hi, rfl⟩ := List.getElem_of_mem hb
    have := h.pins i
    rw [List.getD_eq_getElem?_getD, List.getElem?_eq_getElem hi] at this
    simpa using this
  | cons x P =>
    show _ = false
    have hx := h.rng x (by simp)
    have h1 := h.pins x.toNat
    rw [show ((x.toNat : Nat) : Int) = x from by omega] at h1
    rw [List.contains_cons, beq_self_eq_true, Bool.true_or] at h1
    have hi : x.toNat < s.pins.length := by have := hs.pins; omega
    rw [List.getD_eq_getElem?_getD, List.getElem?_eq_getElem hi] at h1
    rw [List.all_eq_false]
    exact ⟨_, List.getElem_mem hi, by simp only [Option.getD_some] at h1; rw [h1]; simp⟩
theorem RelR.play {t : Tray} {s : Cs} (hs : CsOk t s) {S : List Bool} {P : List Int} (h : RelR t s S P) : RelR t ((s.play t).next t) S (P.filter fun x => x != (s.pos : Int)) := by
  obtain ⟨c1, c2, _, _⟩ := play_pins t s
  obtain ⟨n1, n2, _, _⟩ := next_keeps t (s.play t)
  refine ⟨h.len, by rw [n1, c2]; exact h.q, fun k => ?_, fun x hx => h.rng x (List.mem_filter.1 hx).1, ?_⟩
  · rw [n2, c1]
    by_cases e : s.pos = k
    · subst e
      rw [getD_set_eq (by have := pos_lt hs; have := hs.pins; omega)]
      symm
      rw [Bool.eq_false_iff]
      intro hc
      have := (List.mem_filter.1 (List.contains_iff_mem.1 hc)).2
      simp at this
    · rw [getD_set_ne e, h.pins]
      rw [Bool.eq_iff_iff, List.contains_iff_mem, List.contains_iff_mem, List.mem_filter]
      have : ((k : Int) != (s.pos : Int)) = true := by simp; omega
      simp [this]
  · have := List.length_filter_le (fun x => x != (s.pos : Int)) P
    have := h.cnt
    omega
theorem RelR.same {t : Tray} {s : Cs} {S : List Bool} {P : List Int} (h : RelR t s S P) (hp : ¬ P.contains (s.pos : Int) = true) : P.filter (fun x => x != (s.pos : Int)) = P := by
  rw [List.filter_eq_self]
  intro x hx
  simp only [bne_iff_ne, ne_eq]
  rintro rfl
  exact hp (List.contains_iff_mem.2 hx)
theorem RelR.start {t : Tray} {q : List Pr} (hq : q.Perm t.pres) : RelR t ((start t q).mark (-1)) (List.replicate t.pres.length false) [] := by
  refine ⟨by simp, ?_, fun k => ?_, fun x hx => (by cases hx), ?_⟩
  · show q.Perm _
    have e : uns t (List.replicate t.pres.length false) = t.pres := by
      unfold uns
      rw [List.filter_eq_self.2 fun i hi => by
        have hi := List.mem_range.1 hi
        rw [List.getD_eq_getElem?_getD, List.getElem?_replicate, if_pos hi]; rfl]
      refine List.ext_getElem (by simp) fun i h1 h2 => ?_
      simp [Tray.prN, h2]
    rw [e]; exact hq
  · show (List.replicate (2 * t.n) false).getD k false = _
    rw [List.getD_eq_getElem?_getD, List.getElem?_replicate]
    split <;> rfl
  · show 0 + _ ≤ _
    rw [Nat.zero_add]
    have := List.countP_le_length (p := fun b : Bool => !b) (l := List.replicate t.pres.length false)
    simpa using this
end Go.Proofs.Ytkpgpgaojjobgaa

namespace Go.Proofs.Ytkpgpgaojjobgaa
open Go Go.V
@[reducible] def o61_0 : List Ins := [⟨(some 4), .mv (.k (.c (.bool false))), none, true⟩]
@[reducible] def o61_1 : List Ins := [⟨(some 5), .mv (.k (.c (.int .i64 0))), none, true⟩]
@[reducible] def o61_2 : List Ins := [⟨(some 6), .mv (.t 5), none, true⟩,
  ⟨(some 7), .mv (.t 0), none, true⟩,
  ⟨(some 8), .len (.t 7), none, true⟩,
  ⟨(some 9), .bin .lss (.t 6) (.t 8), none, true⟩]
@[reducible] def v61_3 : VC := (.cond (.t 9) .skip (.exit 0))
@[reducible] def o61_4 : List Ins := [⟨(some 12), .mv (.t 0), none, true⟩,
  ⟨(some 13), .mv (.t 5), none, true⟩,
  ⟨(some 14), .ia 1 (.t 12) (.t 13), none, true⟩,
  ⟨(some 15), .ld true 1 (.t 14), none, true⟩,
  ⟨(some 16), .mv (.t 1), none, true⟩,
  ⟨(some 17), .bin .eql (.t 15) (.t 16), none, true⟩]
@[reducible] def o61_5 : List Ins := [⟨(some 4), .mv (.k (.c (.bool true))), none, true⟩]
@[reducible] def v61_6 : VC := (.seq (.ops o61_5) .ret)
@[reducible] def v61_7 : VC := (.cond (.t 17) v61_6 .skip)
@[reducible] def v61_8 : VC := (.seq (.ops o61_4) v61_7)
@[reducible] def o61_9 : List Ins := [⟨(some 10), .mv (.t 5), none, true⟩,
  ⟨(some 11), .bin .add (.t 10) (.k (.c (.int .i64 1))), none, true⟩,
  ⟨(some 5), .mv (.t 11), none, true⟩]
@[reducible] def v61_10 : VC := (.seq (.block 1 v61_8) (.ops o61_9))
@[reducible] def v61_11 : VC := (.seq (.seq (.ops o61_2) v61_3) v61_10)
-- K61_1: changed and kept: [5]
@[reducible] def K61_1 : List Nat := [0, 1]
@[reducible] def v61_12 : VC := (.loop v61_11)
@[reducible] def v61_13 : VC := (.block 0 v61_12)
@[reducible] def o61_14 : List Ins := [⟨(some 4), .mv (.k (.c (.bool false))), none, true⟩]
@[reducible] def v61_15 : VC := (.seq (.ops o61_14) .ret)
@[reducible] def v61_16 : VC := (.seq (.seq (.ops o61_1) v61_13) v61_15)
def ir61 : FC := ⟨2, 18, [.t 4], (.seq (.ops o61_0) v61_16)⟩
@[reducible] def o59_0 : List Ins := [⟨(some 1), .box 5 (.t 0), none, true⟩,
  ⟨(some 2), .mv (.k (.c (.raw (.slice none 0 0)))), none, true⟩]
@[reducible] def o59_1 : List Ins := [⟨(some 3), .mv (.k (.c (.raw (.slice none 0 0)))), none, true⟩]
@[reducible] def o59_2 : List Ins := [⟨(some 4), .mv (.k (.c (.raw (.slice none 0 0)))), none, true⟩]
@[reducible] def o59_3 : List Ins := [⟨(some 16), .fa 4 (.t 1), none, true⟩,
  ⟨(some 17), .ld true 1 (.t 16), none, true⟩,
  ⟨(some 18), .len (.t 17), none, true⟩,
  ⟨(some 19), .mks 3 1 8 [(.c (.int .i64 0))] (.t 18) (.t 18), none, true⟩,
  ⟨(some 5), .mv (.t 19), none, true⟩]
@[reducible] def o59_4 : List Ins := [⟨(some 20), .fa 1 (.t 1), none, false⟩,
  ⟨(some 21), .ld true 1 (.t 20), none, false⟩,
  ⟨(some 22), .fa 2 (.t 1), none, false⟩,
  ⟨(some 23), .ld true 1 (.t 22), none, false⟩,
  ⟨(some 6), .mv (.t 21), none, false⟩,
  ⟨(some 7), .mv (.t 23), none, true⟩,
  ⟨(some 8), .mv (.k (.c (.int .i64 0))), none, true⟩]
@[reducible] def o59_5 : List Ins := [⟨(some 9), .mv (.k (.c (.int .i64 1099511627776))), none, true⟩]
@[reducible] def o59_6 : List Ins := [⟨(some 10), .mv (.k (.c (.int .i64 0))), none, true⟩]
@[reducible] def o59_7 : List Ins := [⟨(some 24), .mv (.t 10), none, true⟩,
  ⟨(some 25), .fa 4 (.t 1), none, true⟩,
  ⟨(some 26), .ld true 1 (.t 25), none, true⟩,
  ⟨(some 27), .len (.t 26), none, true⟩,
  ⟨(some 28), .bin .lss (.t 24) (.t 27), none, true⟩]
@[reducible] def v59_8 : VC := (.cond (.t 28) .skip (.exit 2))
@[reducible] def o59_9 : List Ins := [⟨(some 31), .fa 4 (.t 1), none, true⟩,
  ⟨(some 32), .ld true 1 (.t 31), none, true⟩,
  ⟨(some 33), .mv (.t 10), none, true⟩,
  ⟨(some 34), .ia 2 (.t 32) (.t 33), none, true⟩,
  ⟨(some 35), .ld false 2 (.t 34), none, true⟩,
  ⟨(some 11), .alloc [(.c (.int .i64 0)), (.c (.int .i64 0))], none, true⟩,
  ⟨none, .st 2 (.t 11) (.t 35), none, true⟩]
@[reducible] def o59_10 : List Ins := [⟨(some 36), .mv (.t 5), none, true⟩,
  ⟨(some 37), .mv (.t 10), none, true⟩,
  ⟨(some 38), .ia 1 (.t 36) (.t 37), none, true⟩,
  ⟨(some 39), .ld true 1 (.t 38), none, true⟩,
  ⟨(some 40), .bin .eql (.t 39) (.k (.c (.int .i64 0))), none, true⟩,
  ⟨(some 41), .mv (.t 40), none, true⟩,
  ⟨(some 42), .fa 1 (.t 11), (some (41, true)), true⟩,
  ⟨(some 43), .ld true 1 (.t 42), (some (41, true)), true⟩,
  ⟨(some 44), .mv (.t 8), (some (41, true)), true⟩,
  ⟨(some 45), .bin .leq (.t 43) (.t 44), (some (41, true)), true⟩,
  ⟨(some 46), .pick (.t 41) (.t 45) (.k (.c (.bool false))), none, true⟩]
@[reducible] def o59_11 : List Ins := [⟨(some 47), .mv (.t 5), none, true⟩,
  ⟨(some 48), .mv (.t 10), none, true⟩,
  ⟨(some 49), .ia 1 (.t 47) (.t 48), none, true⟩,
  ⟨none, .st 1 (.t 49) (.k (.c (.int .i64 1))), none, true⟩]
@[reducible] def o59_12 : List Ins := [⟨(some 50), .mv (.t 4), none, true⟩,
  ⟨(some 51), .fa 0 (.t 11), none, true⟩,
  ⟨(some 52), .ld true 1 (.t 51), none, true⟩,
  ⟨(some 53), .call (.k (.fn 61 [])) [(.t 50), (.t 52)], none, true⟩,
  ⟨(some 54), .un .not (.t 53), none, true⟩]
@[reducible] def o59_13 : List Ins := [⟨(some 55), .mv (.t 4), none, true⟩,
  ⟨(some 56), .fa 0 (.t 11), none, true⟩,
  ⟨(some 57), .ld true 1 (.t 56), none, true⟩,
  ⟨(some 58), .bsl 3 1 [(.t 57)], none, true⟩,
  ⟨(some 59), .app 3 1 8 (.t 55) (.t 58), none, true⟩,
  ⟨(some 4), .mv (.t 59), none, true⟩]
@[reducible] def v59_14 : VC := (.cond (.t 54) (.ops o59_13) .skip)
@[reducible] def v59_15 : VC := (.seq (.ops o59_12) v59_14)
@[reducible] def v59_16 : VC := (.seq (.ops o59_11) v59_15)
@[reducible] def v59_17 : VC := (.cond (.t 46) v59_16 .skip)
@[reducible] def o59_18 : List Ins := [⟨(some 60), .mv (.t 5), none, true⟩,
  ⟨(some 61), .mv (.t 10), none, true⟩,
  ⟨(some 62), .ia 1 (.t 60) (.t 61), none, true⟩,
  ⟨(some 63), .ld true 1 (.t 62), none, true⟩,
  ⟨(some 64), .bin .eql (.t 63) (.k (.c (.int .i64 0))), none, true⟩]
@[reducible] def o59_19 : List Ins := [⟨(some 65), .mv (.t 9), none, true⟩,
  ⟨(some 66), .fa 1 (.t 11), none, true⟩,
  ⟨(some 67), .ld true 1 (.t 66), none, true⟩,
  ⟨(some 68), .mm false (.t 65) (.t 67), none, true⟩,
  ⟨(some 9), .mv (.t 68), none, true⟩]
@[reducible] def v59_20 : VC := (.cond (.t 64) (.ops o59_19) .skip)
@[reducible] def v59_21 : VC := (.seq (.ops o59_18) v59_20)
@[reducible] def v59_22 : VC := (.seq (.seq (.ops o59_10) v59_17) v59_21)
@[reducible] def v59_23 : VC := (.seq (.ops o59_9) v59_22)
@[reducible] def o59_24 : List Ins := [⟨(some 29), .mv (.t 10), none, true⟩,
  ⟨(some 30), .bin .add (.t 29) (.k (.c (.int .i64 1))), none, true⟩,
  ⟨(some 10), .mv (.t 30), none, true⟩]
@[reducible] def v59_25 : VC := (.seq (.block 3 v59_23) (.ops o59_24))
@[reducible] def v59_26 : VC := (.seq (.seq (.ops o59_7) v59_8) v59_25)
-- K59_2: changed and kept: [10, 4, 9]
@[reducible] def K59_2 : List Nat := [1, 3, 5, 6, 7, 8]
@[reducible] def v59_27 : VC := (.loop v59_26)
@[reducible] def v59_28 : VC := (.block 2 v59_27)
@[reducible] def o59_29 : List Ins := [⟨(some 69), .mv (.t 4), none, true⟩,
  ⟨(some 70), .len (.t 69), none, true⟩,
  ⟨(some 71), .bin .eql (.t 70) (.k (.c (.int .i64 0))), none, true⟩]
@[reducible] def o59_30 : List Ins := [⟨(some 72), .mv (.t 3), none, true⟩,
  ⟨(some 73), .mv (.t 8), none, true⟩,
  ⟨(some 74), .mv (.t 9), none, true⟩,
  ⟨(some 75), .mv (.t 6), none, true⟩,
  ⟨(some 76), .mv (.t 7), none, true⟩,
  ⟨(some 77), .bld [(.c (.int .i64 0)), (.c (.int .i64 0)), (.c (.int .i64 0)), (.c (.int .i64 0)), (.c (.int .i64 0))] [(0, 1, (.t 73)), (1, 1, (.t 74)), (2, 1, (.t 75)), (3, 1, (.t 76)), (4, 1, (.k (.c (.int .i64 (-2)))))], none, true⟩,
  ⟨(some 78), .bsl 81 5 [(.t 77)], none, true⟩,
  ⟨(some 79), .app 81 5 40 (.t 72) (.t 78), none, true⟩,
  ⟨(some 3), .mv (.t 79), none, true⟩]
@[reducible] def o59_31 : List Ins := [⟨(some 80), .mv (.t 9), none, true⟩,
  ⟨(some 81), .bin .eql (.t 80) (.k (.c (.int .i64 1099511627776))), none, true⟩]
@[reducible] def o59_32 : List Ins := [⟨(some 82), .mv (.t 3), none, true⟩,
  ⟨(some 2), .mv (.t 82), none, true⟩]
@[reducible] def v59_33 : VC := (.seq (.ops o59_32) .ret)
@[reducible] def v59_34 : VC := (.cond (.t 81) v59_33 .skip)
@[reducible] def o59_35 : List Ins := [⟨(some 83), .mv (.t 9), none, true⟩,
  ⟨(some 8), .mv (.t 83), none, true⟩]
@[reducible] def v59_36 : VC := (.seq (.ops o59_35) (.exit 1))
@[reducible] def v59_37 : VC := (.seq (.seq (.ops o59_31) v59_34) v59_36)
@[reducible] def v59_38 : VC := (.seq (.ops o59_30) v59_37)
@[reducible] def v59_39 : VC := (.cond (.t 71) v59_38 .skip)
@[reducible] def o59_40 : List Ins := [⟨(some 84), .mv (.t 6), none, true⟩,
  ⟨(some 85), .mv (.t 7), none, true⟩,
  ⟨(some 86), .call (.k (.fn 25 [])) [(.t 84), (.t 85)], none, true⟩,
  ⟨(some 12), .mv (.t 86), none, true⟩]
@[reducible] def o59_41 : List Ins := [⟨(some 87), .mv (.t 4), none, true⟩,
  ⟨(some 88), .mv (.t 12), none, true⟩,
  ⟨(some 89), .call (.k (.fn 61 [])) [(.t 87), (.t 88)], none, true⟩]
@[reducible] def o59_42 : List Ins := [⟨(some 13), .mv (.k (.c (.raw (.slice none 0 0)))), none, true⟩]
@[reducible] def o59_43 : List Ins := [⟨(some 14), .mv (.k (.c (.int .i64 0))), none, true⟩]
@[reducible] def o59_44 : List Ins := [⟨(some 90), .mv (.t 14), none, true⟩,
  ⟨(some 91), .mv (.t 4), none, true⟩,
  ⟨(some 92), .len (.t 91), none, true⟩,
  ⟨(some 93), .bin .lss (.t 90) (.t 92), none, true⟩]
@[reducible] def v59_45 : VC := (.cond (.t 93) .skip (.exit 4))
@[reducible] def o59_46 : List Ins := [⟨(some 96), .mv (.t 4), none, true⟩,
  ⟨(some 97), .mv (.t 14), none, true⟩,
  ⟨(some 98), .ia 1 (.t 96) (.t 97), none, true⟩,
  ⟨(some 99), .ld true 1 (.t 98), none, true⟩,
  ⟨(some 100), .mv (.t 12), none, true⟩,
  ⟨(some 101), .bin .neq (.t 99) (.t 100), none, true⟩]
@[reducible] def o59_47 : List Ins := [⟨(some 102), .mv (.t 13), none, true⟩,
  ⟨(some 103), .mv (.t 4), none, true⟩,
  ⟨(some 104), .mv (.t 14), none, true⟩,
  ⟨(some 105), .ia 1 (.t 103) (.t 104), none, true⟩,
  ⟨(some 106), .ld true 1 (.t 105), none, true⟩,
  ⟨(some 107), .bsl 3 1 [(.t 106)], none, true⟩,
  ⟨(some 108), .app 3 1 8 (.t 102) (.t 107), none, true⟩,
  ⟨(some 13), .mv (.t 108), none, true⟩]
@[reducible] def v59_48 : VC := (.cond (.t 101) (.ops o59_47) .skip)
@[reducible] def v59_49 : VC := (.seq (.ops o59_46) v59_48)
@[reducible] def o59_50 : List Ins := [⟨(some 94), .mv (.t 14), none, true⟩,
  ⟨(some 95), .bin .add (.t 94) (.k (.c (.int .i64 1))), none, true⟩,
  ⟨(some 14), .mv (.t 95), none, true⟩]
@[reducible] def v59_51 : VC := (.seq (.block 5 v59_49) (.ops o59_50))
@[reducible] def v59_52 : VC := (.seq (.seq (.ops o59_44) v59_45) v59_51)
-- K59_3: changed and kept: [14, 13]
@[reducible] def K59_3 : List Nat := [1, 3, 4, 5, 6, 7, 8, 12]
@[reducible] def v59_53 : VC := (.loop v59_52)
@[reducible] def v59_54 : VC := (.block 4 v59_53)
@[reducible] def o59_55 : List Ins := [⟨(some 109), .mv (.t 13), none, true⟩,
  ⟨(some 4), .mv (.t 109), none, true⟩]
@[reducible] def o59_56 : List Ins := [⟨(some 110), .mv (.t 3), none, true⟩,
  ⟨(some 111), .mv (.t 8), none, true⟩,
  ⟨(some 112), .mv (.t 8), none, true⟩,
  ⟨(some 113), .ld false 5 (.t 1), none, true⟩,
  ⟨(some 114), .mv (.t 12), none, true⟩,
  ⟨(some 115), .call (.k (.fn 24 [])) [(.t 113), (.t 114)], none, true⟩,
  ⟨(some 116), .bin .add (.t 112) (.t 115), none, true⟩,
  ⟨(some 117), .mv (.t 6), none, true⟩,
  ⟨(some 118), .mv (.t 7), none, true⟩,
  ⟨(some 119), .mv (.t 12), none, true⟩,
  ⟨(some 120), .bld [(.c (.int .i64 0)), (.c (.int .i64 0)), (.c (.int .i64 0)), (.c (.int .i64 0)), (.c (.int .i64 0))] [(0, 1, (.t 111)), (1, 1, (.t 116)), (2, 1, (.t 117)), (3, 1, (.t 118)), (4, 1, (.t 119))], none, true⟩,
  ⟨(some 121), .bsl 81 5 [(.t 120)], none, true⟩,
  ⟨(some 122), .app 81 5 40 (.t 110) (.t 121), none, true⟩,
  ⟨(some 3), .mv (.t 122), none, true⟩]
@[reducible] def o59_57 : List Ins := [⟨(some 123), .mv (.t 8), none, true⟩,
  ⟨(some 124), .ld false 5 (.t 1), none, true⟩,
  ⟨(some 125), .mv (.t 12), none, true⟩,
  ⟨(some 126), .call (.k (.fn 24 [])) [(.t 124), (.t 125)], none, true⟩,
  ⟨(some 127), .bin .add (.t 123) (.t 126), none, true⟩,
  ⟨(some 8), .mv (.t 127), none, true⟩]
@[reducible] def v59_58 : VC := (.seq (.ops o59_56) (.ops o59_57))
@[reducible] def v59_59 : VC := (.seq (.ops o59_55) v59_58)
@[reducible] def v59_60 : VC := (.seq (.seq (.ops o59_43) v59_54) v59_59)
@[reducible] def v59_61 : VC := (.seq (.ops o59_42) v59_60)
@[reducible] def v59_62 : VC := (.cond (.t 89) v59_61 .skip)
@[reducible] def v59_63 : VC := (.seq (.ops o59_41) v59_62)
@[reducible] def o59_64 : List Ins := [⟨(some 128), .mv (.t 6), none, true⟩,
  ⟨(some 129), .mv (.t 7), none, true⟩,
  ⟨(some 130), .bin .add (.t 128) (.t 129), none, true⟩,
  ⟨(some 15), .mv (.t 130), none, true⟩]
@[reducible] def o59_65 : List Ins := [⟨(some 131), .mv (.t 15), none, true⟩,
  ⟨(some 132), .fa 0 (.t 1), none, true⟩,
  ⟨(some 133), .ld true 1 (.t 132), none, true⟩,
  ⟨(some 134), .len (.t 133), none, true⟩,
  ⟨(some 135), .bin .sub (.t 134) (.k (.c (.int .i64 1))), none, true⟩,
  ⟨(some 136), .call (.k (.fn 51 [])) [(.t 131), (.k (.c (.int .i64 0))), (.t 135)], none, true⟩]
@[reducible] def o59_66 : List Ins := [⟨(some 137), .mv (.t 3), none, true⟩,
  ⟨(some 138), .mv (.t 8), none, true⟩,
  ⟨(some 139), .mv (.t 8), none, true⟩,
  ⟨(some 140), .fa 3 (.t 1), none, true⟩,
  ⟨(some 141), .ld true 1 (.t 140), none, true⟩,
  ⟨(some 142), .bin .add (.t 139) (.t 141), none, true⟩,
  ⟨(some 143), .mv (.t 6), none, true⟩,
  ⟨(some 144), .mv (.t 7), none, true⟩,
  ⟨(some 145), .bld [(.c (.int .i64 0)), (.c (.int .i64 0)), (.c (.int .i64 0)), (.c (.int .i64 0)), (.c (.int .i64 0))] [(0, 1, (.t 138)), (1, 1, (.t 142)), (2, 1, (.t 143)), (3, 1, (.t 144)), (4, 1, (.k (.c (.int .i64 (-1)))))], none, true⟩,
  ⟨(some 146), .bsl 81 5 [(.t 145)], none, true⟩,
  ⟨(some 147), .app 81 5 40 (.t 137) (.t 146), none, true⟩,
  ⟨(some 3), .mv (.t 147), none, true⟩]
@[reducible] def o59_67 : List Ins := [⟨(some 148), .mv (.t 15), none, false⟩,
  ⟨(some 149), .mv (.t 8), none, false⟩,
  ⟨(some 150), .fa 3 (.t 1), none, false⟩,
  ⟨(some 151), .ld true 1 (.t 150), none, false⟩,
  ⟨(some 152), .bin .add (.t 149) (.t 151), none, false⟩,
  ⟨(some 6), .mv (.t 148), none, false⟩,
  ⟨(some 8), .mv (.t 152), none, true⟩]
@[reducible] def v59_68 : VC := (.seq (.ops o59_66) (.ops o59_67))
@[reducible] def o59_69 : List Ins := [⟨(some 153), .mv (.t 7), none, true⟩,
  ⟨(some 154), .un .neg (.t 153), none, true⟩,
  ⟨(some 7), .mv (.t 154), none, true⟩]
@[reducible] def v59_70 : VC := (.cond (.t 136) v59_68 (.ops o59_69))
@[reducible] def v59_71 : VC := (.seq (.ops o59_65) v59_70)
@[reducible] def v59_72 : VC := (.seq (.ops o59_64) v59_71)
@[reducible] def v59_73 : VC := (.seq (.seq (.ops o59_40) v59_63) v59_72)
@[reducible] def v59_74 : VC := (.seq (.seq (.ops o59_29) v59_39) v59_73)
@[reducible] def v59_75 : VC := (.seq (.seq (.ops o59_6) v59_28) v59_74)
@[reducible] def v59_76 : VC := (.seq (.ops o59_5) v59_75)
@[reducible] def v59_77 : VC := (.block 1 v59_76)
-- K59_1: changed and kept: [8, 4, 3, 6, 7]
@[reducible] def K59_1 : List Nat := [1, 5]
@[reducible] def v59_78 : VC := (.loop v59_77)
@[reducible] def v59_79 : VC := (.block 0 v59_78)
@[reducible] def v59_80 : VC := (.seq (.ops o59_4) v59_79)
@[reducible] def v59_81 : VC := (.seq (.ops o59_3) v59_80)
@[reducible] def v59_82 : VC := (.seq (.ops o59_2) v59_81)
@[reducible] def v59_83 : VC := (.seq (.ops o59_1) v59_82)
def ir59 : FC := ⟨1, 155, [.t 2], (.seq (.ops o59_0) v59_83)⟩
theorem c61 : compM Try.prog [] 61 = some ir61 := by kernel_rfl
theorem c59 : compM Try.prog [] 59 = some ir59 := by kernel_rfl



def icd (n : Int) : List CD := [.int .i64 n]
theorem icds_one (l : List Int) : ((l.map icd).all fun e => e.length == 1) = true := by
  rw [List.all_eq_true]; intro e he; obtain ⟨p, _, rfl⟩ := List.mem_map.1 he; rfl
theorem in61 (l : List Int) (x : Int) (hl : l.length ≤ 1000000) : FSpec Try.prog 61 [.c (.sl 1 (l.map icd)), iv x] (bv (l.contains x)) := by
  refine FSpec_of c61 (Nat.le_refl _) (by decide) fun C hP hN hC hL => ?_
  simp only [ir61]
  (repeat ((first | refine WV_seq_ ?_ | refine WV_block ?_ | refine WV_ops ?_ | refine WV_skip ?_ | refine WV_exit ?_); (try simp only [go_sem, init_env', Nat.reduceEqDiff, Nat.reduceAdd, Nat.reduceMul, reduceIte, Nat.reduceLeDiff, Nat.reduceLT, Nat.reduceBEq, reduceCtorEq, hP, ]); (repeat refine qI ?_)))
  refine WV_loopK K61_1 [] (fun k : Nat => k ≤ l.length ∧ l.contains x = (l.drop k).contains x) (fun k => l.length - k) (fun k => [(5, iv k)]) (fun _ => []) 0 ⟨Nat.zero_le _, rfl⟩ ?_ ?_
  · exact Sub_au
  · rintro k ⟨hk, hx⟩
    simp only [go_sem, init_env', Nat.reduceEqDiff, Nat.reduceAdd, Nat.reduceMul, reduceIte, Nat.reduceLeDiff, Nat.reduceLT, Nat.reduceBEq, reduceCtorEq]
    (repeat ((first | refine WV_seq_ ?_ | refine WV_block ?_ | refine WV_ops ?_ | refine WV_skip ?_ | refine WV_exit ?_); (try simp only [go_sem, init_env', Nat.reduceEqDiff, Nat.reduceAdd, Nat.reduceMul, reduceIte, Nat.reduceLeDiff, Nat.reduceLT, Nat.reduceBEq, reduceCtorEq, hP, List.length_map]); (repeat refine qI ?_)))
    (refine WV_cond rfl (fun h => ?_) (fun h => ?_))
    · have hkl : k < l.length := by simpa using h
      have hI : (k : Int) < (l.length : Int) := by omega
      have hw2 := w64 (n := (k : Int) + 1) (by omega) (by omega)
      have g1 : (l.map icd).getD k [] = [.int .i64 l[k]] := map_getD hkl
      rw [List.drop_eq_getElem_cons hkl, List.contains_cons] at hx
      generalize l[k] = y at *
      (repeat ((first | refine WV_seq_ ?_ | refine WV_block ?_ | refine WV_ops ?_ | refine WV_skip ?_ | refine WV_exit ?_); (try simp only [go_sem, init_env', Nat.reduceEqDiff, Nat.reduceAdd, Nat.reduceMul, reduceIte, Nat.reduceLeDiff, Nat.reduceLT, Nat.reduceBEq, reduceCtorEq, hP, g1, hI, List.length_map, Int.natCast_nonneg]); (repeat refine qI ?_)))
      cases hyx : y == x
      · have : (x == y) = false := by rw [BEq.comm]; exact hyx
        rw [this, Bool.false_or] at hx
        (refine WV_cond rfl (fun h => ?_) (fun h => ?_))
        · simp at h
        · (repeat ((first | refine WV_seq_ ?_ | refine WV_block ?_ | refine WV_ops ?_ | refine WV_skip ?_ | refine WV_exit ?_); (try simp only [go_sem, init_env', Nat.reduceEqDiff, Nat.reduceAdd, Nat.reduceMul, reduceIte, Nat.reduceLeDiff, Nat.reduceLT, Nat.reduceBEq, reduceCtorEq, hP, hw2]); (repeat refine qI ?_)))
          refine ⟨k + 1, ⟨by omega, hx⟩, by omega, ?_⟩
          exact Sub_au
      · have : (x == y) = true := by rw [BEq.comm]; exact hyx
        rw [this, Bool.true_or] at hx
        (refine WV_cond rfl (fun h => ?_) (fun h => ?_))
        · (repeat ((first | refine WV_seq_ ?_ | refine WV_block ?_ | refine WV_ops ?_ | refine WV_skip ?_ | refine WV_exit ?_); (try simp only [go_sem, init_env', Nat.reduceEqDiff, Nat.reduceAdd, Nat.reduceMul, reduceIte, Nat.reduceLeDiff, Nat.reduceLT, Nat.reduceBEq, reduceCtorEq, hP, ]); (repeat refine qI ?_)))
          (refine WV_ret ?_; simp only [thenQ, inQ, RetQ, RetOk, resAll, resA]; simp only [go_sem, init_env', Nat.reduceEqDiff, Nat.reduceAdd, Nat.reduceMul, reduceIte, Nat.reduceLeDiff, Nat.reduceLT, Nat.reduceBEq, reduceCtorEq, tupA, AV.port, AV.portL, exists_eq_left', ]; (first | exact AVle.of rfl | refine AVle.of ?_ | skip))
          rw [hx]
        · simp at h
    · have h : k = l.length := by simp at h; omega
      subst h
      rw [List.drop_length] at hx
      (refine WV_exit ?_; simp only [go_sem, init_env', Nat.reduceEqDiff, Nat.reduceAdd, Nat.reduceMul, reduceIte, Nat.reduceLeDiff, Nat.reduceLT, Nat.reduceBEq, reduceCtorEq])
      (repeat ((first | refine WV_seq_ ?_ | refine WV_block ?_ | refine WV_ops ?_ | refine WV_skip ?_ | refine WV_exit ?_); (try simp only [go_sem, init_env', Nat.reduceEqDiff, Nat.reduceAdd, Nat.reduceMul, reduceIte, Nat.reduceLeDiff, Nat.reduceLT, Nat.reduceBEq, reduceCtorEq, hP, ]); (repeat refine qI ?_)))
      (refine WV_ret ?_; simp only [thenQ, inQ, RetQ, RetOk, resAll, resA]; simp only [go_sem, init_env', Nat.reduceEqDiff, Nat.reduceAdd, Nat.reduceMul, reduceIte, Nat.reduceLeDiff, Nat.reduceLT, Nat.reduceBEq, reduceCtorEq, tupA, AV.port, AV.portL, exists_eq_left', ]; (first | exact AVle.of rfl | refine AVle.of ?_ | skip))
      rw [hx]; rfl

def icb (b : Bool) : List CD := [.int .i64 (if b then 1 else 0)]
theorem icb_one (b : Bool) : (icb b).length = 1 := rfl
theorem falses_cells (n : Nat) : (List.replicate n [AV.c (.int .i64 0)]).flatten = cellsG icb (List.replicate n false) 0 := by
  have : ∀ n, (List.replicate n [AV.c (.int .i64 0)]).flatten = (flatG icb (List.replicate n false)).map .c := by
    intro n
    induction n with
    | zero => rfl
    | succ n ih => rw [List.replicate_succ, List.flatten_cons, ih, List.replicate_succ, flatG_cons]; rfl
  rw [this]; simp [cellsG]
structure RS where
  j : Nat
  s : Cs
  S : List Bool
  P : List Int
  E : List Ev
structure RInv (t : Tray) (r : RS) : Prop where
  ok : CsOk t r.s
  rel : RelR t r.s r.S r.P
  j : r.j + mu t r.s ≤ 200
  ev : r.E ++ evR t (250 - r.j) r.s = evS t
  e : r.E.length ≤ 3 * r.j
  now : r.s.now ≤ 10000 + 1059 * (r.j : Int)
theorem next_fields (t : Tray) (s : Cs) (hs : s.at_ < t.n) : ((s.next t).at_ : Int) = (if moves t s then (s.at_ : Int) + wayI s.up else s.at_) ∧ wayI (s.next t).up = (if moves t s then wayI s.up else -wayI s.up) ∧ (s.next t).now = (if moves t s then s.now + t.step else s.now) := by
  obtain ⟨q, pins, now, a, up, sd, sp, pl, st, en⟩ := s
  cases up
  · by_cases h : 0 < a
    · have e : moves t ⟨q, pins, now, a, false, sd, sp, pl, st, en⟩ = true := by simp [moves, h]
      rw [e]
      simp only [Cs.next, Cs.move, Cs.mark, Bool.false_eq_true, if_false, if_pos h, if_true, and_true]
      simp only [wayI, Bool.false_eq_true, if_false]; omega
    · have e : moves t ⟨q, pins, now, a, false, sd, sp, pl, st, en⟩ = false := by simp [moves, h]
      rw [e]
      simp [Cs.next, Cs.move, Cs.mark, h, wayI]
  · by_cases h : a + 1 < t.n
    · have e : moves t ⟨q, pins, now, a, true, sd, sp, pl, st, en⟩ = true := by simp [moves, h]
      rw [e]
      simp [Cs.next, Cs.move, Cs.mark, h, wayI]
    · have e : moves t ⟨q, pins, now, a, true, sd, sp, pl, st, en⟩ = false := by simp [moves, h]
      rw [e]
      simp [Cs.next, Cs.move, Cs.mark, h, wayI]
theorem moves_within {t : Tray} {s : Cs} (h : s.at_ < t.n) : within ((s.at_ : Int) + wayI s.up) 0 ((t.n : Int) - 1) = moves t s := by
  unfold within moves
  rw [Bool.eq_iff_iff]
  cases s.up
  · simp only [wayI, Bool.false_eq_true, if_false, Bool.and_eq_true, decide_eq_true_eq]; omega
  · simp only [wayI, if_true, Bool.and_eq_true, decide_eq_true_eq]; omega
set_option maxRecDepth 20000 in
set_option maxHeartbeats 16000000 in
theorem run59 {t : Tray} (ht : TrayOk t) : FSpec Try.prog 59 [t.av] (.c (evsC (evS t))) := by
  have hmax : maxLen = 9223372036854775807 := rfl
  have hn6 := ht.n6
  have hn1 := ht.n1
  have h13 := ht.p13
  have hat := ht.at_
  have hst := ht.step
  have hrl : t.recs.length = t.n := rfl
  have hfc := falses_cells t.pres.length
  have h0 := start_ok ht (sortT_perm t.pres) (sortT_sorted t.pres)
  have hmu0 := start_mu ht (q := sortT t.pres) (by rw [sortT_len]; omega)
  have hrel0 := RelR.start (t := t) (sortT_perm t.pres)
  have hat0 : t.at_ = (((start t (sortT t.pres)).mark (-1)).at_ : Int) := by show t.at_ = ((t.at_.toNat : Nat) : Int); omega
  have hway0 : t.way = wayI ((start t (sortT t.pres)).mark (-1)).up := by
    show t.way = wayI (t.way == 1)
    rcases ht.way with h | h <;> rw [h] <;> rfl
  have hprg : ∀ k, k < t.pres.length → (t.pres.map Pr.cds).getD k [] = [.int .i64 (t.prN k).side, .int .i64 (t.prN k).time] := fun k hk => by
    rw [map_getD hk]; unfold Tray.prN; rw [List.getD_eq_getElem?_getD, List.getElem?_eq_getElem hk]; rfl
  have hprt : ∀ k, k < t.pres.length → ((0 ≤ (t.prN k).side ∧ (t.prN k).side < 2 * (t.n : Int)) ∧ 0 ≤ (t.prN k).time ∧ (t.prN k).time ≤ 9999) := fun k hk => by
    unfold Tray.prN; rw [List.getD_eq_getElem?_getD, List.getElem?_eq_getElem hk]; exact ht.pres _ (List.getElem_mem hk)
  have htm : ∀ i, (t.prN i).time ≤ never := fun i => by
    by_cases hi : i < t.pres.length
    · have := hprt i hi; unfold never; omega
    · unfold Tray.prN; rw [List.getD_eq_getElem?_getD, List.getElem?_eq_none (by omega)]; decide
  have hwn1 := w64 (n := (t.n : Int) - 1) (by omega) (by omega)
  refine FSpec_of c59 (Nat.le_refl _) (by decide) fun C hP hN hC hL => ?_
  simp only [ir59, Tray.av]
  (repeat ((first | refine WV_seq_ ?_ | refine WV_block ?_ | refine WV_ops ?_ | refine WV_skip ?_ | refine WV_exit ?_); (try simp only [go_sem, init_env', Nat.reduceEqDiff, Nat.reduceAdd, Nat.reduceMul, reduceIte, Nat.reduceLeDiff, Nat.reduceLT, Nat.reduceBEq, reduceCtorEq, hP, prsC, List.length_map, hfc]); (repeat refine qI ?_)))
  refine WV_nilslot 4 904 3 1 (by decide) (by decide) rfl rfl ?_
  simp only [go_sem, init_env', Nat.reduceEqDiff, Nat.reduceAdd, Nat.reduceMul, reduceIte, Nat.reduceLeDiff, Nat.reduceLT, Nat.reduceBEq, reduceCtorEq]
  refine WV_nilslot 3 903 81 5 (by decide) (by decide) rfl rfl ?_
  simp only [go_sem, init_env', Nat.reduceEqDiff, Nat.reduceAdd, Nat.reduceMul, reduceIte, Nat.reduceLeDiff, Nat.reduceLT, Nat.reduceBEq, reduceCtorEq]
  refine WV_loopK K59_1 [11, 19, 58, 59, 78, 79, 107, 108, 121, 122, 146, 147, 903, 904, 913] (RInv t) (fun r => 300 - r.j) (fun r => [(8, iv r.s.now), (4, .gr 904), (3, .gr 903), (6, iv r.s.at_), (7, iv (wayI r.s.up))]) (fun r => [(19, .box (cellsG icb r.S 0)), (904, .grow 3 1 (r.P.map icd)), (903, .grow 81 5 (r.E.map Ev.cds))]) ⟨0, (start t (sortT t.pres)).mark (-1), List.replicate t.pres.length false, [], []⟩ ⟨h0, hrel0, by simp only; omega, rfl, by simp, by show (0 : Int) ≤ _; omega⟩ ?_ ?_
  · simp only [← hat0, ← hway0]
    exact Sub_au
  rintro ⟨j, s, S, P, E⟩ ⟨hs, hr, hj, hev, hE, hnow⟩
  simp only at hs hr hj hev hE hnow
  simp only [go_sem, init_env', Nat.reduceEqDiff, Nat.reduceAdd, Nat.reduceMul, reduceIte, Nat.reduceLeDiff, Nat.reduceLT, Nat.reduceBEq, reduceCtorEq]
  (repeat ((first | refine WV_seq_ ?_ | refine WV_block ?_ | refine WV_ops ?_ | refine WV_skip ?_ | refine WV_exit ?_); (try simp only [go_sem, init_env', Nat.reduceEqDiff, Nat.reduceAdd, Nat.reduceMul, reduceIte, Nat.reduceLeDiff, Nat.reduceLT, Nat.reduceBEq, reduceCtorEq, hP, ]); (repeat refine qI ?_)))
  refine WV_loopK K59_2 [11, 19, 58, 59, 904] (fun k : Nat => k ≤ t.pres.length) (fun k => t.pres.length - k) (fun k => [(10, iv k), (4, .gr 904), (9, iv (scanR t s.now S P k).2.2)]) (fun k => [(19, .box (cellsG icb (scanR t s.now S P k).1 0)), (904, .grow 3 1 ((scanR t s.now S P k).2.1.map icd))]) 0 (Nat.zero_le _) ?_ ?_
  · (refine Sub_of (by simp only [go_sem, init_env', Nat.reduceEqDiff, Nat.reduceAdd, Nat.reduceMul, reduceIte, Nat.reduceLeDiff, Nat.reduceLT, Nat.reduceBEq, reduceCtorEq]; ((repeat' (first | exact EnvLe_e0 _ _ | refine EnvLe_upd ?_ ?_)) <;> ((try simp only [upd_app, e0_app, o0_app, Nat.reduceEqDiff, reduceIte]); first | exact AWk.refl _ _ | exact AWk.int (by omega) | exact AWk.int (by rw [w64 (by omega) (by omega)]; omega) | exact AWk.grow rfl | exact AWk.nil _ | exact AWk.of (by simp [scanR, never])))) (by simp only [go_sem, init_env', Nat.reduceEqDiff, Nat.reduceAdd, Nat.reduceMul, reduceIte, Nat.reduceLeDiff, Nat.reduceLT, Nat.reduceBEq, reduceCtorEq]; (first | ((repeat' (first | exact ObjLe_o0 _ | exact ObjLe.rfl' _ | refine ObjLe_same ?_ | refine ObjLe_upd ?_ ?_ | refine ObjLe_new rfl ?_)) <;> rfl) | (refine ObjLe_X ?_; (repeat' (first | exact ObjLeX_o0 _ _ | refine ObjLeX_skip rfl ?_ | refine ObjLeX_upd ?_ ?_)) <;> rfl))))
  · intro k hk
    simp only [go_sem, init_env', Nat.reduceEqDiff, Nat.reduceAdd, Nat.reduceMul, reduceIte, Nat.reduceLeDiff, Nat.reduceLT, Nat.reduceBEq, reduceCtorEq]
    (repeat ((first | refine WV_seq_ ?_ | refine WV_block ?_ | refine WV_ops ?_ | refine WV_skip ?_ | refine WV_exit ?_); (try simp only [go_sem, init_env', Nat.reduceEqDiff, Nat.reduceAdd, Nat.reduceMul, reduceIte, Nat.reduceLeDiff, Nat.reduceLT, Nat.reduceBEq, reduceCtorEq, hP, prsC, List.length_map]); (repeat refine qI ?_)))
    have hsk := scan_ok (t := t) (now := s.now) (P := P) hr.len htm k hk
    (refine WV_cond rfl (fun h => ?_) (fun h => ?_))
    · have hkl : k < t.pres.length := by simpa using h
      have hI : (k : Int) < (t.pres.length : Int) := by omega
      have hw2 := w64 (n := (k : Int) + 1) (by omega) (by omega)
      have g1 := hprg k hkl
      have g2 := hprt k hkl
      have hstep := scanR_succ t s.now S P k
      have hlen := hsk.len
      have hcnt := hsk.cnt
      have hcnt2 := hr.cnt
      clear hsk
      generalize scanR t s.now S P k = R at *
      obtain ⟨S1, P1, N1⟩ := R
      simp only at hlen hcnt hstep
      have hk1 : k < S1.length := by omega
      have g3 := cellsG_get icb_one (l := S1) (k := k) hk1 0 0 (d := .int .i64 (if S1.getD k false then 1 else 0)) (by rw [List.getD_eq_getElem?_getD, List.getElem?_eq_getElem hk1]; rfl) .non
      have g4 := cellsG_set icb_one hk1 0 0 (by decide) (.int .i64 1) true rfl
      have g5 := cellsG_get icb_one (l := S1.set k true) (k := k) (by simpa using hk1) 0 0 (d := .int .i64 1) (by rw [List.getElem_set_self]; rfl) .non
      have hcl : k < (cellsG icb S1 0).length := by rw [cellsG_len icb_one]; omega
      have hcl2 : k < (cellsG icb (S1.set k true) 0).length := by rw [cellsG_len icb_one, List.length_set]; omega
      simp only [Nat.mul_one, Nat.add_zero] at g3 g4 g5
      have z0 : ((0 : Int) == 0) = true := rfl
      have z1 : ((1 : Int) == 0) = false := rfl
      generalize (t.prN k).side = X at *
      generalize (t.prN k).time = T at *
      by_cases hb : S1.getD k false = true
      · rw [if_pos hb] at hstep g3
        (repeat ((first | refine WV_seq_ ?_ | refine WV_block ?_ | refine WV_ops ?_ | refine WV_skip ?_ | refine WV_exit ?_); (try simp only [go_sem, init_env', Nat.reduceEqDiff, Nat.reduceAdd, Nat.reduceMul, reduceIte, Nat.reduceLeDiff, Nat.reduceLT, Nat.reduceBEq, reduceCtorEq, hP, prsC, g1, hI, List.length_map, Int.natCast_nonneg, g3, hcl, hk1, hlen, hkl, z1]); (repeat refine qI ?_)))
        (refine WV_cond rfl (fun h => ?_) (fun h => ?_))
        · simp at h
        (repeat ((first | refine WV_seq_ ?_ | refine WV_block ?_ | refine WV_ops ?_ | refine WV_skip ?_ | refine WV_exit ?_); (try simp only [go_sem, init_env', Nat.reduceEqDiff, Nat.reduceAdd, Nat.reduceMul, reduceIte, Nat.reduceLeDiff, Nat.reduceLT, Nat.reduceBEq, reduceCtorEq, hP, g3, hcl, hI, hlen, Int.natCast_nonneg, z1]); (repeat refine qI ?_)))
        (refine WV_cond rfl (fun h => ?_) (fun h => ?_))
        · simp at h
        (repeat ((first | refine WV_seq_ ?_ | refine WV_block ?_ | refine WV_ops ?_ | refine WV_skip ?_ | refine WV_exit ?_); (try simp only [go_sem, init_env', Nat.reduceEqDiff, Nat.reduceAdd, Nat.reduceMul, reduceIte, Nat.reduceLeDiff, Nat.reduceLT, Nat.reduceBEq, reduceCtorEq, hP, hw2]); (repeat refine qI ?_)))
        refine ⟨k + 1, by omega, by omega, ?_⟩
        rw [hstep]
        exact Sub_au
      · rw [if_neg hb] at hstep g3
        by_cases hT : T ≤ s.now
        · rw [if_pos hT] at hstep
          have hin := in61 P1 X (by omega)
          try simp only at hstep
          try simp only
          (repeat ((first | refine WV_seq_ ?_ | refine WV_block ?_ | refine WV_ops ?_ | refine WV_skip ?_ | refine WV_exit ?_); (try simp only [go_sem, init_env', Nat.reduceEqDiff, Nat.reduceAdd, Nat.reduceMul, reduceIte, Nat.reduceLeDiff, Nat.reduceLT, Nat.reduceBEq, reduceCtorEq, hP, prsC, g1, hI, List.length_map, Int.natCast_nonneg, g3, hcl, hk1, hlen, hkl, z0, decide_eq_true hT]); (repeat refine qI ?_)))
          (refine WV_cond rfl (fun h => ?_) (fun h => ?_))
          rotate_left
          · simp at h
          (repeat ((first | refine WV_seq_ ?_ | refine WV_block ?_ | refine WV_ops ?_ | refine WV_skip ?_ | refine WV_exit ?_); (try simp only [go_sem, init_env', Nat.reduceEqDiff, Nat.reduceAdd, Nat.reduceMul, reduceIte, Nat.reduceLeDiff, Nat.reduceLT, Nat.reduceBEq, reduceCtorEq, hP, hI, hlen, Int.natCast_nonneg, g4, hcl]); (repeat refine qI ?_)))
          (refine AS_pure (hin) rfl rfl rfl rfl rfl ?_; simp only [go_sem, init_env', Nat.reduceEqDiff, Nat.reduceAdd, Nat.reduceMul, reduceIte, Nat.reduceLeDiff, Nat.reduceLT, Nat.reduceBEq, reduceCtorEq, hP, ]; (repeat refine qI ?_); (repeat ((first | refine WV_seq_ ?_ | refine WV_block ?_ | refine WV_ops ?_ | refine WV_skip ?_ | refine WV_exit ?_); (try simp only [go_sem, init_env', Nat.reduceEqDiff, Nat.reduceAdd, Nat.reduceMul, reduceIte, Nat.reduceLeDiff, Nat.reduceLT, Nat.reduceBEq, reduceCtorEq, hP, ]); (repeat refine qI ?_))))
          unfold addP at hstep
          cases hc : P1.contains X
          · rw [if_neg (by rw [hc]; simp)] at hstep
            (refine WV_cond rfl (fun h => ?_) (fun h => ?_))
            rotate_left
            · simp at h
            (refine WV_ops ?_; simp only [go_sem, init_env', Nat.reduceEqDiff, Nat.reduceAdd, Nat.reduceMul, reduceIte, Nat.reduceLeDiff, Nat.reduceLT, Nat.reduceBEq, reduceCtorEq, hP, icds_one, List.length_map]; (repeat refine qI ?_))
            refine WV_move' 59 904 (by decide) (by decide) rfl ?_
            simp only [go_sem, init_env', Nat.reduceEqDiff, Nat.reduceAdd, Nat.reduceMul, reduceIte, Nat.reduceLeDiff, Nat.reduceLT, Nat.reduceBEq, reduceCtorEq]
            have e9 : P1.map icd ++ [[CD.int .i64 X]] = (P1 ++ [X]).map icd := by simp [icd]
            rw [e9]
            (repeat ((first | refine WV_seq_ ?_ | refine WV_block ?_ | refine WV_ops ?_ | refine WV_skip ?_ | refine WV_exit ?_); (try simp only [go_sem, init_env', Nat.reduceEqDiff, Nat.reduceAdd, Nat.reduceMul, reduceIte, Nat.reduceLeDiff, Nat.reduceLT, Nat.reduceBEq, reduceCtorEq, hP, hI, hlen, Int.natCast_nonneg, g5, hcl2, z1]); (repeat refine qI ?_)))
            (refine WV_cond rfl (fun h => ?_) (fun h => ?_))
            · simp at h
            (repeat ((first | refine WV_seq_ ?_ | refine WV_block ?_ | refine WV_ops ?_ | refine WV_skip ?_ | refine WV_exit ?_); (try simp only [go_sem, init_env', Nat.reduceEqDiff, Nat.reduceAdd, Nat.reduceMul, reduceIte, Nat.reduceLeDiff, Nat.reduceLT, Nat.reduceBEq, reduceCtorEq, hP, hw2]); (repeat refine qI ?_)))
            refine ⟨k + 1, by omega, by omega, ?_⟩
            rw [hstep]
            exact Sub_au
          · rw [if_pos hc] at hstep
            (refine WV_cond rfl (fun h => ?_) (fun h => ?_))
            · simp at h
            (repeat ((first | refine WV_seq_ ?_ | refine WV_block ?_ | refine WV_ops ?_ | refine WV_skip ?_ | refine WV_exit ?_); (try simp only [go_sem, init_env', Nat.reduceEqDiff, Nat.reduceAdd, Nat.reduceMul, reduceIte, Nat.reduceLeDiff, Nat.reduceLT, Nat.reduceBEq, reduceCtorEq, hP, hI, hlen, Int.natCast_nonneg, g5, hcl2, z1]); (repeat refine qI ?_)))
            (refine WV_cond rfl (fun h => ?_) (fun h => ?_))
            · simp at h
            (repeat ((first | refine WV_seq_ ?_ | refine WV_block ?_ | refine WV_ops ?_ | refine WV_skip ?_ | refine WV_exit ?_); (try simp only [go_sem, init_env', Nat.reduceEqDiff, Nat.reduceAdd, Nat.reduceMul, reduceIte, Nat.reduceLeDiff, Nat.reduceLT, Nat.reduceBEq, reduceCtorEq, hP, hw2]); (repeat refine qI ?_)))
            refine ⟨k + 1, by omega, by omega, ?_⟩
            rw [hstep]
            exact Sub_au
        · rw [if_neg hT] at hstep
          try simp only at hstep
          try simp only
          (repeat ((first | refine WV_seq_ ?_ | refine WV_block ?_ | refine WV_ops ?_ | refine WV_skip ?_ | refine WV_exit ?_); (try simp only [go_sem, init_env', Nat.reduceEqDiff, Nat.reduceAdd, Nat.reduceMul, reduceIte, Nat.reduceLeDiff, Nat.reduceLT, Nat.reduceBEq, reduceCtorEq, hP, prsC, g1, hI, List.length_map, Int.natCast_nonneg, g3, hcl, hk1, hlen, hkl, z0, decide_eq_false hT]); (repeat refine qI ?_)))
          (refine WV_cond rfl (fun h => ?_) (fun h => ?_))
          · simp at h
          (repeat ((first | refine WV_seq_ ?_ | refine WV_block ?_ | refine WV_ops ?_ | refine WV_skip ?_ | refine WV_exit ?_); (try simp only [go_sem, init_env', Nat.reduceEqDiff, Nat.reduceAdd, Nat.reduceMul, reduceIte, Nat.reduceLeDiff, Nat.reduceLT, Nat.reduceBEq, reduceCtorEq, hP, g3, hcl, hI, hlen, Int.natCast_nonneg, z0]); (repeat refine qI ?_)))
          (refine WV_cond rfl (fun h => ?_) (fun h => ?_))
          rotate_left
          · simp at h
          (repeat ((first | refine WV_seq_ ?_ | refine WV_block ?_ | refine WV_ops ?_ | refine WV_skip ?_ | refine WV_exit ?_); (try simp only [go_sem, init_env', Nat.reduceEqDiff, Nat.reduceAdd, Nat.reduceMul, reduceIte, Nat.reduceLeDiff, Nat.reduceLT, Nat.reduceBEq, reduceCtorEq, hP, hw2]); (repeat refine qI ?_)))
          refine ⟨k + 1, by omega, by omega, ?_⟩
          rw [hstep]
          exact Sub_au
    · have h : k = t.pres.length := by simp at h; omega
      subst h
      obtain ⟨hr1, hN⟩ := hr.scan ht hs
      have hs1 := hs.press
      generalize scanR t s.now S P t.pres.length = R at *
      obtain ⟨S', P', N⟩ := R
      simp only at hr1 hN
      subst hN
      have hidle := hr1.idle hs1
      have hcnt := hr1.cnt
      have hEl : E.length ≤ 600 := by omega
      have hfuel : 250 - j = (250 - (j + 1)) + 1 := by omega
      rw [hfuel] at hev
      have hgn : s.press.now = s.now := rfl
      have hga : s.press.at_ = s.at_ := rfl
      have hgu : s.press.up = s.up := rfl
      have hs0 := hs.now
      have hsn : s.now ≤ 250000 := by omega
      have hat1 := hs.at_
      (refine WV_exit ?_; simp only [go_sem, init_env', Nat.reduceEqDiff, Nat.reduceAdd, Nat.reduceMul, reduceIte, Nat.reduceLeDiff, Nat.reduceLT, Nat.reduceBEq, reduceCtorEq])
      (repeat ((first | refine WV_seq_ ?_ | refine WV_block ?_ | refine WV_ops ?_ | refine WV_skip ?_ | refine WV_exit ?_); (try simp only [go_sem, init_env', Nat.reduceEqDiff, Nat.reduceAdd, Nat.reduceMul, reduceIte, Nat.reduceLeDiff, Nat.reduceLT, Nat.reduceBEq, reduceCtorEq, hP, List.length_map]); (repeat refine qI ?_)))
      cases P' with
      | nil =>
        have hid : s.press.pins.all (!·) = true := hidle
        have hz : (((0 : Nat) : Int) == 0) = true := rfl
        have hem : emit1 t s.press = [⟨s.now, nextT s.press, s.at_, wayI s.up, -2⟩] := by unfold emit1; rw [if_pos hid]; rfl
        simp only [List.length_nil, List.map_nil]
        (refine WV_cond rfl (fun h => ?_) (fun h => ?_))
        rotate_left
        · simp at h
        (repeat ((first | refine WV_seq_ ?_ | refine WV_block ?_ | refine WV_ops ?_ | refine WV_skip ?_ | refine WV_exit ?_); (try simp only [go_sem, init_env', Nat.reduceEqDiff, Nat.reduceAdd, Nat.reduceMul, reduceIte, Nat.reduceLeDiff, Nat.reduceLT, Nat.reduceBEq, reduceCtorEq, hP, evs_five, List.length_map]); (repeat refine qI ?_)))
        refine WV_move' 79 903 (by decide) (by decide) rfl ?_
        simp only [go_sem, init_env', Nat.reduceEqDiff, Nat.reduceAdd, Nat.reduceMul, reduceIte, Nat.reduceLeDiff, Nat.reduceLT, Nat.reduceBEq, reduceCtorEq]
        have e9 : E.map Ev.cds ++ [[CD.int .i64 s.now, CD.int .i64 (nextT s.press), CD.int .i64 s.at_, CD.int .i64 (wayI s.up), CD.int .i64 (-2)]] = (E ++ emit1 t s.press).map Ev.cds := by rw [hem]; simp [Ev.cds]
        rw [e9]
        cases hq : s.press.q with
        | nil =>
          have hnt : nextT s.press = 1099511627776 := by unfold nextT; rw [hq]; rfl
          have hact : s.act t = none := act1_end hid hq
          have hfin : E ++ emit1 t s.press = evS t := by rw [← hev, evR_none hact]
          rw [hfin, hnt]
          (repeat ((first | refine WV_seq_ ?_ | refine WV_block ?_ | refine WV_ops ?_ | refine WV_skip ?_ | refine WV_exit ?_); (try simp only [go_sem, init_env', Nat.reduceEqDiff, Nat.reduceAdd, Nat.reduceMul, reduceIte, Nat.reduceLeDiff, Nat.reduceLT, Nat.reduceBEq, reduceCtorEq, hP, beq_self_eq_true]); (repeat refine qI ?_)))
          (refine WV_cond rfl (fun h => ?_) (fun h => ?_))
          rotate_left
          · simp at h
          (repeat ((first | refine WV_seq_ ?_ | refine WV_block ?_ | refine WV_ops ?_ | refine WV_skip ?_ | refine WV_exit ?_); (try simp only [go_sem, init_env', Nat.reduceEqDiff, Nat.reduceAdd, Nat.reduceMul, reduceIte, Nat.reduceLeDiff, Nat.reduceLT, Nat.reduceBEq, reduceCtorEq, hP, ]); (repeat refine qI ?_)))
          (refine WV_ret ?_; simp only [thenQ, inQ, RetQ, RetOk, resAll, resA]; simp only [go_sem, init_env', Nat.reduceEqDiff, Nat.reduceAdd, Nat.reduceMul, reduceIte, Nat.reduceLeDiff, Nat.reduceLT, Nat.reduceBEq, reduceCtorEq, tupA, AV.port, AV.portL, exists_eq_left', evsC]; (first | exact AVle.of rfl | refine AVle.of ?_ | skip))
        | cons p q' =>
          have hnt : nextT s.press = p.time := by unfold nextT; rw [hq]
          have hpt := (hs1.q p (by rw [hq]; simp)).2
          have hact : s.act t = some { s.press with now := p.time } := act1_idle hid hq
          have hzz : (p.time == 1099511627776) = false := by simp; omega
          have hs' := act_ok ht hs hact
          have hmu := act_mu hs hact
          have hjj : j + 1 + mu t { s.press with now := p.time } ≤ 200 := by omega
          have hev3 : (E ++ emit1 t s.press) ++ evR t (250 - (j + 1)) { s.press with now := p.time } = evS t := by rw [← hev, evR_some hact, List.append_assoc]
          have hE3l : (E ++ emit1 t s.press).length ≤ 3 * (j + 1) := by rw [List.length_append, hem]; simp only [List.length_cons, List.length_nil]; omega
          generalize hE3 : E ++ emit1 t s.press = E3 at *
          rw [hnt]
          (repeat ((first | refine WV_seq_ ?_ | refine WV_block ?_ | refine WV_ops ?_ | refine WV_skip ?_ | refine WV_exit ?_); (try simp only [go_sem, init_env', Nat.reduceEqDiff, Nat.reduceAdd, Nat.reduceMul, reduceIte, Nat.reduceLeDiff, Nat.reduceLT, Nat.reduceBEq, reduceCtorEq, hP, hzz]); (repeat refine qI ?_)))
          (refine WV_cond rfl (fun h => ?_) (fun h => ?_))
          · simp at h; omega
          (repeat ((first | refine WV_seq_ ?_ | refine WV_block ?_ | refine WV_ops ?_ | refine WV_skip ?_ | refine WV_exit ?_); (try simp only [go_sem, init_env', Nat.reduceEqDiff, Nat.reduceAdd, Nat.reduceMul, reduceIte, Nat.reduceLeDiff, Nat.reduceLT, Nat.reduceBEq, reduceCtorEq, hP, ]); (repeat refine qI ?_)))
          refine ⟨⟨j + 1, { s.press with now := p.time }, S', [], E3⟩, ⟨hs', ⟨hr1.len, hr1.q, hr1.pins, hr1.rng, hr1.cnt⟩, hjj, hev3, hE3l, by simp only; omega⟩, by simp only; omega, ?_⟩
          exact Sub_au
      | cons x0 P0 =>
        have hid : s.press.pins.all (!·) = false := hidle
        generalize hPP : x0 :: P0 = P' at *
        have hlz : ((P'.length : Int) == 0) = false := by rw [← hPP]; simp; omega
        clear hPP
        have hact : s.act t = some ((s.press.play t).next t) := act1_busy hid
        have hs' := act_ok ht hs hact
        have hmu := act_mu hs hact
        have hgr := act_grown ht hs hact
        have hnx := next_fields t (s.press.play t) (by rw [(play_pins t s.press).2.2.1]; exact hs1.at_)
        obtain ⟨hnx1, hnx2, hnx3⟩ := hnx
        have hpa : (s.press.play t).at_ = s.at_ := (play_pins t s.press).2.2.1
        have hpu : (s.press.play t).up = s.up := (play_pins t s.press).2.2.2
        have hmv : within ((s.at_ : Int) + wayI s.up) 0 ((t.n : Int) - 1) = moves t (s.press.play t) := by
          have := moves_within (t := t) (s := s.press.play t) (by rw [hpa]; exact hs.at_)
          rw [hpa, hpu] at this; exact this
        have hpos := pos_lt hs1
        have hsec := secs_ok ht hpos
        have hse := secs24 t s.press.pos hpos (by omega)
        have hsa : FSpec Try.prog 25 [iv s.at_, iv (wayI s.up)] (iv s.press.pos) := sideat25 s.at_ s.up (by omega)
        have hin := in61 P' (s.press.pos : Int) (by omega)
        have hwy := wayI_cases s.up
        have hsum := w64 (n := (s.at_ : Int) + wayI s.up) (by omega) (by omega)
        have hneg := Int.zero_sub (wayI s.up)
        have hwneg := w64 (n := -wayI s.up) (by omega) (by omega)
        have hpc := hr1.pins s.press.pos
        have hem : emit1 t s.press = playE t s.press ++ goE t (s.press.play t) := by unfold emit1; rw [if_neg (by rw [hid]; simp)]
        have hev2 : (E ++ playE t s.press ++ goE t (s.press.play t)) ++ evR t (250 - (j + 1)) ((s.press.play t).next t) = evS t := by rw [← hev, evR_some hact, hem]; simp only [List.append_assoc]
        have hj' : j + 1 + mu t ((s.press.play t).next t) ≤ 200 := by omega
        have hE' : (E ++ playE t s.press ++ goE t (s.press.play t)).length ≤ 3 * (j + 1) := by
          have h1 : (playE t s.press).length ≤ 1 := by unfold playE; split <;> simp
          have h2 : (goE t (s.press.play t)).length ≤ 1 := by unfold goE; split <;> simp
          simp only [List.length_append]; omega
        have hnow' : ((s.press.play t).next t).now ≤ 10000 + 1059 * ((j + 1 : Nat) : Int) := by rcases hgr.now with h | h <;> omega
        have hrel2 := hr1.play hs1
        (refine WV_cond rfl (fun h => ?_) (fun h => ?_))
        · rw [hlz] at h; simp at h
        (repeat ((first | refine WV_seq_ ?_ | refine WV_block ?_ | refine WV_ops ?_ | refine WV_skip ?_ | refine WV_exit ?_); (try simp only [go_sem, init_env', Nat.reduceEqDiff, Nat.reduceAdd, Nat.reduceMul, reduceIte, Nat.reduceLeDiff, Nat.reduceLT, Nat.reduceBEq, reduceCtorEq, hP, ]); (repeat refine qI ?_)))
        (refine AS_pure (hsa) rfl rfl rfl rfl rfl ?_; simp only [go_sem, init_env', Nat.reduceEqDiff, Nat.reduceAdd, Nat.reduceMul, reduceIte, Nat.reduceLeDiff, Nat.reduceLT, Nat.reduceBEq, reduceCtorEq, hP, ]; (repeat refine qI ?_); (repeat ((first | refine WV_seq_ ?_ | refine WV_block ?_ | refine WV_ops ?_ | refine WV_skip ?_ | refine WV_exit ?_); (try simp only [go_sem, init_env', Nat.reduceEqDiff, Nat.reduceAdd, Nat.reduceMul, reduceIte, Nat.reduceLeDiff, Nat.reduceLT, Nat.reduceBEq, reduceCtorEq, hP, ]); (repeat refine qI ?_))))
        (refine AS_pure (hin) rfl rfl rfl rfl rfl ?_; simp only [go_sem, init_env', Nat.reduceEqDiff, Nat.reduceAdd, Nat.reduceMul, reduceIte, Nat.reduceLeDiff, Nat.reduceLT, Nat.reduceBEq, reduceCtorEq, hP, ]; (repeat refine qI ?_); (repeat ((first | refine WV_seq_ ?_ | refine WV_block ?_ | refine WV_ops ?_ | refine WV_skip ?_ | refine WV_exit ?_); (try simp only [go_sem, init_env', Nat.reduceEqDiff, Nat.reduceAdd, Nat.reduceMul, reduceIte, Nat.reduceLeDiff, Nat.reduceLT, Nat.reduceBEq, reduceCtorEq, hP, ]); (repeat refine qI ?_))))
        rw [← hpc]
        cases hpin : s.press.pins.getD s.press.pos false with
        | true =>
        have hpn : (s.press.play t).now = s.now + secs t s.press.pos := (play_yes (t := t) hpin).2.2.2.1
        have hpe : playE t s.press = [⟨s.now, s.now + secs t s.press.pos, s.at_, wayI s.up, s.press.pos⟩] := by unfold playE; rw [if_pos hpin]; rfl
        have hw5 := w64 (n := s.now + secs t s.press.pos) (by omega) (by omega)
        have hws := w64 (n := s.now + secs t s.press.pos + t.step) (by omega) (by omega)
        (refine WV_cond rfl (fun h => ?_) (fun h => ?_))
        rotate_left
        · simp at h
        (repeat ((first | refine WV_seq_ ?_ | refine WV_block ?_ | refine WV_ops ?_ | refine WV_skip ?_ | refine WV_exit ?_); (try simp only [go_sem, init_env', Nat.reduceEqDiff, Nat.reduceAdd, Nat.reduceMul, reduceIte, Nat.reduceLeDiff, Nat.reduceLT, Nat.reduceBEq, reduceCtorEq, hP, ]); (repeat refine qI ?_)))
        refine WV_nilslot 13 913 3 1 (by decide) (by decide) rfl rfl ?_
        simp only [go_sem, init_env', Nat.reduceEqDiff, Nat.reduceAdd, Nat.reduceMul, reduceIte, Nat.reduceLeDiff, Nat.reduceLT, Nat.reduceBEq, reduceCtorEq]
        refine WV_loopK K59_3 [107, 108, 913] (fun k : Nat => k ≤ P'.length) (fun k => P'.length - k) (fun k => [(14, iv k), (13, .gr 913)]) (fun k => [(913, .grow 3 1 (((P'.take k).filter fun x => x != (s.press.pos : Int)).map icd))]) 0 (Nat.zero_le _) ?_ ?_
        · exact Sub_au
        · intro k hk
          simp only [go_sem, init_env', Nat.reduceEqDiff, Nat.reduceAdd, Nat.reduceMul, reduceIte, Nat.reduceLeDiff, Nat.reduceLT, Nat.reduceBEq, reduceCtorEq]
          (repeat ((first | refine WV_seq_ ?_ | refine WV_block ?_ | refine WV_ops ?_ | refine WV_skip ?_ | refine WV_exit ?_); (try simp only [go_sem, init_env', Nat.reduceEqDiff, Nat.reduceAdd, Nat.reduceMul, reduceIte, Nat.reduceLeDiff, Nat.reduceLT, Nat.reduceBEq, reduceCtorEq, hP, List.length_map]); (repeat refine qI ?_)))
          (refine WV_cond rfl (fun h => ?_) (fun h => ?_))
          · have hkl : k < P'.length := by simpa using h
            have hI : (k : Int) < (P'.length : Int) := by omega
            have hw2 := w64 (n := (k : Int) + 1) (by omega) (by omega)
            have g1 : (P'.map icd).getD k [] = [.int .i64 P'[k]] := map_getD hkl
            have hfs : (P'.take (k + 1)).filter (fun x => x != (s.press.pos : Int)) = (P'.take k).filter (fun x => x != (s.press.pos : Int)) ++ if (P'[k] != (s.press.pos : Int)) = true then [P'[k]] else [] := by
              rw [List.take_succ_eq_append_getElem hkl, List.filter_append, List.filter_cons, List.filter_nil]
            have hfl : ((P'.take k).filter fun x => x != (s.press.pos : Int)).length ≤ 13 := by
              have h1 := List.length_filter_le (fun x => x != (s.press.pos : Int)) (P'.take k)
              have h2 := List.length_take_le k P'
              omega
            generalize P'[k] = y at *
            generalize hG : (P'.take k).filter (fun x => x != (s.press.pos : Int)) = G at *
            (repeat ((first | refine WV_seq_ ?_ | refine WV_block ?_ | refine WV_ops ?_ | refine WV_skip ?_ | refine WV_exit ?_); (try simp only [go_sem, init_env', Nat.reduceEqDiff, Nat.reduceAdd, Nat.reduceMul, reduceIte, Nat.reduceLeDiff, Nat.reduceLT, Nat.reduceBEq, reduceCtorEq, hP, g1, hI, List.length_map, Int.natCast_nonneg]); (repeat refine qI ?_)))
            cases hy : y != (s.press.pos : Int)
            · rw [hy] at hfs
              simp only [Bool.false_eq_true, if_false, List.append_nil] at hfs
              (refine WV_cond rfl (fun h => ?_) (fun h => ?_))
              · simp at h
              (repeat ((first | refine WV_seq_ ?_ | refine WV_block ?_ | refine WV_ops ?_ | refine WV_skip ?_ | refine WV_exit ?_); (try simp only [go_sem, init_env', Nat.reduceEqDiff, Nat.reduceAdd, Nat.reduceMul, reduceIte, Nat.reduceLeDiff, Nat.reduceLT, Nat.reduceBEq, reduceCtorEq, hP, hw2]); (repeat refine qI ?_)))
              refine ⟨k + 1, by omega, by omega, ?_⟩
              rw [hfs]
              exact Sub_au
            · rw [hy] at hfs
              simp only [if_true] at hfs
              (refine WV_cond rfl (fun h => ?_) (fun h => ?_))
              rotate_left
              · simp at h
              (refine WV_ops ?_; simp only [go_sem, init_env', Nat.reduceEqDiff, Nat.reduceAdd, Nat.reduceMul, reduceIte, Nat.reduceLeDiff, Nat.reduceLT, Nat.reduceBEq, reduceCtorEq, hP, g1, hI, List.length_map, Int.natCast_nonneg, icds_one]; (repeat refine qI ?_))
              refine WV_move' 108 913 (by decide) (by decide) rfl ?_
              simp only [go_sem, init_env', Nat.reduceEqDiff, Nat.reduceAdd, Nat.reduceMul, reduceIte, Nat.reduceLeDiff, Nat.reduceLT, Nat.reduceBEq, reduceCtorEq]
              have e9 : G.map icd ++ [[CD.int .i64 y]] = (G ++ [y]).map icd := by simp [icd]
              rw [e9]
              (repeat ((first | refine WV_seq_ ?_ | refine WV_block ?_ | refine WV_ops ?_ | refine WV_skip ?_ | refine WV_exit ?_); (try simp only [go_sem, init_env', Nat.reduceEqDiff, Nat.reduceAdd, Nat.reduceMul, reduceIte, Nat.reduceLeDiff, Nat.reduceLT, Nat.reduceBEq, reduceCtorEq, hP, hw2]); (repeat refine qI ?_)))
              refine ⟨k + 1, by omega, by omega, ?_⟩
              rw [hfs]
              exact Sub_au
          have h : k = P'.length := by simp at h; omega
          subst h
          rw [List.take_length]
          (refine WV_exit ?_; simp only [go_sem, init_env', Nat.reduceEqDiff, Nat.reduceAdd, Nat.reduceMul, reduceIte, Nat.reduceLeDiff, Nat.reduceLT, Nat.reduceBEq, reduceCtorEq])
          refine WV_seq_ ?_
          (refine WV_ops ?_; simp only [go_sem, init_env', Nat.reduceEqDiff, Nat.reduceAdd, Nat.reduceMul, reduceIte, Nat.reduceLeDiff, Nat.reduceLT, Nat.reduceBEq, reduceCtorEq, hP, ]; (repeat refine qI ?_))
          refine WV_drop 904 ?_
          refine WV_move' 913 904 (by decide) (by decide) rfl ?_
          simp only [go_sem, init_env', Nat.reduceEqDiff, Nat.reduceAdd, Nat.reduceMul, reduceIte, Nat.reduceLeDiff, Nat.reduceLT, Nat.reduceBEq, reduceCtorEq]
          (repeat ((first | refine WV_seq_ ?_ | refine WV_block ?_ | refine WV_ops ?_ | refine WV_skip ?_ | refine WV_exit ?_); (try simp only [go_sem, init_env', Nat.reduceEqDiff, Nat.reduceAdd, Nat.reduceMul, reduceIte, Nat.reduceLeDiff, Nat.reduceLT, Nat.reduceBEq, reduceCtorEq, hP, ]); (repeat refine qI ?_)))
          (refine AS_pure (hse) rfl rfl rfl rfl rfl ?_; simp only [go_sem, init_env', Nat.reduceEqDiff, Nat.reduceAdd, Nat.reduceMul, reduceIte, Nat.reduceLeDiff, Nat.reduceLT, Nat.reduceBEq, reduceCtorEq, hP, Tray.av, recsC, prsC, hw5, evs_five, List.length_map]; (repeat refine qI ?_))
          refine WV_move' 122 903 (by decide) (by decide) rfl ?_
          simp only [go_sem, init_env', Nat.reduceEqDiff, Nat.reduceAdd, Nat.reduceMul, reduceIte, Nat.reduceLeDiff, Nat.reduceLT, Nat.reduceBEq, reduceCtorEq]
          have e10 : E.map Ev.cds ++ [[CD.int .i64 s.now, CD.int .i64 (s.now + secs t s.press.pos), CD.int .i64 s.at_, CD.int .i64 (wayI s.up), CD.int .i64 s.press.pos]] = (E ++ playE t s.press).map Ev.cds := by rw [hpe]; simp [Ev.cds]
          have hE2 : (E ++ playE t s.press).length ≤ 700 := by rw [List.length_append, hpe]; simp only [List.length_cons, List.length_nil]; omega
          rw [e10]
          generalize hE2d : E ++ playE t s.press = E2 at *
          (repeat ((first | refine WV_seq_ ?_ | refine WV_block ?_ | refine WV_ops ?_ | refine WV_skip ?_ | refine WV_exit ?_); (try simp only [go_sem, init_env', Nat.reduceEqDiff, Nat.reduceAdd, Nat.reduceMul, reduceIte, Nat.reduceLeDiff, Nat.reduceLT, Nat.reduceBEq, reduceCtorEq, hP, ]); (repeat refine qI ?_)))
          (refine AS_pure (hse) rfl rfl rfl rfl rfl ?_; simp only [go_sem, init_env', Nat.reduceEqDiff, Nat.reduceAdd, Nat.reduceMul, reduceIte, Nat.reduceLeDiff, Nat.reduceLT, Nat.reduceBEq, reduceCtorEq, hP, Tray.av, recsC, prsC, hw5, hsum, hwn1, hrl, List.length_map]; (repeat refine qI ?_); (repeat ((first | refine WV_seq_ ?_ | refine WV_block ?_ | refine WV_ops ?_ | refine WV_skip ?_ | refine WV_exit ?_); (try simp only [go_sem, init_env', Nat.reduceEqDiff, Nat.reduceAdd, Nat.reduceMul, reduceIte, Nat.reduceLeDiff, Nat.reduceLT, Nat.reduceBEq, reduceCtorEq, hP, Tray.av, recsC, prsC, hw5, hsum, hwn1, hrl, List.length_map]); (repeat refine qI ?_))))
          (refine AS_pure (wi51 _ _ _) rfl rfl rfl rfl rfl ?_; simp only [go_sem, init_env', Nat.reduceEqDiff, Nat.reduceAdd, Nat.reduceMul, reduceIte, Nat.reduceLeDiff, Nat.reduceLT, Nat.reduceBEq, reduceCtorEq, hP, recsC, List.length_map, hrl, hwn1, hmv]; (repeat refine qI ?_); (repeat ((first | refine WV_seq_ ?_ | refine WV_block ?_ | refine WV_ops ?_ | refine WV_skip ?_ | refine WV_exit ?_); (try simp only [go_sem, init_env', Nat.reduceEqDiff, Nat.reduceAdd, Nat.reduceMul, reduceIte, Nat.reduceLeDiff, Nat.reduceLT, Nat.reduceBEq, reduceCtorEq, hP, recsC, List.length_map, hrl, hwn1, hmv]); (repeat refine qI ?_))))
          cases hmc : moves t (s.press.play t) with
          | true =>
            rw [hmc] at hnx1 hnx2 hnx3
            simp only [if_true] at hnx1 hnx2 hnx3
            have hgoE : goE t (s.press.play t) = [⟨(s.press.play t).now, (s.press.play t).now + t.step, (s.press.play t).at_, wayI (s.press.play t).up, -1⟩] := by unfold goE; rw [hmc]; rfl
            (refine WV_cond rfl (fun h => ?_) (fun h => ?_))
            rotate_left
            · simp at h
            refine WV_seq_ ?_
            (refine WV_ops ?_; simp only [go_sem, init_env', Nat.reduceEqDiff, Nat.reduceAdd, Nat.reduceMul, reduceIte, Nat.reduceLeDiff, Nat.reduceLT, Nat.reduceBEq, reduceCtorEq, hP, hws, evs_five, List.length_map]; (repeat refine qI ?_))
            refine WV_move' 147 903 (by decide) (by decide) rfl ?_
            simp only [go_sem, init_env', Nat.reduceEqDiff, Nat.reduceAdd, Nat.reduceMul, reduceIte, Nat.reduceLeDiff, Nat.reduceLT, Nat.reduceBEq, reduceCtorEq]
            have e9 : E2.map Ev.cds ++ [[CD.int .i64 (s.now + secs t s.press.pos), CD.int .i64 ((s.now + secs t s.press.pos) + t.step), CD.int .i64 s.at_, CD.int .i64 (wayI s.up), CD.int .i64 (-1)]] = (E2 ++ goE t (s.press.play t)).map Ev.cds := by rw [hgoE, hpa, hpu, hpn]; simp [Ev.cds]
            rw [e9]
            generalize hE3 : E2 ++ goE t (s.press.play t) = E3 at *
            (repeat ((first | refine WV_seq_ ?_ | refine WV_block ?_ | refine WV_ops ?_ | refine WV_skip ?_ | refine WV_exit ?_); (try simp only [go_sem, init_env', Nat.reduceEqDiff, Nat.reduceAdd, Nat.reduceMul, reduceIte, Nat.reduceLeDiff, Nat.reduceLT, Nat.reduceBEq, reduceCtorEq, hP, hws]); (repeat refine qI ?_)))
            refine ⟨⟨j + 1, (s.press.play t).next t, S', (P'.filter fun x => x != (s.press.pos : Int)), E3⟩, ⟨hs', hrel2, hj', hev2, hE', hnow'⟩, by simp only; omega, ?_⟩
            simp only [hnx1, hnx2, hnx3, hpn, hpa, hpu]
            exact Sub_au
          | false =>
            rw [hmc] at hnx1 hnx2 hnx3
            simp only [Bool.false_eq_true, if_false] at hnx1 hnx2 hnx3
            have hgoE : goE t (s.press.play t) = [] := by unfold goE; rw [hmc]; rfl
            (refine WV_cond rfl (fun h => ?_) (fun h => ?_))
            · simp at h
            (repeat ((first | refine WV_seq_ ?_ | refine WV_block ?_ | refine WV_ops ?_ | refine WV_skip ?_ | refine WV_exit ?_); (try simp only [go_sem, init_env', Nat.reduceEqDiff, Nat.reduceAdd, Nat.reduceMul, reduceIte, Nat.reduceLeDiff, Nat.reduceLT, Nat.reduceBEq, reduceCtorEq, hP, hneg, hwneg]); (repeat refine qI ?_)))
            refine ⟨⟨j + 1, (s.press.play t).next t, S', (P'.filter fun x => x != (s.press.pos : Int)), E2⟩, ⟨hs', hrel2, hj', by rw [hgoE, List.append_nil] at hev2; exact hev2, by rw [hgoE, List.append_nil] at hE'; exact hE', hnow'⟩, by simp only; omega, ?_⟩
            simp only [hnx1, hnx2, hnx3, hpn, hpa, hpu]
            exact Sub_au
        | false =>
          have hpn : (s.press.play t).now = s.now := by rw [play_no (by rw [hpin]; simp)]; rfl
          have hpe : playE t s.press = [] := by unfold playE; rw [if_neg (by rw [hpin]; simp)]
          have hws := w64 (n := s.now + t.step) (by omega) (by omega)
          have hE2 : (E ++ playE t s.press).length ≤ 700 := by rw [hpe, List.append_nil]; omega
          rw [hr1.same (by rw [← hpc, hpin]; simp)] at hrel2
          rw [show E.map Ev.cds = (E ++ playE t s.press).map Ev.cds by rw [hpe, List.append_nil]]
          generalize hE2d : E ++ playE t s.press = E2 at *
          (refine WV_cond rfl (fun h => ?_) (fun h => ?_))
          · simp at h
          (repeat ((first | refine WV_seq_ ?_ | refine WV_block ?_ | refine WV_ops ?_ | refine WV_skip ?_ | refine WV_exit ?_); (try simp only [go_sem, init_env', Nat.reduceEqDiff, Nat.reduceAdd, Nat.reduceMul, reduceIte, Nat.reduceLeDiff, Nat.reduceLT, Nat.reduceBEq, reduceCtorEq, hP, recsC, hsum, hwn1, hrl, List.length_map]); (repeat refine qI ?_)))
          (refine AS_pure (wi51 _ _ _) rfl rfl rfl rfl rfl ?_; simp only [go_sem, init_env', Nat.reduceEqDiff, Nat.reduceAdd, Nat.reduceMul, reduceIte, Nat.reduceLeDiff, Nat.reduceLT, Nat.reduceBEq, reduceCtorEq, hP, recsC, List.length_map, hrl, hwn1, hmv]; (repeat refine qI ?_); (repeat ((first | refine WV_seq_ ?_ | refine WV_block ?_ | refine WV_ops ?_ | refine WV_skip ?_ | refine WV_exit ?_); (try simp only [go_sem, init_env', Nat.reduceEqDiff, Nat.reduceAdd, Nat.reduceMul, reduceIte, Nat.reduceLeDiff, Nat.reduceLT, Nat.reduceBEq, reduceCtorEq, hP, recsC, List.length_map, hrl, hwn1, hmv]); (repeat refine qI ?_))))
          cases hmc : moves t (s.press.play t) with
          | true =>
            rw [hmc] at hnx1 hnx2 hnx3
            simp only [if_true] at hnx1 hnx2 hnx3
            have hgoE : goE t (s.press.play t) = [⟨(s.press.play t).now, (s.press.play t).now + t.step, (s.press.play t).at_, wayI (s.press.play t).up, -1⟩] := by unfold goE; rw [hmc]; rfl
            (refine WV_cond rfl (fun h => ?_) (fun h => ?_))
            rotate_left
            · simp at h
            refine WV_seq_ ?_
            (refine WV_ops ?_; simp only [go_sem, init_env', Nat.reduceEqDiff, Nat.reduceAdd, Nat.reduceMul, reduceIte, Nat.reduceLeDiff, Nat.reduceLT, Nat.reduceBEq, reduceCtorEq, hP, hws, evs_five, List.length_map]; (repeat refine qI ?_))
            refine WV_move' 147 903 (by decide) (by decide) rfl ?_
            simp only [go_sem, init_env', Nat.reduceEqDiff, Nat.reduceAdd, Nat.reduceMul, reduceIte, Nat.reduceLeDiff, Nat.reduceLT, Nat.reduceBEq, reduceCtorEq]
            have e9 : E2.map Ev.cds ++ [[CD.int .i64 s.now, CD.int .i64 (s.now + t.step), CD.int .i64 s.at_, CD.int .i64 (wayI s.up), CD.int .i64 (-1)]] = (E2 ++ goE t (s.press.play t)).map Ev.cds := by rw [hgoE, hpa, hpu, hpn]; simp [Ev.cds]
            rw [e9]
            generalize hE3 : E2 ++ goE t (s.press.play t) = E3 at *
            (repeat ((first | refine WV_seq_ ?_ | refine WV_block ?_ | refine WV_ops ?_ | refine WV_skip ?_ | refine WV_exit ?_); (try simp only [go_sem, init_env', Nat.reduceEqDiff, Nat.reduceAdd, Nat.reduceMul, reduceIte, Nat.reduceLeDiff, Nat.reduceLT, Nat.reduceBEq, reduceCtorEq, hP, hws]); (repeat refine qI ?_)))
            refine ⟨⟨j + 1, (s.press.play t).next t, S', P', E3⟩, ⟨hs', hrel2, hj', hev2, hE', hnow'⟩, by simp only; omega, ?_⟩
            simp only [hnx1, hnx2, hnx3, hpn, hpa, hpu]
            exact Sub_au
          | false =>
            rw [hmc] at hnx1 hnx2 hnx3
            simp only [Bool.false_eq_true, if_false] at hnx1 hnx2 hnx3
            have hgoE : goE t (s.press.play t) = [] := by unfold goE; rw [hmc]; rfl
            (refine WV_cond rfl (fun h => ?_) (fun h => ?_))
            · simp at h
            (repeat ((first | refine WV_seq_ ?_ | refine WV_block ?_ | refine WV_ops ?_ | refine WV_skip ?_ | refine WV_exit ?_); (try simp only [go_sem, init_env', Nat.reduceEqDiff, Nat.reduceAdd, Nat.reduceMul, reduceIte, Nat.reduceLeDiff, Nat.reduceLT, Nat.reduceBEq, reduceCtorEq, hP, hneg, hwneg]); (repeat refine qI ?_)))
            refine ⟨⟨j + 1, (s.press.play t).next t, S', P', E2⟩, ⟨hs', hrel2, hj', by rw [hgoE, List.append_nil] at hev2; exact hev2, by rw [hgoE, List.append_nil] at hE'; exact hE', hnow'⟩, by simp only; omega, ?_⟩
            simp only [hnx1, hnx2, hnx3, hpn, hpa, hpu]
            exact Sub_au
end Go.Proofs.Ytkpgpgaojjobgaa

/-
  The specification's events say what the carriage does: plain.
-/
namespace Go.Proofs.Ytkpgpgaojjobgaa
open Go Go.V

def playOf (e : Ev) : List Pr := if 0 ≤ e.side then [⟨e.side, e.from_⟩] else []
def playsE (l : List Ev) : List Pr := l.flatMap playOf
def stepOf (e : Ev) : Int := if e.side = -1 then 1 else 0
def stepsE : List Ev → Int
  | [] => 0
  | e :: l => stepOf e + stepsE l
def endStep (n : Int) (e : Ev) : Int := if 0 ≤ e.side then e.to_ else n
def endE (n : Int) (l : List Ev) : Int := l.foldl endStep n
theorem stepsE_app (a b : List Ev) : stepsE (a ++ b) = stepsE a + stepsE b := by
  induction a with
  | nil => simp [stepsE]
  | cons e a ih => simp only [List.cons_append, stepsE, ih]; omega
theorem playsE_app (a b : List Ev) : playsE (a ++ b) = playsE a ++ playsE b := List.flatMap_append
theorem endE_app (n : Int) (a b : List Ev) : endE n (a ++ b) = endE (endE n a) b := by unfold endE; rw [List.foldl_append]
theorem goE_plays (t : Tray) (s : Cs) : playsE (goE t s) = [] := by unfold goE; split <;> rfl
theorem goE_end (t : Tray) (s : Cs) (n : Int) : endE n (goE t s) = n := by unfold goE; split <;> rfl
theorem goE_steps (t : Tray) (s : Cs) : (s.next t).steps = s.steps + stepsE (goE t s) := by
  unfold goE moves Cs.next Cs.move Cs.mark
  cases s.up
  · by_cases h : 0 < s.at_ <;> simp [h, stepsE, stepOf]
  · by_cases h : s.at_ + 1 < t.n <;> simp [h, stepsE, stepOf]
theorem playE_all (t : Tray) (s : Cs) : (s.play t).plays = s.plays ++ playsE (playE t s) ∧ (s.play t).end_ = endE s.end_ (playE t s) ∧ (s.play t).steps = s.steps + stepsE (playE t s) := by
  unfold playE
  by_cases h : s.pins.getD s.pos false = true
  · obtain ⟨p1, p2, p3, p4, p5, p6⟩ := play_yes (t := t) h
    rw [if_pos h, p3, p5, p6]
    have e0 : (0 : Int) ≤ ((s.pos : Nat) : Int) := by omega
    have e1 : ¬ ((s.pos : Nat) : Int) = -1 := by omega
    refine ⟨by simp [playsE, playOf, e0], by simp [endE, endStep, e0], by simp [stepsE, stepOf, e1]⟩
  · rw [if_neg h, play_no h]
    exact ⟨by simp [playsE], rfl, by simp [stepsE]⟩
theorem idle_all (a b c d : Int) : playsE [⟨a, b, c, d, -2⟩] = [] ∧ stepsE [⟨a, b, c, d, -2⟩] = 0 ∧ ∀ n, endE n [⟨a, b, c, d, -2⟩] = n := ⟨rfl, rfl, fun _ => rfl⟩
theorem iter_ev {t : Tray} (ht : TrayOk t) : ∀ (k : Nat) (s : Cs), CsOk t s → mu t s < k → (iter t k s).plays = s.plays ++ playsE (evR t k s) ∧ (iter t k s).steps = s.steps + stepsE (evR t k s) ∧ (iter t k s).end_ = endE s.end_ (evR t k s)
  | 0, s, _, h => by omega
  | k + 1, s, hs, hm => by
    cases hact : s.act t with
    | none =>
      rw [evR_none hact]
      simp only [iter, hact]
      have h1 : s.press.act1 t = none := hact
      obtain ⟨_, hp⟩ := act1_none h1
      have he : emit1 t s.press = [⟨s.press.now, nextT s.press, s.press.at_, wayI s.press.up, -2⟩] := by unfold emit1; rw [if_pos hp]
      obtain ⟨i1, i2, i3⟩ := idle_all s.press.now (nextT s.press) s.press.at_ (wayI s.press.up)
      rw [he, i1, i2, i3]
      exact ⟨by simp [Cs.press], by simp [Cs.press], rfl⟩
    | some s' =>
      have hs' := act_ok ht hs hact
      have hmu := act_mu hs hact
      obtain ⟨h1, h2, h3⟩ := iter_ev ht k s' hs' (by omega)
      rw [evR_some hact]
      simp only [iter, hact]
      rw [h1, h2, h3, playsE_app, stepsE_app, endE_app]
      rcases act1_cases (show s.press.act1 t = some s' from hact) with ⟨p, q, hq, hp, rfl⟩ | ⟨hp, rfl⟩
      · have he : emit1 t s.press = [⟨s.press.now, nextT s.press, s.press.at_, wayI s.press.up, -2⟩] := by unfold emit1; rw [if_pos hp]
        obtain ⟨i1, i2, i3⟩ := idle_all s.press.now (nextT s.press) s.press.at_ (wayI s.press.up)
        rw [he, i1, i2, i3]
        refine ⟨by simp [Cs.press], ?_, rfl⟩
        show s.steps + _ = _
        omega
      · have he : emit1 t s.press = playE t s.press ++ goE t (s.press.play t) := by unfold emit1; rw [if_neg (by rw [hp]; simp)]
        obtain ⟨k1, k2, k3⟩ := playE_all t s.press
        obtain ⟨n1, n2, n3, n4⟩ := next_keeps t (s.press.play t)
        have n5 := goE_steps t (s.press.play t)
        rw [he, playsE_app, stepsE_app, endE_app, goE_plays, goE_end, List.append_nil, n3, n4, n5, k1, k2, k3]
        refine ⟨by rw [List.append_assoc]; rfl, ?_, rfl⟩
        show s.steps + _ + _ + _ = _
        omega
/-- The plays, the steps, the end. -/
theorem ev_goes {t : Tray} (ht : TrayOk t) : playsE (evS t) = playsS t ∧ stepsE (evS t) = (goesS t).steps ∧ endE 0 (evS t) = (goesS t).end_ := by
  have hmu := start_mu ht (q := sortT t.pres) (by rw [sortT_len]; exact ht.p13)
  obtain ⟨h1, h2, h3⟩ := iter_ev ht 250 _ (start_ok ht (sortT_perm t.pres) (sortT_sorted t.pres)) (by omega)
  refine ⟨?_, ?_, ?_⟩
  · have h1 : playsS t = [] ++ playsE (evS t) := h1
    rw [h1, List.nil_append]
  · have h2 : (goesS t).steps = 0 + stepsE (evS t) := h2
    omega
  · have h3 : (goesS t).end_ = endE 0 (evS t) := h3
    exact h3.symm

/-! ### Where it stands -/
end Go.Proofs.Ytkpgpgaojjobgaa

namespace Go.Proofs.Ytkpgpgaojjobgaa
open Go Go.V
@[reducible] def o67_0 : List Ins := [⟨(some 1), .box 5 (.t 0), none, true⟩,
  ⟨(some 2), .mv (.k (.c (.int .i64 0))), none, true⟩]
@[reducible] def o67_1 : List Ins := [⟨(some 3), .mv (.k (.c (.int .i64 0))), none, true⟩]
@[reducible] def o67_2 : List Ins := [⟨(some 6), .ld false 5 (.t 1), none, true⟩,
  ⟨(some 7), .call (.k (.fn 59 [])) [(.t 6)], none, true⟩,
  ⟨(some 4), .mv (.t 7), none, true⟩]
@[reducible] def o67_3 : List Ins := [⟨(some 5), .mv (.k (.c (.int .i64 0))), none, true⟩]
@[reducible] def o67_4 : List Ins := [⟨(some 8), .mv (.t 5), none, true⟩,
  ⟨(some 9), .mv (.t 4), none, true⟩,
  ⟨(some 10), .len (.t 9), none, true⟩,
  ⟨(some 11), .bin .lss (.t 8) (.t 10), none, true⟩]
@[reducible] def v67_5 : VC := (.cond (.t 11) .skip (.exit 0))
@[reducible] def o67_6 : List Ins := [⟨(some 14), .mv (.t 4), none, true⟩,
  ⟨(some 15), .mv (.t 5), none, true⟩,
  ⟨(some 16), .ia 5 (.t 14) (.t 15), none, true⟩,
  ⟨(some 17), .fa 4 (.t 16), none, true⟩,
  ⟨(some 18), .ld true 1 (.t 17), none, true⟩,
  ⟨(some 19), .bin .geq (.t 18) (.k (.c (.int .i64 0))), none, true⟩]
@[reducible] def o67_7 : List Ins := [⟨(some 20), .mv (.t 4), none, true⟩,
  ⟨(some 21), .mv (.t 5), none, true⟩,
  ⟨(some 22), .ia 5 (.t 20) (.t 21), none, true⟩,
  ⟨(some 23), .fa 1 (.t 22), none, true⟩,
  ⟨(some 24), .ld true 1 (.t 23), none, true⟩,
  ⟨(some 3), .mv (.t 24), none, true⟩]
@[reducible] def v67_8 : VC := (.cond (.t 19) (.ops o67_7) .skip)
@[reducible] def v67_9 : VC := (.seq (.ops o67_6) v67_8)
@[reducible] def o67_10 : List Ins := [⟨(some 12), .mv (.t 5), none, true⟩,
  ⟨(some 13), .bin .add (.t 12) (.k (.c (.int .i64 1))), none, true⟩,
  ⟨(some 5), .mv (.t 13), none, true⟩]
@[reducible] def v67_11 : VC := (.seq (.block 1 v67_9) (.ops o67_10))
@[reducible] def v67_12 : VC := (.seq (.seq (.ops o67_4) v67_5) v67_11)
-- K67_1: changed and kept: [5, 3]
@[reducible] def K67_1 : List Nat := [4]
@[reducible] def v67_13 : VC := (.loop v67_12)
@[reducible] def v67_14 : VC := (.block 0 v67_13)
@[reducible] def o67_15 : List Ins := [⟨(some 25), .mv (.t 3), none, true⟩,
  ⟨(some 2), .mv (.t 25), none, true⟩]
@[reducible] def v67_16 : VC := (.seq (.ops o67_15) .ret)
@[reducible] def v67_17 : VC := (.seq (.seq (.ops o67_3) v67_14) v67_16)
@[reducible] def v67_18 : VC := (.seq (.ops o67_2) v67_17)
@[reducible] def v67_19 : VC := (.seq (.ops o67_1) v67_18)
def ir67 : FC := ⟨1, 26, [.t 2], (.seq (.ops o67_0) v67_19)⟩
@[reducible] def o46_0 : List Ins := [⟨(some 1), .box 5 (.t 0), none, true⟩,
  ⟨(some 2), .mv (.k (.c (.int .i64 0))), none, true⟩,
  ⟨(some 3), .mv (.k (.c (.int .i64 0))), none, true⟩]
@[reducible] def o46_1 : List Ins := [⟨(some 5), .ld false 5 (.t 1), none, true⟩,
  ⟨(some 6), .call (.k (.fn 41 [])) [(.t 5)], none, true⟩,
  ⟨(some 4), .mv (.t 6), none, true⟩]
@[reducible] def o46_2 : List Ins := [⟨(some 7), .mv (.t 4), none, true⟩,
  ⟨(some 8), .bin .neq (.t 7) (.k (.c (.int .i64 0))), none, true⟩]
@[reducible] def o46_3 : List Ins := [⟨(some 9), .mv (.t 4), none, true⟩,
  ⟨(some 2), .mv (.k (.c (.int .i64 0))), none, true⟩,
  ⟨(some 3), .mv (.t 9), none, true⟩]
@[reducible] def v46_4 : VC := (.seq (.ops o46_3) .ret)
@[reducible] def v46_5 : VC := (.cond (.t 8) v46_4 .skip)
@[reducible] def v46_6 : VC := (.seq (.ops o46_2) v46_5)
@[reducible] def o46_7 : List Ins := [⟨(some 10), .fa 4 (.t 1), none, true⟩,
  ⟨(some 11), .ld true 1 (.t 10), none, true⟩,
  ⟨(some 12), .len (.t 11), none, true⟩,
  ⟨(some 13), .bin .eql (.t 12) (.k (.c (.int .i64 0))), none, true⟩]
@[reducible] def o46_8 : List Ins := [⟨(some 2), .mv (.k (.c (.int .i64 0))), none, true⟩,
  ⟨(some 3), .mv (.k (.c (.int .i64 3))), none, true⟩]
@[reducible] def v46_9 : VC := (.seq (.ops o46_8) .ret)
@[reducible] def v46_10 : VC := (.cond (.t 13) v46_9 .skip)
@[reducible] def o46_11 : List Ins := [⟨(some 14), .ld false 5 (.t 1), none, true⟩,
  ⟨(some 15), .call (.k (.fn 67 [])) [(.t 14)], none, true⟩,
  ⟨(some 2), .mv (.t 15), none, true⟩,
  ⟨(some 3), .mv (.k (.c (.int .i64 0))), none, true⟩]
@[reducible] def v46_12 : VC := (.seq (.ops o46_11) .ret)
@[reducible] def v46_13 : VC := (.seq (.seq (.ops o46_7) v46_10) v46_12)
@[reducible] def v46_14 : VC := (.seq (.seq (.ops o46_1) v46_6) v46_13)
def ir46 : FC := ⟨1, 16, [.t 2, .t 3], (.seq (.ops o46_0) v46_14)⟩
theorem c67 : compM Try.prog [] 67 = some ir67 := by kernel_rfl
theorem c46 : compM Try.prog [] 46 = some ir46 := by kernel_rfl
theorem emit_len (t : Tray) (s : Cs) : (emit1 t s).length ≤ 2 := by
  have h1 : (playE t s).length ≤ 1 := by unfold playE; split <;> simp
  have h2 : (goE t (s.play t)).length ≤ 1 := by unfold goE; split <;> simp
  unfold emit1
  split
  · simp
  · rw [List.length_append]; omega
theorem evR_len (t : Tray) : ∀ (k : Nat) (s : Cs), (evR t k s).length ≤ 2 * k
  | 0, s => Nat.le_refl _
  | k + 1, s => by
    have h1 := emit_len t s.press
    cases h : s.act t with
    | none => rw [evR_none h]; omega
    | some s' => rw [evR_some h, List.length_append]; have := evR_len t k s'; omega
theorem evS_len (t : Tray) : (evS t).length ≤ 500 := evR_len t 250 _
theorem endE_take {l : List Ev} {k : Nat} (h : k < l.length) (n : Int) : endE n (l.take (k + 1)) = endStep (endE n (l.take k)) l[k] := by
  rw [List.take_succ_eq_append_getElem h, endE_app]; rfl
theorem end67 {t : Tray} (ht : TrayOk t) : FSpec Try.prog 67 [t.av] (iv (goesS t).end_) := by
  have hrun := run59 ht
  have hlen := evS_len t
  rw [← (ev_goes ht).2.2]
  generalize evS t = E at *
  refine FSpec_of c67 (Nat.le_refl _) (by decide) fun C hP hN hC hL => ?_
  simp only [ir67, Tray.av]
  (repeat ((first | refine WV_seq_ ?_ | refine WV_block ?_ | refine WV_ops ?_ | refine WV_skip ?_ | refine WV_exit ?_); (try simp only [go_sem, init_env', Nat.reduceEqDiff, Nat.reduceAdd, Nat.reduceMul, reduceIte, Nat.reduceLeDiff, Nat.reduceLT, Nat.reduceBEq, reduceCtorEq, hP, ]); (repeat refine qI ?_)))
  (refine AS_pure (hrun) rfl rfl rfl rfl rfl ?_; simp only [go_sem, init_env', Nat.reduceEqDiff, Nat.reduceAdd, Nat.reduceMul, reduceIte, Nat.reduceLeDiff, Nat.reduceLT, Nat.reduceBEq, reduceCtorEq, hP, Tray.av]; (repeat refine qI ?_); (repeat ((first | refine WV_seq_ ?_ | refine WV_block ?_ | refine WV_ops ?_ | refine WV_skip ?_ | refine WV_exit ?_); (try simp only [go_sem, init_env', Nat.reduceEqDiff, Nat.reduceAdd, Nat.reduceMul, reduceIte, Nat.reduceLeDiff, Nat.reduceLT, Nat.reduceBEq, reduceCtorEq, hP, Tray.av]); (repeat refine qI ?_))))
  refine WV_loopK K67_1 [] (fun k : Nat => k ≤ E.length) (fun k => E.length - k) (fun k => [(5, iv k), (3, iv (endE 0 (E.take k)))]) (fun k => []) 0 (Nat.zero_le _) ?_ ?_
  · (refine Sub_of (by simp only [go_sem, init_env', Nat.reduceEqDiff, Nat.reduceAdd, Nat.reduceMul, reduceIte, Nat.reduceLeDiff, Nat.reduceLT, Nat.reduceBEq, reduceCtorEq]; ((repeat' (first | exact EnvLe_e0 _ _ | refine EnvLe_upd ?_ ?_)) <;> ((try simp only [upd_app, e0_app, o0_app, Nat.reduceEqDiff, reduceIte]); first | exact AWk.refl _ _ | exact AWk.int (by omega) | exact AWk.int (by rw [w64 (by omega) (by omega)]; omega) | exact AWk.grow rfl | exact AWk.nil _ | exact AWk.of (by simp [endE])))) (by simp only [go_sem, init_env', Nat.reduceEqDiff, Nat.reduceAdd, Nat.reduceMul, reduceIte, Nat.reduceLeDiff, Nat.reduceLT, Nat.reduceBEq, reduceCtorEq]; (first | ((repeat' (first | exact ObjLe_o0 _ | exact ObjLe.rfl' _ | refine ObjLe_same ?_ | refine ObjLe_upd ?_ ?_ | refine ObjLe_new rfl ?_)) <;> rfl) | (refine ObjLe_X ?_; (repeat' (first | exact ObjLeX_o0 _ _ | refine ObjLeX_skip rfl ?_ | refine ObjLeX_upd ?_ ?_)) <;> rfl))))
  intro k hk
  simp only [go_sem, init_env', Nat.reduceEqDiff, Nat.reduceAdd, Nat.reduceMul, reduceIte, Nat.reduceLeDiff, Nat.reduceLT, Nat.reduceBEq, reduceCtorEq]
  (repeat ((first | refine WV_seq_ ?_ | refine WV_block ?_ | refine WV_ops ?_ | refine WV_skip ?_ | refine WV_exit ?_); (try simp only [go_sem, init_env', Nat.reduceEqDiff, Nat.reduceAdd, Nat.reduceMul, reduceIte, Nat.reduceLeDiff, Nat.reduceLT, Nat.reduceBEq, reduceCtorEq, hP, evsC, List.length_map]); (repeat refine qI ?_)))
  (refine WV_cond rfl (fun h => ?_) (fun h => ?_))
  · have hkl : k < E.length := by simpa using h
    have hI : (k : Int) < (E.length : Int) := by omega
    have hw2 := w64 (n := (k : Int) + 1) (by omega) (by omega)
    have hst := endE_take hkl 0
    have g1 : (E.map Ev.cds).getD k [] = _ := map_getD hkl
    simp only [Ev.cds] at g1
    unfold endStep at hst
    generalize E[k] = e at *
    generalize endE 0 (E.take k) = n at *
    (repeat ((first | refine WV_seq_ ?_ | refine WV_block ?_ | refine WV_ops ?_ | refine WV_skip ?_ | refine WV_exit ?_); (try simp only [go_sem, init_env', Nat.reduceEqDiff, Nat.reduceAdd, Nat.reduceMul, reduceIte, Nat.reduceLeDiff, Nat.reduceLT, Nat.reduceBEq, reduceCtorEq, hP, evsC, g1, hI, List.length_map, Int.natCast_nonneg]); (repeat refine qI ?_)))
    by_cases hc : 0 ≤ e.side
    · rw [if_pos hc] at hst
      rw [decide_eq_true hc]
      (refine WV_cond rfl (fun h => ?_) (fun h => ?_))
      · (repeat ((first | refine WV_seq_ ?_ | refine WV_block ?_ | refine WV_ops ?_ | refine WV_skip ?_ | refine WV_exit ?_); (try simp only [go_sem, init_env', Nat.reduceEqDiff, Nat.reduceAdd, Nat.reduceMul, reduceIte, Nat.reduceLeDiff, Nat.reduceLT, Nat.reduceBEq, reduceCtorEq, hP, evsC, g1, hI, List.length_map, Int.natCast_nonneg, hw2]); (repeat refine qI ?_)))
        refine ⟨k + 1, by omega, by omega, ?_⟩
        rw [hst]
        exact Sub_au
      · simp at h
    · rw [if_neg hc] at hst
      rw [decide_eq_false hc]
      (refine WV_cond rfl (fun h => ?_) (fun h => ?_))
      · simp at h
      · (repeat ((first | refine WV_seq_ ?_ | refine WV_block ?_ | refine WV_ops ?_ | refine WV_skip ?_ | refine WV_exit ?_); (try simp only [go_sem, init_env', Nat.reduceEqDiff, Nat.reduceAdd, Nat.reduceMul, reduceIte, Nat.reduceLeDiff, Nat.reduceLT, Nat.reduceBEq, reduceCtorEq, hP, hw2]); (repeat refine qI ?_)))
        refine ⟨k + 1, by omega, by omega, ?_⟩
        rw [hst]
        exact Sub_au
  · have h : k = E.length := by simp at h; omega
    subst h
    rw [List.take_length]
    (refine WV_exit ?_; simp only [go_sem, init_env', Nat.reduceEqDiff, Nat.reduceAdd, Nat.reduceMul, reduceIte, Nat.reduceLeDiff, Nat.reduceLT, Nat.reduceBEq, reduceCtorEq])
    (repeat ((first | refine WV_seq_ ?_ | refine WV_block ?_ | refine WV_ops ?_ | refine WV_skip ?_ | refine WV_exit ?_); (try simp only [go_sem, init_env', Nat.reduceEqDiff, Nat.reduceAdd, Nat.reduceMul, reduceIte, Nat.reduceLeDiff, Nat.reduceLT, Nat.reduceBEq, reduceCtorEq, hP, ]); (repeat refine qI ?_)))
    (refine WV_ret ?_; simp only [thenQ, inQ, RetQ, RetOk, resAll, resA]; simp only [go_sem, init_env', Nat.reduceEqDiff, Nat.reduceAdd, Nat.reduceMul, reduceIte, Nat.reduceLeDiff, Nat.reduceLT, Nat.reduceBEq, reduceCtorEq, tupA, AV.port, AV.portL, exists_eq_left', ]; (first | exact AVle.of rfl | refine AVle.of ?_ | skip))
theorem end46 (t : Tray) : FSpec Try.prog 46 [t.av] (.tup [iv (endR t).1, iv (endR t).2]) := by
  have hck := rcheck41 t
  unfold endR pressedE
  cases hok : t.ok
  · simp only [hok, Bool.false_eq_true, if_false] at hck ⊢
    refine FSpec_of c46 (Nat.le_refl _) (by decide) fun C hP hN hC hL => ?_
    simp only [ir46, Tray.av]
    (repeat ((first | refine WV_seq_ ?_ | refine WV_block ?_ | refine WV_ops ?_ | refine WV_skip ?_ | refine WV_exit ?_); (try simp only [go_sem, init_env', Nat.reduceEqDiff, Nat.reduceAdd, Nat.reduceMul, reduceIte, Nat.reduceLeDiff, Nat.reduceLT, Nat.reduceBEq, reduceCtorEq, hP, ]); (repeat refine qI ?_)))
    (refine AS_pure (hck) rfl rfl rfl rfl rfl ?_; simp only [go_sem, init_env', Nat.reduceEqDiff, Nat.reduceAdd, Nat.reduceMul, reduceIte, Nat.reduceLeDiff, Nat.reduceLT, Nat.reduceBEq, reduceCtorEq, hP, Tray.av]; (repeat refine qI ?_); (repeat ((first | refine WV_seq_ ?_ | refine WV_block ?_ | refine WV_ops ?_ | refine WV_skip ?_ | refine WV_exit ?_); (try simp only [go_sem, init_env', Nat.reduceEqDiff, Nat.reduceAdd, Nat.reduceMul, reduceIte, Nat.reduceLeDiff, Nat.reduceLT, Nat.reduceBEq, reduceCtorEq, hP, Tray.av]); (repeat refine qI ?_))))
    (refine WV_cond rfl (fun h => ?_) (fun h => ?_))
    · (repeat ((first | refine WV_seq_ ?_ | refine WV_block ?_ | refine WV_ops ?_ | refine WV_skip ?_ | refine WV_exit ?_); (try simp only [go_sem, init_env', Nat.reduceEqDiff, Nat.reduceAdd, Nat.reduceMul, reduceIte, Nat.reduceLeDiff, Nat.reduceLT, Nat.reduceBEq, reduceCtorEq, hP, ]); (repeat refine qI ?_)))
      (refine WV_ret ?_; simp only [thenQ, inQ, RetQ, RetOk, resAll, resA]; simp only [go_sem, init_env', Nat.reduceEqDiff, Nat.reduceAdd, Nat.reduceMul, reduceIte, Nat.reduceLeDiff, Nat.reduceLT, Nat.reduceBEq, reduceCtorEq, tupA, AV.port, AV.portL, exists_eq_left', ]; (first | exact AVle.of rfl | refine AVle.of ?_ | skip))
    · simp at h
  simp only [hok, if_true] at hck ⊢
  have ht := (Tray.ok_spec hok).1
  have hend := end67 ht
  by_cases hp0 : t.pres.length = 0
  · have hz : ((t.pres.length : Int) == 0) = true := by rw [hp0]; rfl
    rw [if_pos hp0, if_neg (by decide)]
    refine FSpec_of c46 (Nat.le_refl _) (by decide) fun C hP hN hC hL => ?_
    simp only [ir46, Tray.av]
    (repeat ((first | refine WV_seq_ ?_ | refine WV_block ?_ | refine WV_ops ?_ | refine WV_skip ?_ | refine WV_exit ?_); (try simp only [go_sem, init_env', Nat.reduceEqDiff, Nat.reduceAdd, Nat.reduceMul, reduceIte, Nat.reduceLeDiff, Nat.reduceLT, Nat.reduceBEq, reduceCtorEq, hP, ]); (repeat refine qI ?_)))
    (refine AS_pure (hck) rfl rfl rfl rfl rfl ?_; simp only [go_sem, init_env', Nat.reduceEqDiff, Nat.reduceAdd, Nat.reduceMul, reduceIte, Nat.reduceLeDiff, Nat.reduceLT, Nat.reduceBEq, reduceCtorEq, hP, Tray.av]; (repeat refine qI ?_); (repeat ((first | refine WV_seq_ ?_ | refine WV_block ?_ | refine WV_ops ?_ | refine WV_skip ?_ | refine WV_exit ?_); (try simp only [go_sem, init_env', Nat.reduceEqDiff, Nat.reduceAdd, Nat.reduceMul, reduceIte, Nat.reduceLeDiff, Nat.reduceLT, Nat.reduceBEq, reduceCtorEq, hP, Tray.av]); (repeat refine qI ?_))))
    (refine WV_cond rfl (fun h => ?_) (fun h => ?_))
    · simp at h
    (repeat ((first | refine WV_seq_ ?_ | refine WV_block ?_ | refine WV_ops ?_ | refine WV_skip ?_ | refine WV_exit ?_); (try simp only [go_sem, init_env', Nat.reduceEqDiff, Nat.reduceAdd, Nat.reduceMul, reduceIte, Nat.reduceLeDiff, Nat.reduceLT, Nat.reduceBEq, reduceCtorEq, hP, prsC, List.length_map, hz]); (repeat refine qI ?_)))
    (refine WV_cond rfl (fun h => ?_) (fun h => ?_))
    · (repeat ((first | refine WV_seq_ ?_ | refine WV_block ?_ | refine WV_ops ?_ | refine WV_skip ?_ | refine WV_exit ?_); (try simp only [go_sem, init_env', Nat.reduceEqDiff, Nat.reduceAdd, Nat.reduceMul, reduceIte, Nat.reduceLeDiff, Nat.reduceLT, Nat.reduceBEq, reduceCtorEq, hP, ]); (repeat refine qI ?_)))
      (refine WV_ret ?_; simp only [thenQ, inQ, RetQ, RetOk, resAll, resA]; simp only [go_sem, init_env', Nat.reduceEqDiff, Nat.reduceAdd, Nat.reduceMul, reduceIte, Nat.reduceLeDiff, Nat.reduceLT, Nat.reduceBEq, reduceCtorEq, tupA, AV.port, AV.portL, exists_eq_left', ]; (first | exact AVle.of rfl | refine AVle.of ?_ | skip))
    · simp at h
  have hz : ((t.pres.length : Int) == 0) = false := by simp; intro h; rw [h] at hp0; exact hp0 rfl
  rw [if_neg hp0, if_pos rfl]
  refine FSpec_of c46 (Nat.le_refl _) (by decide) fun C hP hN hC hL => ?_
  simp only [ir46, Tray.av]
  (repeat ((first | refine WV_seq_ ?_ | refine WV_block ?_ | refine WV_ops ?_ | refine WV_skip ?_ | refine WV_exit ?_); (try simp only [go_sem, init_env', Nat.reduceEqDiff, Nat.reduceAdd, Nat.reduceMul, reduceIte, Nat.reduceLeDiff, Nat.reduceLT, Nat.reduceBEq, reduceCtorEq, hP, ]); (repeat refine qI ?_)))
  (refine AS_pure (hck) rfl rfl rfl rfl rfl ?_; simp only [go_sem, init_env', Nat.reduceEqDiff, Nat.reduceAdd, Nat.reduceMul, reduceIte, Nat.reduceLeDiff, Nat.reduceLT, Nat.reduceBEq, reduceCtorEq, hP, Tray.av]; (repeat refine qI ?_); (repeat ((first | refine WV_seq_ ?_ | refine WV_block ?_ | refine WV_ops ?_ | refine WV_skip ?_ | refine WV_exit ?_); (try simp only [go_sem, init_env', Nat.reduceEqDiff, Nat.reduceAdd, Nat.reduceMul, reduceIte, Nat.reduceLeDiff, Nat.reduceLT, Nat.reduceBEq, reduceCtorEq, hP, Tray.av]); (repeat refine qI ?_))))
  (refine WV_cond rfl (fun h => ?_) (fun h => ?_))
  · simp at h
  (repeat ((first | refine WV_seq_ ?_ | refine WV_block ?_ | refine WV_ops ?_ | refine WV_skip ?_ | refine WV_exit ?_); (try simp only [go_sem, init_env', Nat.reduceEqDiff, Nat.reduceAdd, Nat.reduceMul, reduceIte, Nat.reduceLeDiff, Nat.reduceLT, Nat.reduceBEq, reduceCtorEq, hP, prsC, List.length_map, hz]); (repeat refine qI ?_)))
  (refine WV_cond rfl (fun h => ?_) (fun h => ?_))
  · simp at h
  (repeat ((first | refine WV_seq_ ?_ | refine WV_block ?_ | refine WV_ops ?_ | refine WV_skip ?_ | refine WV_exit ?_); (try simp only [go_sem, init_env', Nat.reduceEqDiff, Nat.reduceAdd, Nat.reduceMul, reduceIte, Nat.reduceLeDiff, Nat.reduceLT, Nat.reduceBEq, reduceCtorEq, hP, ]); (repeat refine qI ?_)))
  (refine AS_pure (hend) rfl rfl rfl rfl rfl ?_; simp only [go_sem, init_env', Nat.reduceEqDiff, Nat.reduceAdd, Nat.reduceMul, reduceIte, Nat.reduceLeDiff, Nat.reduceLT, Nat.reduceBEq, reduceCtorEq, hP, Tray.av, prsC]; (repeat refine qI ?_); (repeat ((first | refine WV_seq_ ?_ | refine WV_block ?_ | refine WV_ops ?_ | refine WV_skip ?_ | refine WV_exit ?_); (try simp only [go_sem, init_env', Nat.reduceEqDiff, Nat.reduceAdd, Nat.reduceMul, reduceIte, Nat.reduceLeDiff, Nat.reduceLT, Nat.reduceBEq, reduceCtorEq, hP, Tray.av, prsC]); (repeat refine qI ?_))))
  (refine WV_ret ?_; simp only [thenQ, inQ, RetQ, RetOk, resAll, resA]; simp only [go_sem, init_env', Nat.reduceEqDiff, Nat.reduceAdd, Nat.reduceMul, reduceIte, Nat.reduceLeDiff, Nat.reduceLT, Nat.reduceBEq, reduceCtorEq, tupA, AV.port, AV.portL, exists_eq_left', ]; (first | exact AVle.of rfl | refine AVle.of ?_ | skip))
end Go.Proofs.Ytkpgpgaojjobgaa
