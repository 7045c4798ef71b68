/-
  Contracts of functions of package route, of its reference and of the law RouteTimes; conditions: as each theorem states.
-/
import Derived.Test.YtbejgfpaokcnpaaU4
set_option linter.unusedVariables false
set_option linter.unusedSimpArgs false
namespace Go.Proofs.Ytbejgfpaokcnpaa
open Go Go.V
@[reducible] def o67_0 : List Ins := [⟨(some 2), .box 3 (.t 0), none, true⟩,
  ⟨(some 4), .mv (.k (.c (.raw (.slice none 0 0)))), none, true⟩]
@[reducible] def o67_1 : List Ins := [⟨(some 5), .mv (.k (.c (.raw (.slice none 0 0)))), none, true⟩]
@[reducible] def o67_2 : List Ins := [⟨(some 8), .ld false 3 (.t 2), none, true⟩,
  ⟨(some 9), .call (.k (.fn 63 [])) [(.t 8), (.k (.c (.raw (.slice none 0 0))))], none, true⟩,
  ⟨(some 6), .mv (.t 9), none, true⟩]
@[reducible] def o67_3 : List Ins := [⟨(some 7), .mv (.k (.c (.int .i64 0))), none, true⟩]
@[reducible] def o67_4 : List Ins := [⟨(some 10), .mv (.t 7), none, true⟩,
  ⟨(some 11), .mv (.t 6), none, true⟩,
  ⟨(some 12), .len (.t 11), none, true⟩,
  ⟨(some 13), .bin .lss (.t 10) (.t 12), none, true⟩]
@[reducible] def v67_5 : VC := (.cond (.t 13) .skip (.exit 0))
@[reducible] def o67_6 : List Ins := [⟨(some 16), .mv (.t 1), none, true⟩,
  ⟨(some 17), .un .not (.t 16), none, true⟩,
  ⟨(some 18), .mv (.t 17), none, true⟩,
  ⟨(some 19), .mv (.t 6), (some (18, false)), false⟩,
  ⟨(some 20), .mv (.t 7), (some (18, false)), false⟩,
  ⟨(some 21), .ia 1 (.t 19) (.t 20), (some (18, false)), false⟩,
  ⟨(some 22), .ld true 1 (.t 21), (some (18, false)), false⟩,
  ⟨(some 23), .len (.t 22), (some (18, false)), false⟩,
  ⟨(some 24), .fa 0 (.t 2), (some (18, false)), false⟩,
  ⟨(some 25), .ld true 1 (.t 24), (some (18, false)), false⟩,
  ⟨(some 26), .len (.t 25), (some (18, false)), false⟩,
  ⟨(some 27), .bin .eql (.t 23) (.t 26), (some (18, false)), true⟩,
  ⟨(some 28), .pick (.t 18) (.k (.c (.bool true))) (.t 27), none, true⟩,
  ⟨(some 29), .mv (.t 28), none, true⟩,
  ⟨(some 30), .ld false 3 (.t 2), (some (29, true)), false⟩,
  ⟨(some 31), .mv (.t 6), (some (29, true)), false⟩,
  ⟨(some 32), .mv (.t 7), (some (29, true)), false⟩,
  ⟨(some 33), .ia 1 (.t 31) (.t 32), (some (29, true)), false⟩,
  ⟨(some 34), .ld true 1 (.t 33), (some (29, true)), false⟩,
  ⟨(some 35), .call (.k (.fn 24 [])) [(.t 30), (.t 34)], (some (29, true)), true⟩,
  ⟨(some 36), .fld true 1 1 (.t 35), (some (29, true)), true⟩,
  ⟨(some 37), .bin .lss (.t 36) (.k (.c (.int .i64 0))), (some (29, true)), true⟩,
  ⟨(some 38), .pick (.t 29) (.t 37) (.k (.c (.bool false))), none, true⟩]
@[reducible] def o67_7 : List Ins := [⟨(some 39), .mv (.t 5), none, true⟩,
  ⟨(some 40), .mv (.t 6), none, true⟩,
  ⟨(some 41), .mv (.t 7), none, true⟩,
  ⟨(some 42), .ia 1 (.t 40) (.t 41), none, true⟩,
  ⟨(some 43), .ld true 1 (.t 42), none, true⟩,
  ⟨(some 44), .bsl 33 1 [(.t 43)], none, true⟩,
  ⟨(some 45), .app 33 1 24 (.t 39) (.t 44), none, true⟩,
  ⟨(some 5), .mv (.t 45), none, true⟩]
@[reducible] def v67_8 : VC := (.cond (.t 38) (.ops o67_7) .skip)
@[reducible] def v67_9 : VC := (.seq (.ops o67_6) v67_8)
@[reducible] def o67_10 : List Ins := [⟨(some 14), .mv (.t 7), none, true⟩,
  ⟨(some 15), .bin .add (.t 14) (.k (.c (.int .i64 1))), none, true⟩,
  ⟨(some 7), .mv (.t 15), none, true⟩]
@[reducible] def v67_11 : VC := (.seq (.block 1 v67_9) (.ops o67_10))
@[reducible] def v67_12 : VC := (.seq (.seq (.ops o67_4) v67_5) v67_11)
-- K67_1: changed and kept: [7, 5]
@[reducible] def K67_1 : List Nat := [1, 2, 6]
@[reducible] def v67_13 : VC := (.loop v67_12)
@[reducible] def v67_14 : VC := (.block 0 v67_13)
@[reducible] def o67_15 : List Ins := [⟨(some 46), .mv (.t 5), none, true⟩,
  ⟨(some 4), .mv (.t 46), none, true⟩]
@[reducible] def v67_16 : VC := (.seq (.ops o67_15) .ret)
@[reducible] def v67_17 : VC := (.seq (.seq (.ops o67_3) v67_14) v67_16)
@[reducible] def v67_18 : VC := (.seq (.ops o67_2) v67_17)
@[reducible] def v67_19 : VC := (.seq (.ops o67_1) v67_18)
def ir67 : FC := ⟨2, 47, [.t 4], (.seq (.ops o67_0) v67_19)⟩
theorem c67 : compM Try.prog [] 67 = some ir67 := by kernel_rfl



theorem toursR_ok {n : Nat} : ∀ (f : Nat) (t : List Nat), t.Nodup → (∀ k ∈ t, k < n) → ∀ p ∈ toursR n f t, p.Nodup ∧ (∀ k ∈ p, k < n)
  | 0, t, h1, h2, p, hp => by simp only [toursR, List.mem_singleton] at hp; subst hp; exact ⟨h1, h2⟩
  | f + 1, t, h1, h2, p, hp => by
    simp only [toursR, List.mem_cons, List.mem_flatMap, List.mem_range] at hp
    rcases hp with rfl | ⟨k, hk, hp⟩
    · exact ⟨h1, h2⟩
    · split at hp
      · cases hp
      · rename_i hnk
        refine toursR_ok f (t ++ [k]) ?_ ?_ p hp
        · rw [List.nodup_append]
          exact ⟨h1, by simp, fun a ha b hb => by simp at hb; subst hb; rintro rfl; exact hnk ha⟩
        · intro j hj
          rcases List.mem_append.1 hj with hj | hj
          · exact h2 j hj
          · simp at hj; omega
def allR (r : Route) : List (List Nat) := toursR r.n (r.n + 1) []
theorem allR_ok {r : Route} : ∀ p ∈ allR r, p.Nodup ∧ (∀ k ∈ p, k < r.n) := toursR_ok _ _ List.nodup_nil (by simp)
theorem allR_len {r : Route} {p : List Nat} (hp : p ∈ allR r) : p.length ≤ r.n := tour_len (allR_ok p hp).1 (allR_ok p hp).2
theorem allR_count {r : Route} (hn : r.n ≤ 7) : (allR r).length ≤ 16777216 := by
  refine Nat.le_trans (toursR_count hn _ _) ?_
  exact Nat.le_trans (Nat.pow_le_pow_right (by decide) (show r.n + 1 ≤ 8 by omega)) (by decide)
def ridden (r : Route) (t : List Nat) : Bool := (ride r (leave r) t).2.1.isNone
def goodP (r : Route) (w : Bool) (t : List Nat) : Bool := (!w || t.length == r.n) && ridden r t
def goodR (r : Route) (w : Bool) : List (List Nat) := (allR r).filter (goodP r w)
theorem goS_neg (r : Route) (t : List Nat) : decide ((goS r t).2.1 < 0) = ridden r t := by
  unfold goS ridden
  generalize ride r (leave r) t = x
  obtain ⟨ts, m, v⟩ := x
  cases m with
  | none => rfl
  | some k => simp <;> omega
theorem natss_getD {l : List (List Nat)} {k : Nat} (h : k < l.length) (d : List CD) : (natss l).getD k d = [nats l[k]] := by simp [natss, h]
theorem natss_app (l m : List (List Nat)) : natss (l ++ m) = natss l ++ natss m := by simp [natss]
theorem rtours0 {r : Route} (hn7 : r.n ≤ 7) : FSpec Try.prog 63 [r.av, .c (.raw (.slice none 0 0))] (.c (.sl 1 (natss (allR r)))) :=
  (rtours63 hn7 (r.n + 1) [] (by simp) List.nodup_nil (by simp)).le (AVles.cons (AVle.refl _) (AVles.cons (AVle.nil 1) (AVles.refl _))) (AVle.refl _)

set_option maxHeartbeats 4000000 in
theorem good67 {r : Route} (hr : RouteOk r) (w : Bool) : FSpec Try.prog 67 [r.av, .c (.bool w)] (.c (.sl 1 (natss (goodR r w)))) := by
  have hn7 := hr.n7
  have hsl : (r.stops.length : Int) = (r.n : Int) := rfl
  have hmax : maxLen = 9223372036854775807 := rfl
  have hall := allR_count hn7
  refine FSpec_of c67 (Nat.le_refl _) (by decide) fun C hP hN hC hL => ?_
  simp only [ir67, Route.av]
  (repeat ((first | refine WV_seq_ ?_ | refine WV_block ?_ | refine WV_ops ?_ | refine WV_skip ?_ | refine WV_exit ?_); (try simp only [go_sem, init_env', Nat.reduceEqDiff, Nat.reduceAdd, Nat.reduceMul, reduceIte, Nat.reduceLeDiff, Nat.reduceLT, Nat.reduceBEq, reduceCtorEq, hP, ]); (repeat (refine And.intro (by first | omega | (intros; simp_all; done) | (intros; simp_all; omega)) ?_))))
  (refine AS_pure (rtours0 hn7) rfl rfl rfl rfl rfl ?_; simp only [go_sem, init_env', Nat.reduceEqDiff, Nat.reduceAdd, Nat.reduceMul, reduceIte, Nat.reduceLeDiff, Nat.reduceLT, Nat.reduceBEq, reduceCtorEq, hP, Route.av]; (repeat (refine And.intro (by first | omega | (intros; simp_all; done) | (intros; simp_all; omega)) ?_)); (repeat ((first | refine WV_seq_ ?_ | refine WV_block ?_ | refine WV_ops ?_ | refine WV_skip ?_ | refine WV_exit ?_); (try simp only [go_sem, init_env', Nat.reduceEqDiff, Nat.reduceAdd, Nat.reduceMul, reduceIte, Nat.reduceLeDiff, Nat.reduceLT, Nat.reduceBEq, reduceCtorEq, hP, Route.av]); (repeat (refine And.intro (by first | omega | (intros; simp_all; done) | (intros; simp_all; omega)) ?_)))))
  refine WV_nilslot 5 45 33 1 (by decide) (by decide) rfl rfl ?_
  simp only [go_sem, init_env', Nat.reduceEqDiff, Nat.reduceAdd, Nat.reduceMul, reduceIte, Nat.reduceLeDiff, Nat.reduceLT, Nat.reduceBEq, reduceCtorEq]
  refine WV_loopK K67_1 [45] (fun k : Nat => k ≤ (allR r).length) (fun k => (allR r).length - k) (fun k => [(7, iv k), (5, .gr 45)]) (fun k => [(45, .grow 33 1 (natss (((allR r).take k).filter (goodP r w))))]) 0 (Nat.zero_le _) ?_ ?_
  · (refine Sub_of (by simp only [go_sem, init_env', Nat.reduceEqDiff, Nat.reduceAdd, Nat.reduceMul, reduceIte, Nat.reduceLeDiff, Nat.reduceLT, Nat.reduceBEq, reduceCtorEq]; ((repeat' (first | exact EnvLe_e0 _ _ | refine EnvLe_upd ?_ ?_)) <;> ((try simp only [upd_app, e0_app, o0_app, Nat.reduceEqDiff, reduceIte]); first | exact AWk.refl _ _ | exact AWk.int (by omega) | exact AWk.int (by rw [w64 (by omega) (by omega)]; omega) | exact AWk.grow rfl | exact AWk.nil _ | exact AWk.of (by simp)))) (by simp only [go_sem, init_env', Nat.reduceEqDiff, Nat.reduceAdd, Nat.reduceMul, reduceIte, Nat.reduceLeDiff, Nat.reduceLT, Nat.reduceBEq, reduceCtorEq]; ((repeat' (first | exact ObjLe_o0 _ | exact ObjLe.rfl' _ | refine ObjLe_same ?_ | refine ObjLe_upd ?_ ?_ | refine ObjLe_new rfl ?_)) <;> rfl)))
  · intro k hk
    have hfl : (((allR r).take k).filter (goodP r w)).length ≤ 16777216 := by
      refine Nat.le_trans (List.length_filter_le _ _) ?_
      rw [List.length_take]; omega
    simp only [go_sem, init_env', Nat.reduceEqDiff, Nat.reduceAdd, Nat.reduceMul, reduceIte, Nat.reduceLeDiff, Nat.reduceLT, Nat.reduceBEq, reduceCtorEq]
    (repeat ((first | refine WV_seq_ ?_ | refine WV_block ?_ | refine WV_ops ?_ | refine WV_skip ?_ | refine WV_exit ?_); (try simp only [go_sem, init_env', Nat.reduceEqDiff, Nat.reduceAdd, Nat.reduceMul, reduceIte, Nat.reduceLeDiff, Nat.reduceLT, Nat.reduceBEq, reduceCtorEq, hP, natss_len]); (repeat (refine And.intro (by first | omega | (intros; simp_all; done) | (intros; simp_all; omega)) ?_))))
    (refine WV_cond rfl (fun h => ?_) (fun h => ?_))
    · have h : k < (allR r).length := by simpa using h
      have hpo := allR_ok _ (List.getElem_mem h)
      have hpl := allR_len (List.getElem_mem h)
      have hgo := go24 hr hpo.2 (by omega)
      have hw2 := w64 (n := (k : Int) + 1) (by omega) (by omega)
      have hneg := goS_neg r (allR r)[k]
      have htake : ((allR r).take (k + 1)).filter (goodP r w) = ((allR r).take k).filter (goodP r w) ++ (if goodP r w (allR r)[k] then [(allR r)[k]] else []) := by
        rw [List.take_succ_eq_append_getElem h, List.filter_append, List.filter_cons, List.filter_nil]
      generalize hT : (allR r)[k] = t at *
      cases w
      · have hgd : goodP r false t = ridden r t := by simp [goodP]
        (repeat ((first | refine WV_seq_ ?_ | refine WV_block ?_ | refine WV_ops ?_ | refine WV_skip ?_ | refine WV_exit ?_); (try simp only [go_sem, init_env', Nat.reduceEqDiff, Nat.reduceAdd, Nat.reduceMul, reduceIte, Nat.reduceLeDiff, Nat.reduceLT, Nat.reduceBEq, reduceCtorEq, hP, Int.toNat_natCast, natss_getD h, hT, natss_len, stopsC, List.length_map, Int.ofNat_lt, h, Int.natCast_nonneg]); (repeat (refine And.intro (by first | omega | (intros; simp_all; done) | (intros; simp_all; omega)) ?_))))
        refine AG_pure (fun hG => hgo) rfl (fun hG => by simp only [go_sem, init_env', Nat.reduceEqDiff, Nat.reduceAdd, Nat.reduceMul, reduceIte, Nat.reduceLeDiff, Nat.reduceLT, Nat.reduceBEq, reduceCtorEq, hG]) rfl rfl rfl ?_
        simp only [go_sem, init_env', Nat.reduceEqDiff, Nat.reduceAdd, Nat.reduceMul, reduceIte, Nat.reduceLeDiff, Nat.reduceLT, Nat.reduceBEq, reduceCtorEq, hP, goC, hneg]
        (repeat (refine And.intro (by first | omega | (intros; simp_all; done) | (intros; simp_all; omega)) ?_))
        (repeat ((first | refine WV_seq_ ?_ | refine WV_block ?_ | refine WV_ops ?_ | refine WV_skip ?_ | refine WV_exit ?_); (try simp only [go_sem, init_env', Nat.reduceEqDiff, Nat.reduceAdd, Nat.reduceMul, reduceIte, Nat.reduceLeDiff, Nat.reduceLT, Nat.reduceBEq, reduceCtorEq, hP, ]); (repeat (refine And.intro (by first | omega | (intros; simp_all; done) | (intros; simp_all; omega)) ?_))))
        (refine WV_cond rfl (fun h => ?_) (fun h => ?_))
        · rename_i hk0
          rw [hgd, if_pos (by assumption)] at htake
          (repeat ((first | refine WV_seq_ ?_ | refine WV_block ?_ | refine WV_ops ?_ | refine WV_skip ?_ | refine WV_exit ?_); (try simp only [go_sem, init_env', Nat.reduceEqDiff, Nat.reduceAdd, Nat.reduceMul, reduceIte, Nat.reduceLeDiff, Nat.reduceLT, Nat.reduceBEq, reduceCtorEq, hP, Int.toNat_natCast, natss_getD hk0, hT, natss_len, stopsC, List.length_map, Int.ofNat_lt, hk0, Int.natCast_nonneg, hw2]); (repeat (refine And.intro (by first | omega | (intros; simp_all; done) | (intros; simp_all; omega)) ?_))))
          refine ⟨k + 1, by omega, by omega, ?_⟩
          rw [htake, natss_app]
          (refine Sub_of (by simp only [go_sem, init_env', Nat.reduceEqDiff, Nat.reduceAdd, Nat.reduceMul, reduceIte, Nat.reduceLeDiff, Nat.reduceLT, Nat.reduceBEq, reduceCtorEq]; ((repeat' (first | exact EnvLe_e0 _ _ | refine EnvLe_upd ?_ ?_)) <;> ((try simp only [upd_app, e0_app, o0_app, Nat.reduceEqDiff, reduceIte]); first | exact AWk.refl _ _ | exact AWk.int (by omega) | exact AWk.int (by rw [w64 (by omega) (by omega)]; omega) | exact AWk.grow rfl | exact AWk.nil _ | exact AWk.of (by simp)))) (by simp only [go_sem, init_env', Nat.reduceEqDiff, Nat.reduceAdd, Nat.reduceMul, reduceIte, Nat.reduceLeDiff, Nat.reduceLT, Nat.reduceBEq, reduceCtorEq]; ((repeat' (first | exact ObjLe_o0 _ | exact ObjLe.rfl' _ | refine ObjLe_same ?_ | refine ObjLe_upd ?_ ?_ | refine ObjLe_new rfl ?_)) <;> rfl)))
        · rename_i hk0
          rw [hgd, if_neg (by rw [h]; simp), List.append_nil] at htake
          (repeat ((first | refine WV_seq_ ?_ | refine WV_block ?_ | refine WV_ops ?_ | refine WV_skip ?_ | refine WV_exit ?_); (try simp only [go_sem, init_env', Nat.reduceEqDiff, Nat.reduceAdd, Nat.reduceMul, reduceIte, Nat.reduceLeDiff, Nat.reduceLT, Nat.reduceBEq, reduceCtorEq, hP, hw2]); (repeat (refine And.intro (by first | omega | (intros; simp_all; done) | (intros; simp_all; omega)) ?_))))
          refine ⟨k + 1, by omega, by omega, ?_⟩
          rw [htake]
          (refine Sub_of (by simp only [go_sem, init_env', Nat.reduceEqDiff, Nat.reduceAdd, Nat.reduceMul, reduceIte, Nat.reduceLeDiff, Nat.reduceLT, Nat.reduceBEq, reduceCtorEq]; ((repeat' (first | exact EnvLe_e0 _ _ | refine EnvLe_upd ?_ ?_)) <;> ((try simp only [upd_app, e0_app, o0_app, Nat.reduceEqDiff, reduceIte]); first | exact AWk.refl _ _ | exact AWk.int (by omega) | exact AWk.int (by rw [w64 (by omega) (by omega)]; omega) | exact AWk.grow rfl | exact AWk.nil _ | exact AWk.of (by simp)))) (by simp only [go_sem, init_env', Nat.reduceEqDiff, Nat.reduceAdd, Nat.reduceMul, reduceIte, Nat.reduceLeDiff, Nat.reduceLT, Nat.reduceBEq, reduceCtorEq]; ((repeat' (first | exact ObjLe_o0 _ | exact ObjLe.rfl' _ | refine ObjLe_same ?_ | refine ObjLe_upd ?_ ?_ | refine ObjLe_new rfl ?_)) <;> rfl)))
      · have hgd : goodP r true t = ((t.length == r.n) && ridden r t) := by simp [goodP]
        have hle : ((t.length : Int) == (r.stops.length : Int)) = (t.length == r.n) := by rw [ibeq]; rfl
        (repeat ((first | refine WV_seq_ ?_ | refine WV_block ?_ | refine WV_ops ?_ | refine WV_skip ?_ | refine WV_exit ?_); (try simp only [go_sem, init_env', Nat.reduceEqDiff, Nat.reduceAdd, Nat.reduceMul, reduceIte, Nat.reduceLeDiff, Nat.reduceLT, Nat.reduceBEq, reduceCtorEq, hP, Int.toNat_natCast, natss_getD h, hT, natss_len, nats, ints, stopsC, List.length_map, Int.ofNat_lt, h, Int.natCast_nonneg, hle]); (repeat (refine And.intro (by first | omega | (intros; simp_all; done) | (intros; simp_all; omega)) ?_))))
        refine AG_pure (fun hG => hgo) rfl (fun hG => by simp only [go_sem, init_env', Nat.reduceEqDiff, Nat.reduceAdd, Nat.reduceMul, reduceIte, Nat.reduceLeDiff, Nat.reduceLT, Nat.reduceBEq, reduceCtorEq, hG]) rfl rfl rfl ?_
        simp only [go_sem, init_env', Nat.reduceEqDiff, Nat.reduceAdd, Nat.reduceMul, reduceIte, Nat.reduceLeDiff, Nat.reduceLT, Nat.reduceBEq, reduceCtorEq, hP, goC, hneg]
        (repeat ((first | refine WV_seq_ ?_ | refine WV_block ?_ | refine WV_ops ?_ | refine WV_skip ?_ | refine WV_exit ?_); (try simp only [go_sem, init_env', Nat.reduceEqDiff, Nat.reduceAdd, Nat.reduceMul, reduceIte, Nat.reduceLeDiff, Nat.reduceLT, Nat.reduceBEq, reduceCtorEq, hP, ]); (repeat (refine And.intro (by first | omega | (intros; simp_all; done) | (intros; simp_all; omega)) ?_))))
        (refine WV_cond rfl (fun h => ?_) (fun h => ?_))
        · rename_i hk0
          rw [hgd, if_pos (by assumption)] at htake
          (repeat ((first | refine WV_seq_ ?_ | refine WV_block ?_ | refine WV_ops ?_ | refine WV_skip ?_ | refine WV_exit ?_); (try simp only [go_sem, init_env', Nat.reduceEqDiff, Nat.reduceAdd, Nat.reduceMul, reduceIte, Nat.reduceLeDiff, Nat.reduceLT, Nat.reduceBEq, reduceCtorEq, hP, Int.toNat_natCast, natss_getD hk0, hT, natss_len, stopsC, List.length_map, Int.ofNat_lt, hk0, Int.natCast_nonneg, hw2]); (repeat (refine And.intro (by first | omega | (intros; simp_all; done) | (intros; simp_all; omega)) ?_))))
          refine ⟨k + 1, by omega, by omega, ?_⟩
          rw [htake, natss_app]
          (refine Sub_of (by simp only [go_sem, init_env', Nat.reduceEqDiff, Nat.reduceAdd, Nat.reduceMul, reduceIte, Nat.reduceLeDiff, Nat.reduceLT, Nat.reduceBEq, reduceCtorEq]; ((repeat' (first | exact EnvLe_e0 _ _ | refine EnvLe_upd ?_ ?_)) <;> ((try simp only [upd_app, e0_app, o0_app, Nat.reduceEqDiff, reduceIte]); first | exact AWk.refl _ _ | exact AWk.int (by omega) | exact AWk.int (by rw [w64 (by omega) (by omega)]; omega) | exact AWk.grow rfl | exact AWk.nil _ | exact AWk.of (by simp)))) (by simp only [go_sem, init_env', Nat.reduceEqDiff, Nat.reduceAdd, Nat.reduceMul, reduceIte, Nat.reduceLeDiff, Nat.reduceLT, Nat.reduceBEq, reduceCtorEq]; ((repeat' (first | exact ObjLe_o0 _ | exact ObjLe.rfl' _ | refine ObjLe_same ?_ | refine ObjLe_upd ?_ ?_ | refine ObjLe_new rfl ?_)) <;> rfl)))
        · rename_i hk0
          rw [hgd, if_neg (by rw [h]; simp), List.append_nil] at htake
          (repeat ((first | refine WV_seq_ ?_ | refine WV_block ?_ | refine WV_ops ?_ | refine WV_skip ?_ | refine WV_exit ?_); (try simp only [go_sem, init_env', Nat.reduceEqDiff, Nat.reduceAdd, Nat.reduceMul, reduceIte, Nat.reduceLeDiff, Nat.reduceLT, Nat.reduceBEq, reduceCtorEq, hP, hw2]); (repeat (refine And.intro (by first | omega | (intros; simp_all; done) | (intros; simp_all; omega)) ?_))))
          refine ⟨k + 1, by omega, by omega, ?_⟩
          rw [htake]
          (refine Sub_of (by simp only [go_sem, init_env', Nat.reduceEqDiff, Nat.reduceAdd, Nat.reduceMul, reduceIte, Nat.reduceLeDiff, Nat.reduceLT, Nat.reduceBEq, reduceCtorEq]; ((repeat' (first | exact EnvLe_e0 _ _ | refine EnvLe_upd ?_ ?_)) <;> ((try simp only [upd_app, e0_app, o0_app, Nat.reduceEqDiff, reduceIte]); first | exact AWk.refl _ _ | exact AWk.int (by omega) | exact AWk.int (by rw [w64 (by omega) (by omega)]; omega) | exact AWk.grow rfl | exact AWk.nil _ | exact AWk.of (by simp)))) (by simp only [go_sem, init_env', Nat.reduceEqDiff, Nat.reduceAdd, Nat.reduceMul, reduceIte, Nat.reduceLeDiff, Nat.reduceLT, Nat.reduceBEq, reduceCtorEq]; ((repeat' (first | exact ObjLe_o0 _ | exact ObjLe.rfl' _ | refine ObjLe_same ?_ | refine ObjLe_upd ?_ ?_ | refine ObjLe_new rfl ?_)) <;> rfl)))
    · have h : k = (allR r).length := by simp at h; omega
      subst h
      rw [List.take_length]
      (repeat ((first | refine WV_seq_ ?_ | refine WV_block ?_ | refine WV_ops ?_ | refine WV_skip ?_ | refine WV_exit ?_); (try simp only [go_sem, init_env', Nat.reduceEqDiff, Nat.reduceAdd, Nat.reduceMul, reduceIte, Nat.reduceLeDiff, Nat.reduceLT, Nat.reduceBEq, reduceCtorEq, hP, ]); (repeat (refine And.intro (by first | omega | (intros; simp_all; done) | (intros; simp_all; omega)) ?_))))
      (refine WV_ret ?_; simp only [thenQ, inQ, RetQ, RetOk, resAll, resA]; simp only [go_sem, init_env', Nat.reduceEqDiff, Nat.reduceAdd, Nat.reduceMul, reduceIte, Nat.reduceLeDiff, Nat.reduceLT, Nat.reduceBEq, reduceCtorEq, tupA, AV.port, AV.portL, exists_eq_left', ]; (first | exact AVle.of rfl | refine AVle.of ?_ | skip))
end Go.Proofs.Ytbejgfpaokcnpaa

namespace Go.Proofs.Ytbejgfpaokcnpaa
open Go Go.V
@[reducible] def o54_0 : List Ins := [⟨(some 1), .box 3 (.t 0), none, true⟩,
  ⟨(some 2), .mv (.k (.c (.raw (.slice none 0 0)))), none, true⟩,
  ⟨(some 3), .mv (.k (.c (.int .i64 0))), none, true⟩]
@[reducible] def o54_1 : List Ins := [⟨(some 6), .ld false 3 (.t 1), none, true⟩,
  ⟨(some 7), .call (.k (.fn 27 [])) [(.t 6)], none, true⟩,
  ⟨(some 4), .mv (.t 7), none, true⟩]
@[reducible] def o54_2 : List Ins := [⟨(some 8), .mv (.t 4), none, true⟩,
  ⟨(some 9), .bin .neq (.t 8) (.k (.c (.int .i64 0))), none, true⟩]
@[reducible] def o54_3 : List Ins := [⟨(some 10), .mv (.t 4), none, true⟩,
  ⟨(some 2), .mv (.k (.c (.raw (.slice none 0 0)))), none, true⟩,
  ⟨(some 3), .mv (.t 10), none, true⟩]
@[reducible] def v54_4 : VC := (.seq (.ops o54_3) .ret)
@[reducible] def v54_5 : VC := (.cond (.t 9) v54_4 .skip)
@[reducible] def v54_6 : VC := (.seq (.ops o54_2) v54_5)
@[reducible] def o54_7 : List Ins := [⟨(some 11), .ld false 3 (.t 1), none, true⟩,
  ⟨(some 12), .call (.k (.fn 67 [])) [(.t 11), (.k (.c (.bool true)))], none, true⟩,
  ⟨(some 5), .mv (.t 12), none, true⟩]
@[reducible] def o54_8 : List Ins := [⟨(some 13), .mv (.t 5), none, true⟩,
  ⟨(some 14), .len (.t 13), none, true⟩,
  ⟨(some 15), .bin .eql (.t 14) (.k (.c (.int .i64 0))), none, true⟩]
@[reducible] def o54_9 : List Ins := [⟨(some 2), .mv (.k (.c (.raw (.slice none 0 0)))), none, true⟩,
  ⟨(some 3), .mv (.k (.c (.int .i64 3))), none, true⟩]
@[reducible] def v54_10 : VC := (.seq (.ops o54_9) .ret)
@[reducible] def v54_11 : VC := (.cond (.t 15) v54_10 .skip)
@[reducible] def o54_12 : List Ins := [⟨(some 16), .mv (.t 5), none, true⟩,
  ⟨(some 2), .mv (.t 16), none, true⟩,
  ⟨(some 3), .mv (.k (.c (.int .i64 0))), none, true⟩]
@[reducible] def v54_13 : VC := (.seq (.ops o54_12) .ret)
@[reducible] def v54_14 : VC := (.seq (.seq (.ops o54_8) v54_11) v54_13)
@[reducible] def v54_15 : VC := (.seq (.ops o54_7) v54_14)
@[reducible] def v54_16 : VC := (.seq (.seq (.ops o54_1) v54_6) v54_15)
def ir54 : FC := ⟨1, 17, [.t 2, .t 3], (.seq (.ops o54_0) v54_16)⟩
@[reducible] def o36_0 : List Ins := [⟨(some 1), .box 3 (.t 0), none, true⟩,
  ⟨(some 2), .mv (.k (.c (.int .i64 0))), none, true⟩,
  ⟨(some 3), .mv (.k (.c (.int .i64 0))), none, true⟩]
@[reducible] def o36_1 : List Ins := [⟨(some 9), .ld false 3 (.t 1), none, true⟩,
  ⟨(some 10), .call (.k (.fn 54 [])) [(.t 9)], none, true⟩,
  ⟨(some 8), .mv (.t 10), none, true⟩,
  ⟨(some 11), .ext (.t 8) 0, none, true⟩,
  ⟨(some 12), .ext (.t 8) 1, none, true⟩,
  ⟨(some 4), .mv (.t 11), none, true⟩,
  ⟨(some 5), .mv (.t 12), none, true⟩]
@[reducible] def o36_2 : List Ins := [⟨(some 13), .mv (.t 5), none, true⟩,
  ⟨(some 14), .bin .neq (.t 13) (.k (.c (.int .i64 0))), none, true⟩]
@[reducible] def o36_3 : List Ins := [⟨(some 15), .mv (.t 5), none, true⟩,
  ⟨(some 2), .mv (.k (.c (.int .i64 0))), none, true⟩,
  ⟨(some 3), .mv (.t 15), none, true⟩]
@[reducible] def v36_4 : VC := (.seq (.ops o36_3) .ret)
@[reducible] def v36_5 : VC := (.cond (.t 14) v36_4 .skip)
@[reducible] def o36_6 : List Ins := [⟨(some 16), .ld false 3 (.t 1), none, false⟩,
  ⟨(some 17), .mv (.t 4), none, false⟩,
  ⟨(some 18), .ia 1 (.t 17) (.k (.c (.int .i64 0))), none, false⟩,
  ⟨(some 19), .ld true 1 (.t 18), none, false⟩,
  ⟨(some 20), .call (.k (.fn 24 [])) [(.t 16), (.t 19)], none, true⟩,
  ⟨(some 21), .fld true 1 2 (.t 20), none, true⟩,
  ⟨(some 6), .mv (.t 21), none, true⟩]
@[reducible] def o36_7 : List Ins := [⟨(some 7), .mv (.k (.c (.int .i64 0))), none, true⟩]
@[reducible] def o36_8 : List Ins := [⟨(some 22), .mv (.t 7), none, true⟩,
  ⟨(some 23), .mv (.t 4), none, true⟩,
  ⟨(some 24), .len (.t 23), none, true⟩,
  ⟨(some 25), .bin .lss (.t 22) (.t 24), none, true⟩]
@[reducible] def v36_9 : VC := (.cond (.t 25) .skip (.exit 0))
@[reducible] def o36_10 : List Ins := [⟨(some 28), .mv (.t 6), none, false⟩,
  ⟨(some 29), .ld false 3 (.t 1), none, false⟩,
  ⟨(some 30), .mv (.t 4), none, false⟩,
  ⟨(some 31), .mv (.t 7), none, false⟩,
  ⟨(some 32), .ia 1 (.t 30) (.t 31), none, false⟩,
  ⟨(some 33), .ld true 1 (.t 32), none, false⟩,
  ⟨(some 34), .call (.k (.fn 24 [])) [(.t 29), (.t 33)], none, false⟩,
  ⟨(some 35), .fld true 1 2 (.t 34), none, false⟩,
  ⟨(some 36), .mm false (.t 28) (.t 35), none, true⟩,
  ⟨(some 6), .mv (.t 36), none, true⟩]
@[reducible] def o36_11 : List Ins := [⟨(some 26), .mv (.t 7), none, true⟩,
  ⟨(some 27), .bin .add (.t 26) (.k (.c (.int .i64 1))), none, true⟩,
  ⟨(some 7), .mv (.t 27), none, true⟩]
@[reducible] def v36_12 : VC := (.seq (.block 1 (.ops o36_10)) (.ops o36_11))
@[reducible] def v36_13 : VC := (.seq (.seq (.ops o36_8) v36_9) v36_12)
-- K36_1: changed and kept: [7, 6]
@[reducible] def K36_1 : List Nat := [1, 4]
@[reducible] def v36_14 : VC := (.loop v36_13)
@[reducible] def v36_15 : VC := (.block 0 v36_14)
@[reducible] def o36_16 : List Ins := [⟨(some 37), .mv (.t 6), none, true⟩,
  ⟨(some 2), .mv (.t 37), none, true⟩,
  ⟨(some 3), .mv (.k (.c (.int .i64 0))), none, true⟩]
@[reducible] def v36_17 : VC := (.seq (.ops o36_16) .ret)
@[reducible] def v36_18 : VC := (.seq (.seq (.ops o36_7) v36_15) v36_17)
@[reducible] def v36_19 : VC := (.seq (.ops o36_6) v36_18)
@[reducible] def v36_20 : VC := (.seq (.seq (.ops o36_2) v36_5) v36_19)
@[reducible] def v36_21 : VC := (.seq (.ops o36_1) v36_20)
def ir36 : FC := ⟨1, 38, [.t 2, .t 3], (.seq (.ops o36_0) v36_21)⟩
@[reducible] def o21_0 : List Ins := [⟨(some 1), .box 3 (.t 0), none, true⟩,
  ⟨(some 2), .mv (.k (.c (.int .i64 0))), none, true⟩,
  ⟨(some 3), .mv (.k (.c (.int .i64 0))), none, true⟩]
@[reducible] def o21_1 : List Ins := [⟨(some 9), .ld false 3 (.t 1), none, true⟩,
  ⟨(some 10), .call (.k (.fn 54 [])) [(.t 9)], none, true⟩,
  ⟨(some 8), .mv (.t 10), none, true⟩,
  ⟨(some 11), .ext (.t 8) 0, none, true⟩,
  ⟨(some 12), .ext (.t 8) 1, none, true⟩,
  ⟨(some 4), .mv (.t 11), none, true⟩,
  ⟨(some 5), .mv (.t 12), none, true⟩]
@[reducible] def o21_2 : List Ins := [⟨(some 13), .mv (.t 5), none, true⟩,
  ⟨(some 14), .bin .neq (.t 13) (.k (.c (.int .i64 0))), none, true⟩]
@[reducible] def o21_3 : List Ins := [⟨(some 15), .mv (.t 5), none, true⟩,
  ⟨(some 2), .mv (.k (.c (.int .i64 0))), none, true⟩,
  ⟨(some 3), .mv (.t 15), none, true⟩]
@[reducible] def v21_4 : VC := (.seq (.ops o21_3) .ret)
@[reducible] def v21_5 : VC := (.cond (.t 14) v21_4 .skip)
@[reducible] def o21_6 : List Ins := [⟨(some 16), .ld false 3 (.t 1), none, false⟩,
  ⟨(some 17), .mv (.t 4), none, false⟩,
  ⟨(some 18), .ia 1 (.t 17) (.k (.c (.int .i64 0))), none, false⟩,
  ⟨(some 19), .ld true 1 (.t 18), none, false⟩,
  ⟨(some 20), .call (.k (.fn 25 [])) [(.t 16), (.t 19)], none, true⟩,
  ⟨(some 6), .mv (.t 20), none, true⟩]
@[reducible] def o21_7 : List Ins := [⟨(some 7), .mv (.k (.c (.int .i64 0))), none, true⟩]
@[reducible] def o21_8 : List Ins := [⟨(some 21), .mv (.t 7), none, true⟩,
  ⟨(some 22), .mv (.t 4), none, true⟩,
  ⟨(some 23), .len (.t 22), none, true⟩,
  ⟨(some 24), .bin .lss (.t 21) (.t 23), none, true⟩]
@[reducible] def v21_9 : VC := (.cond (.t 24) .skip (.exit 0))
@[reducible] def o21_10 : List Ins := [⟨(some 27), .mv (.t 6), none, false⟩,
  ⟨(some 28), .ld false 3 (.t 1), none, false⟩,
  ⟨(some 29), .mv (.t 4), none, false⟩,
  ⟨(some 30), .mv (.t 7), none, false⟩,
  ⟨(some 31), .ia 1 (.t 29) (.t 30), none, false⟩,
  ⟨(some 32), .ld true 1 (.t 31), none, false⟩,
  ⟨(some 33), .call (.k (.fn 25 [])) [(.t 28), (.t 32)], none, false⟩,
  ⟨(some 34), .mm false (.t 27) (.t 33), none, true⟩,
  ⟨(some 6), .mv (.t 34), none, true⟩]
@[reducible] def o21_11 : List Ins := [⟨(some 25), .mv (.t 7), none, true⟩,
  ⟨(some 26), .bin .add (.t 25) (.k (.c (.int .i64 1))), none, true⟩,
  ⟨(some 7), .mv (.t 26), none, true⟩]
@[reducible] def v21_12 : VC := (.seq (.block 1 (.ops o21_10)) (.ops o21_11))
@[reducible] def v21_13 : VC := (.seq (.seq (.ops o21_8) v21_9) v21_12)
-- K21_1: changed and kept: [7, 6]
@[reducible] def K21_1 : List Nat := [1, 4]
@[reducible] def v21_14 : VC := (.loop v21_13)
@[reducible] def v21_15 : VC := (.block 0 v21_14)
@[reducible] def o21_16 : List Ins := [⟨(some 35), .mv (.t 6), none, true⟩,
  ⟨(some 2), .mv (.t 35), none, true⟩,
  ⟨(some 3), .mv (.k (.c (.int .i64 0))), none, true⟩]
@[reducible] def v21_17 : VC := (.seq (.ops o21_16) .ret)
@[reducible] def v21_18 : VC := (.seq (.seq (.ops o21_7) v21_15) v21_17)
@[reducible] def v21_19 : VC := (.seq (.ops o21_6) v21_18)
@[reducible] def v21_20 : VC := (.seq (.seq (.ops o21_2) v21_5) v21_19)
@[reducible] def v21_21 : VC := (.seq (.ops o21_1) v21_20)
def ir21 : FC := ⟨1, 36, [.t 2, .t 3], (.seq (.ops o21_0) v21_21)⟩
theorem c54 : compM Try.prog [] 54 = some ir54 := by kernel_rfl
theorem c36 : compM Try.prog [] 36 = some ir36 := by kernel_rfl
theorem c21 : compM Try.prog [] 21 = some ir21 := by kernel_rfl



def wholesL (r : Route) : List (List Nat) := if r.ok then goodR r true else []
def errR (r : Route) : Int := if r.ok then (if goodR r true = [] then 3 else 0) else 80
theorem errR_eq {r : Route} (h : errR r = 0) : RouteOk r ∧ wholesL r = goodR r true ∧ 0 < (goodR r true).length := by
  unfold errR at h
  cases hk : r.ok with
  | false => rw [hk] at h; simp at h
  | true =>
    rw [hk] at h
    refine ⟨Route.ok_spec hk, by simp [wholesL, hk], ?_⟩
    rcases Nat.eq_zero_or_pos (goodR r true).length with e | e
    · rw [List.length_eq_zero_iff] at e; rw [e] at h; simp at h
    · exact e
theorem goodR_mem {r : Route} {w : Bool} {t : List Nat} (h : t ∈ goodR r w) : t.Nodup ∧ (∀ k ∈ t, k < r.n) ∧ t.length ≤ r.n ∧ goodP r w t = true := by
  have := List.mem_filter.1 h
  exact ⟨(allR_ok _ this.1).1, (allR_ok _ this.1).2, allR_len this.1, this.2⟩

set_option maxHeartbeats 1000000 in
theorem rwholes54 (r : Route) : FSpec Try.prog 54 [r.av] (.tup [.c (.sl 1 (natss (wholesL r))), iv (errR r)]) := by
  refine FSpec_of c54 (Nat.le_refl _) (by decide) fun C hP hN hC hL => ?_
  simp only [ir54, Route.av]
  (repeat ((first | refine WV_seq_ ?_ | refine WV_block ?_ | refine WV_ops ?_ | refine WV_skip ?_ | refine WV_exit ?_); (try simp only [go_sem, init_env', Nat.reduceEqDiff, Nat.reduceAdd, Nat.reduceMul, reduceIte, Nat.reduceLeDiff, Nat.reduceLT, Nat.reduceBEq, reduceCtorEq, hP, ]); (repeat (refine And.intro (by first | omega | (intros; simp_all; done) | (intros; simp_all; omega)) ?_))))
  (refine AS_pure (check_spec r) rfl rfl rfl rfl rfl ?_; simp only [go_sem, init_env', Nat.reduceEqDiff, Nat.reduceAdd, Nat.reduceMul, reduceIte, Nat.reduceLeDiff, Nat.reduceLT, Nat.reduceBEq, reduceCtorEq, hP, Route.av]; (repeat (refine And.intro (by first | omega | (intros; simp_all; done) | (intros; simp_all; omega)) ?_)); (repeat ((first | refine WV_seq_ ?_ | refine WV_block ?_ | refine WV_ops ?_ | refine WV_skip ?_ | refine WV_exit ?_); (try simp only [go_sem, init_env', Nat.reduceEqDiff, Nat.reduceAdd, Nat.reduceMul, reduceIte, Nat.reduceLeDiff, Nat.reduceLT, Nat.reduceBEq, reduceCtorEq, hP, Route.av]); (repeat (refine And.intro (by first | omega | (intros; simp_all; done) | (intros; simp_all; omega)) ?_)))))
  by_cases hok : r.ok = true
  · have hr := Route.ok_spec hok
    simp only [hok, if_true]
    (refine WV_cond rfl (fun h => ?_) (fun h => ?_))
    · simp at h
    · (repeat ((first | refine WV_seq_ ?_ | refine WV_block ?_ | refine WV_ops ?_ | refine WV_skip ?_ | refine WV_exit ?_); (try simp only [go_sem, init_env', Nat.reduceEqDiff, Nat.reduceAdd, Nat.reduceMul, reduceIte, Nat.reduceLeDiff, Nat.reduceLT, Nat.reduceBEq, reduceCtorEq, hP, ]); (repeat (refine And.intro (by first | omega | (intros; simp_all; done) | (intros; simp_all; omega)) ?_))))
      (refine AS_pure (good67 hr true) rfl rfl rfl rfl rfl ?_; simp only [go_sem, init_env', Nat.reduceEqDiff, Nat.reduceAdd, Nat.reduceMul, reduceIte, Nat.reduceLeDiff, Nat.reduceLT, Nat.reduceBEq, reduceCtorEq, hP, Route.av, natss_len]; (repeat (refine And.intro (by first | omega | (intros; simp_all; done) | (intros; simp_all; omega)) ?_)); (repeat ((first | refine WV_seq_ ?_ | refine WV_block ?_ | refine WV_ops ?_ | refine WV_skip ?_ | refine WV_exit ?_); (try simp only [go_sem, init_env', Nat.reduceEqDiff, Nat.reduceAdd, Nat.reduceMul, reduceIte, Nat.reduceLeDiff, Nat.reduceLT, Nat.reduceBEq, reduceCtorEq, hP, Route.av, natss_len]); (repeat (refine And.intro (by first | omega | (intros; simp_all; done) | (intros; simp_all; omega)) ?_)))))
      (refine WV_cond rfl (fun h => ?_) (fun h => ?_))
      · have h : goodR r true = [] := by simpa using h
        (repeat ((first | refine WV_seq_ ?_ | refine WV_block ?_ | refine WV_ops ?_ | refine WV_skip ?_ | refine WV_exit ?_); (try simp only [go_sem, init_env', Nat.reduceEqDiff, Nat.reduceAdd, Nat.reduceMul, reduceIte, Nat.reduceLeDiff, Nat.reduceLT, Nat.reduceBEq, reduceCtorEq, hP, ]); (repeat (refine And.intro (by first | omega | (intros; simp_all; done) | (intros; simp_all; omega)) ?_))))
        (refine WV_ret ?_; simp only [thenQ, inQ, RetQ, RetOk, resAll, resA]; simp only [go_sem, init_env', Nat.reduceEqDiff, Nat.reduceAdd, Nat.reduceMul, reduceIte, Nat.reduceLeDiff, Nat.reduceLT, Nat.reduceBEq, reduceCtorEq, tupA, AV.port, AV.portL, exists_eq_left', ])
        simp only [wholesL, errR, hok, h, if_true]
        exact AVle.tup (AVles.cons (AVle.nil 1) (AVles.refl _))
      · have h : goodR r true ≠ [] := by intro e; rw [e] at h; simp at h
        (repeat ((first | refine WV_seq_ ?_ | refine WV_block ?_ | refine WV_ops ?_ | refine WV_skip ?_ | refine WV_exit ?_); (try simp only [go_sem, init_env', Nat.reduceEqDiff, Nat.reduceAdd, Nat.reduceMul, reduceIte, Nat.reduceLeDiff, Nat.reduceLT, Nat.reduceBEq, reduceCtorEq, hP, ]); (repeat (refine And.intro (by first | omega | (intros; simp_all; done) | (intros; simp_all; omega)) ?_))))
        (refine WV_ret ?_; simp only [thenQ, inQ, RetQ, RetOk, resAll, resA]; simp only [go_sem, init_env', Nat.reduceEqDiff, Nat.reduceAdd, Nat.reduceMul, reduceIte, Nat.reduceLeDiff, Nat.reduceLT, Nat.reduceBEq, reduceCtorEq, tupA, AV.port, AV.portL, exists_eq_left', ]; (first | exact AVle.of rfl | refine AVle.of ?_ | skip))
        simp [wholesL, errR, hok, h]
  · have hok : r.ok = false := by simpa using hok
    simp only [hok, Bool.false_eq_true, if_false]
    (refine WV_cond rfl (fun h => ?_) (fun h => ?_))
    · (repeat ((first | refine WV_seq_ ?_ | refine WV_block ?_ | refine WV_ops ?_ | refine WV_skip ?_ | refine WV_exit ?_); (try simp only [go_sem, init_env', Nat.reduceEqDiff, Nat.reduceAdd, Nat.reduceMul, reduceIte, Nat.reduceLeDiff, Nat.reduceLT, Nat.reduceBEq, reduceCtorEq, hP, ]); (repeat (refine And.intro (by first | omega | (intros; simp_all; done) | (intros; simp_all; omega)) ?_))))
      (refine WV_ret ?_; simp only [thenQ, inQ, RetQ, RetOk, resAll, resA]; simp only [go_sem, init_env', Nat.reduceEqDiff, Nat.reduceAdd, Nat.reduceMul, reduceIte, Nat.reduceLeDiff, Nat.reduceLT, Nat.reduceBEq, reduceCtorEq, tupA, AV.port, AV.portL, exists_eq_left', ])
      simp only [wholesL, errR, hok, Bool.false_eq_true, if_false]
      exact AVle.tup (AVles.cons (AVle.nil 1) (AVles.refl _))
    · simp at h

def minS (f : List Nat → Int) (l : List (List Nat)) (k : Nat) : Int := (l.take k).foldl (fun b t => min b (f t)) (f (l.getD 0 []))
theorem minS_succ (f : List Nat → Int) {l : List (List Nat)} {k : Nat} (h : k < l.length) : minS f l (k + 1) = min (minS f l k) (f l[k]) := by
  unfold minS
  rw [List.take_succ_eq_append_getElem h, List.foldl_append]; rfl
def rsoonS (r : Route) : Int × Int := if errR r = 0 then (minS (fun t => (goS r t).2.2) (goodR r true) (goodR r true).length, 0) else (0, errR r)
def rshortS (r : Route) : Int × Int := if errR r = 0 then (minS (longS r) (goodR r true) (goodR r true).length, 0) else (0, errR r)

set_option maxHeartbeats 4000000 in
theorem rsoon36 (r : Route) : FSpec Try.prog 36 [r.av] (.tup [iv (rsoonS r).1, iv (rsoonS r).2]) := by
  refine FSpec_of c36 (Nat.le_refl _) (by decide) fun C hP hN hC hL => ?_
  simp only [ir36, Route.av]
  (repeat ((first | refine WV_seq_ ?_ | refine WV_block ?_ | refine WV_ops ?_ | refine WV_skip ?_ | refine WV_exit ?_); (try simp only [go_sem, init_env', Nat.reduceEqDiff, Nat.reduceAdd, Nat.reduceMul, reduceIte, Nat.reduceLeDiff, Nat.reduceLT, Nat.reduceBEq, reduceCtorEq, hP, ]); (repeat (refine And.intro (by first | omega | (intros; simp_all; done) | (intros; simp_all; omega)) ?_))))
  (refine AS_pure (rwholes54 r) rfl rfl rfl rfl rfl ?_; simp only [go_sem, init_env', Nat.reduceEqDiff, Nat.reduceAdd, Nat.reduceMul, reduceIte, Nat.reduceLeDiff, Nat.reduceLT, Nat.reduceBEq, reduceCtorEq, hP, Route.av]; (repeat (refine And.intro (by first | omega | (intros; simp_all; done) | (intros; simp_all; omega)) ?_)); (repeat ((first | refine WV_seq_ ?_ | refine WV_block ?_ | refine WV_ops ?_ | refine WV_skip ?_ | refine WV_exit ?_); (try simp only [go_sem, init_env', Nat.reduceEqDiff, Nat.reduceAdd, Nat.reduceMul, reduceIte, Nat.reduceLeDiff, Nat.reduceLT, Nat.reduceBEq, reduceCtorEq, hP, Route.av]); (repeat (refine And.intro (by first | omega | (intros; simp_all; done) | (intros; simp_all; omega)) ?_)))))
  (refine WV_cond rfl (fun h => ?_) (fun h => ?_))
  · have h : errR r ≠ 0 := by simpa using h
    (repeat ((first | refine WV_seq_ ?_ | refine WV_block ?_ | refine WV_ops ?_ | refine WV_skip ?_ | refine WV_exit ?_); (try simp only [go_sem, init_env', Nat.reduceEqDiff, Nat.reduceAdd, Nat.reduceMul, reduceIte, Nat.reduceLeDiff, Nat.reduceLT, Nat.reduceBEq, reduceCtorEq, hP, ]); (repeat (refine And.intro (by first | omega | (intros; simp_all; done) | (intros; simp_all; omega)) ?_))))
    (refine WV_ret ?_; simp only [thenQ, inQ, RetQ, RetOk, resAll, resA]; simp only [go_sem, init_env', Nat.reduceEqDiff, Nat.reduceAdd, Nat.reduceMul, reduceIte, Nat.reduceLeDiff, Nat.reduceLT, Nat.reduceBEq, reduceCtorEq, tupA, AV.port, AV.portL, exists_eq_left', ]; (first | exact AVle.of rfl | refine AVle.of ?_ | skip))
    simp [rsoonS, h]
  · have h : errR r = 0 := by simpa using h
    obtain ⟨hr, hw, hlen⟩ := errR_eq h
    have hn7 := hr.n7
    have e : rsoonS r = (minS (fun t => (goS r t).2.2) (goodR r true) (goodR r true).length, 0) := if_pos h
    rw [e, hw]
    have hmem := fun t => goodR_mem (r := r) (w := true) (t := t)
    have hcnt : (goodR r true).length ≤ 16777216 := Nat.le_trans (List.length_filter_le _ _) (allR_count hn7)
    generalize goodR r true = l at *
    have h0 := hmem _ (List.getElem_mem hlen)
    have hgo := go24 hr h0.2.1 (by omega)
    (repeat ((first | refine WV_seq_ ?_ | refine WV_block ?_ | refine WV_ops ?_ | refine WV_skip ?_ | refine WV_exit ?_); (try simp only [go_sem, init_env', Nat.reduceEqDiff, Nat.reduceAdd, Nat.reduceMul, reduceIte, Nat.reduceLeDiff, Nat.reduceLT, Nat.reduceBEq, reduceCtorEq, hP, natss_getD hlen, natss_len, hlen, Int.toNat_zero]); (repeat (refine And.intro (by first | omega | (intros; simp_all; done) | (intros; simp_all; omega)) ?_))))
    (refine AS_pure (hgo) rfl rfl rfl rfl rfl ?_; simp only [go_sem, init_env', Nat.reduceEqDiff, Nat.reduceAdd, Nat.reduceMul, reduceIte, Nat.reduceLeDiff, Nat.reduceLT, Nat.reduceBEq, reduceCtorEq, hP, Route.av, goC]; (repeat (refine And.intro (by first | omega | (intros; simp_all; done) | (intros; simp_all; omega)) ?_)); (repeat ((first | refine WV_seq_ ?_ | refine WV_block ?_ | refine WV_ops ?_ | refine WV_skip ?_ | refine WV_exit ?_); (try simp only [go_sem, init_env', Nat.reduceEqDiff, Nat.reduceAdd, Nat.reduceMul, reduceIte, Nat.reduceLeDiff, Nat.reduceLT, Nat.reduceBEq, reduceCtorEq, hP, Route.av, goC]); (repeat (refine And.intro (by first | omega | (intros; simp_all; done) | (intros; simp_all; omega)) ?_)))))
    refine WV_loopK K36_1 [] (fun k : Nat => k ≤ l.length) (fun k => l.length - k) (fun k => [(7, iv k), (6, iv (minS (fun t => (goS r t).2.2) l k))]) (fun _ => []) 0 (Nat.zero_le _) ?_ ?_
    · (refine Sub_of (by simp only [go_sem, init_env', Nat.reduceEqDiff, Nat.reduceAdd, Nat.reduceMul, reduceIte, Nat.reduceLeDiff, Nat.reduceLT, Nat.reduceBEq, reduceCtorEq]; ((repeat' (first | exact EnvLe_e0 _ _ | refine EnvLe_upd ?_ ?_)) <;> ((try simp only [upd_app, e0_app, o0_app, Nat.reduceEqDiff, reduceIte]); first | exact AWk.refl _ _ | exact AWk.int (by omega) | exact AWk.int (by rw [w64 (by omega) (by omega)]; omega) | exact AWk.grow rfl | exact AWk.nil _ | exact AWk.of (by simp [minS, hlen])))) (by simp only [go_sem, init_env', Nat.reduceEqDiff, Nat.reduceAdd, Nat.reduceMul, reduceIte, Nat.reduceLeDiff, Nat.reduceLT, Nat.reduceBEq, reduceCtorEq]; ((repeat' (first | exact ObjLe_o0 _ | exact ObjLe.rfl' _ | refine ObjLe_same ?_ | refine ObjLe_upd ?_ ?_ | refine ObjLe_new rfl ?_)) <;> rfl)))
    · intro k hk
      simp only [go_sem, init_env', Nat.reduceEqDiff, Nat.reduceAdd, Nat.reduceMul, reduceIte, Nat.reduceLeDiff, Nat.reduceLT, Nat.reduceBEq, reduceCtorEq]
      (repeat ((first | refine WV_seq_ ?_ | refine WV_block ?_ | refine WV_ops ?_ | refine WV_skip ?_ | refine WV_exit ?_); (try simp only [go_sem, init_env', Nat.reduceEqDiff, Nat.reduceAdd, Nat.reduceMul, reduceIte, Nat.reduceLeDiff, Nat.reduceLT, Nat.reduceBEq, reduceCtorEq, hP, natss_len]); (repeat (refine And.intro (by first | omega | (intros; simp_all; done) | (intros; simp_all; omega)) ?_))))
      (refine WV_cond rfl (fun h => ?_) (fun h => ?_))
      · have h : k < l.length := by simpa using h
        have h1 := hmem _ (List.getElem_mem h)
        have hgo1 := go24 hr h1.2.1 (by omega)
        have hw2 := w64 (n := (k : Int) + 1) (by omega) (by omega)
        have hm := minS_succ (fun t => (goS r t).2.2) h
        (repeat ((first | refine WV_seq_ ?_ | refine WV_block ?_ | refine WV_ops ?_ | refine WV_skip ?_ | refine WV_exit ?_); (try simp only [go_sem, init_env', Nat.reduceEqDiff, Nat.reduceAdd, Nat.reduceMul, reduceIte, Nat.reduceLeDiff, Nat.reduceLT, Nat.reduceBEq, reduceCtorEq, hP, Int.toNat_natCast, natss_getD h, natss_len, Int.ofNat_lt, h, Int.natCast_nonneg]); (repeat (refine And.intro (by first | omega | (intros; simp_all; done) | (intros; simp_all; omega)) ?_))))
        refine ACall_of hgo1 rfl rfl rfl rfl rfl ?_
        simp only [go_sem, init_env', Nat.reduceEqDiff, Nat.reduceAdd, Nat.reduceMul, reduceIte, Nat.reduceLeDiff, Nat.reduceLT, Nat.reduceBEq, reduceCtorEq, hP, goC]
        (repeat ((first | refine WV_seq_ ?_ | refine WV_block ?_ | refine WV_ops ?_ | refine WV_skip ?_ | refine WV_exit ?_); (try simp only [go_sem, init_env', Nat.reduceEqDiff, Nat.reduceAdd, Nat.reduceMul, reduceIte, Nat.reduceLeDiff, Nat.reduceLT, Nat.reduceBEq, reduceCtorEq, hP, hw2]); (repeat (refine And.intro (by first | omega | (intros; simp_all; done) | (intros; simp_all; omega)) ?_))))
        refine ⟨k + 1, by omega, by omega, ?_⟩
        rw [hm]
        (refine Sub_of (by simp only [go_sem, init_env', Nat.reduceEqDiff, Nat.reduceAdd, Nat.reduceMul, reduceIte, Nat.reduceLeDiff, Nat.reduceLT, Nat.reduceBEq, reduceCtorEq]; ((repeat' (first | exact EnvLe_e0 _ _ | refine EnvLe_upd ?_ ?_)) <;> ((try simp only [upd_app, e0_app, o0_app, Nat.reduceEqDiff, reduceIte]); first | exact AWk.refl _ _ | exact AWk.int (by omega) | exact AWk.int (by rw [w64 (by omega) (by omega)]; omega) | exact AWk.grow rfl | exact AWk.nil _ | exact AWk.of (by simp)))) (by simp only [go_sem, init_env', Nat.reduceEqDiff, Nat.reduceAdd, Nat.reduceMul, reduceIte, Nat.reduceLeDiff, Nat.reduceLT, Nat.reduceBEq, reduceCtorEq]; ((repeat' (first | exact ObjLe_o0 _ | exact ObjLe.rfl' _ | refine ObjLe_same ?_ | refine ObjLe_upd ?_ ?_ | refine ObjLe_new rfl ?_)) <;> rfl)))
      · have h : k = l.length := by simp at h; omega
        subst h
        (repeat ((first | refine WV_seq_ ?_ | refine WV_block ?_ | refine WV_ops ?_ | refine WV_skip ?_ | refine WV_exit ?_); (try simp only [go_sem, init_env', Nat.reduceEqDiff, Nat.reduceAdd, Nat.reduceMul, reduceIte, Nat.reduceLeDiff, Nat.reduceLT, Nat.reduceBEq, reduceCtorEq, hP, ]); (repeat (refine And.intro (by first | omega | (intros; simp_all; done) | (intros; simp_all; omega)) ?_))))
        (refine WV_ret ?_; simp only [thenQ, inQ, RetQ, RetOk, resAll, resA]; simp only [go_sem, init_env', Nat.reduceEqDiff, Nat.reduceAdd, Nat.reduceMul, reduceIte, Nat.reduceLeDiff, Nat.reduceLT, Nat.reduceBEq, reduceCtorEq, tupA, AV.port, AV.portL, exists_eq_left', ]; (first | exact AVle.of rfl | refine AVle.of ?_ | skip))

set_option maxHeartbeats 4000000 in
theorem rshort21 (r : Route) : FSpec Try.prog 21 [r.av] (.tup [iv (rshortS r).1, iv (rshortS r).2]) := by
  refine FSpec_of c21 (Nat.le_refl _) (by decide) fun C hP hN hC hL => ?_
  simp only [ir21, Route.av]
  (repeat ((first | refine WV_seq_ ?_ | refine WV_block ?_ | refine WV_ops ?_ | refine WV_skip ?_ | refine WV_exit ?_); (try simp only [go_sem, init_env', Nat.reduceEqDiff, Nat.reduceAdd, Nat.reduceMul, reduceIte, Nat.reduceLeDiff, Nat.reduceLT, Nat.reduceBEq, reduceCtorEq, hP, ]); (repeat (refine And.intro (by first | omega | (intros; simp_all; done) | (intros; simp_all; omega)) ?_))))
  (refine AS_pure (rwholes54 r) rfl rfl rfl rfl rfl ?_; simp only [go_sem, init_env', Nat.reduceEqDiff, Nat.reduceAdd, Nat.reduceMul, reduceIte, Nat.reduceLeDiff, Nat.reduceLT, Nat.reduceBEq, reduceCtorEq, hP, Route.av]; (repeat (refine And.intro (by first | omega | (intros; simp_all; done) | (intros; simp_all; omega)) ?_)); (repeat ((first | refine WV_seq_ ?_ | refine WV_block ?_ | refine WV_ops ?_ | refine WV_skip ?_ | refine WV_exit ?_); (try simp only [go_sem, init_env', Nat.reduceEqDiff, Nat.reduceAdd, Nat.reduceMul, reduceIte, Nat.reduceLeDiff, Nat.reduceLT, Nat.reduceBEq, reduceCtorEq, hP, Route.av]); (repeat (refine And.intro (by first | omega | (intros; simp_all; done) | (intros; simp_all; omega)) ?_)))))
  (refine WV_cond rfl (fun h => ?_) (fun h => ?_))
  · have h : errR r ≠ 0 := by simpa using h
    (repeat ((first | refine WV_seq_ ?_ | refine WV_block ?_ | refine WV_ops ?_ | refine WV_skip ?_ | refine WV_exit ?_); (try simp only [go_sem, init_env', Nat.reduceEqDiff, Nat.reduceAdd, Nat.reduceMul, reduceIte, Nat.reduceLeDiff, Nat.reduceLT, Nat.reduceBEq, reduceCtorEq, hP, ]); (repeat (refine And.intro (by first | omega | (intros; simp_all; done) | (intros; simp_all; omega)) ?_))))
    (refine WV_ret ?_; simp only [thenQ, inQ, RetQ, RetOk, resAll, resA]; simp only [go_sem, init_env', Nat.reduceEqDiff, Nat.reduceAdd, Nat.reduceMul, reduceIte, Nat.reduceLeDiff, Nat.reduceLT, Nat.reduceBEq, reduceCtorEq, tupA, AV.port, AV.portL, exists_eq_left', ]; (first | exact AVle.of rfl | refine AVle.of ?_ | skip))
    simp [rshortS, h]
  · have h : errR r = 0 := by simpa using h
    obtain ⟨hr, hw, hlen⟩ := errR_eq h
    have hn7 := hr.n7
    have e : rshortS r = (minS (longS r) (goodR r true) (goodR r true).length, 0) := if_pos h
    rw [e, hw]
    have hmem := fun t => goodR_mem (r := r) (w := true) (t := t)
    have hcnt : (goodR r true).length ≤ 16777216 := Nat.le_trans (List.length_filter_le _ _) (allR_count hn7)
    generalize goodR r true = l at *
    have h0 := hmem _ (List.getElem_mem hlen)
    have hgo := long25 hr h0.2.1 (by omega)
    (repeat ((first | refine WV_seq_ ?_ | refine WV_block ?_ | refine WV_ops ?_ | refine WV_skip ?_ | refine WV_exit ?_); (try simp only [go_sem, init_env', Nat.reduceEqDiff, Nat.reduceAdd, Nat.reduceMul, reduceIte, Nat.reduceLeDiff, Nat.reduceLT, Nat.reduceBEq, reduceCtorEq, hP, natss_getD hlen, natss_len, hlen, Int.toNat_zero]); (repeat (refine And.intro (by first | omega | (intros; simp_all; done) | (intros; simp_all; omega)) ?_))))
    (refine AS_pure (hgo) rfl rfl rfl rfl rfl ?_; simp only [go_sem, init_env', Nat.reduceEqDiff, Nat.reduceAdd, Nat.reduceMul, reduceIte, Nat.reduceLeDiff, Nat.reduceLT, Nat.reduceBEq, reduceCtorEq, hP, Route.av, goC]; (repeat (refine And.intro (by first | omega | (intros; simp_all; done) | (intros; simp_all; omega)) ?_)); (repeat ((first | refine WV_seq_ ?_ | refine WV_block ?_ | refine WV_ops ?_ | refine WV_skip ?_ | refine WV_exit ?_); (try simp only [go_sem, init_env', Nat.reduceEqDiff, Nat.reduceAdd, Nat.reduceMul, reduceIte, Nat.reduceLeDiff, Nat.reduceLT, Nat.reduceBEq, reduceCtorEq, hP, Route.av, goC]); (repeat (refine And.intro (by first | omega | (intros; simp_all; done) | (intros; simp_all; omega)) ?_)))))
    refine WV_loopK K21_1 [] (fun k : Nat => k ≤ l.length) (fun k => l.length - k) (fun k => [(7, iv k), (6, iv (minS (longS r) l k))]) (fun _ => []) 0 (Nat.zero_le _) ?_ ?_
    · (refine Sub_of (by simp only [go_sem, init_env', Nat.reduceEqDiff, Nat.reduceAdd, Nat.reduceMul, reduceIte, Nat.reduceLeDiff, Nat.reduceLT, Nat.reduceBEq, reduceCtorEq]; ((repeat' (first | exact EnvLe_e0 _ _ | refine EnvLe_upd ?_ ?_)) <;> ((try simp only [upd_app, e0_app, o0_app, Nat.reduceEqDiff, reduceIte]); first | exact AWk.refl _ _ | exact AWk.int (by omega) | exact AWk.int (by rw [w64 (by omega) (by omega)]; omega) | exact AWk.grow rfl | exact AWk.nil _ | exact AWk.of (by simp [minS, hlen])))) (by simp only [go_sem, init_env', Nat.reduceEqDiff, Nat.reduceAdd, Nat.reduceMul, reduceIte, Nat.reduceLeDiff, Nat.reduceLT, Nat.reduceBEq, reduceCtorEq]; ((repeat' (first | exact ObjLe_o0 _ | exact ObjLe.rfl' _ | refine ObjLe_same ?_ | refine ObjLe_upd ?_ ?_ | refine ObjLe_new rfl ?_)) <;> rfl)))
    · intro k hk
      simp only [go_sem, init_env', Nat.reduceEqDiff, Nat.reduceAdd, Nat.reduceMul, reduceIte, Nat.reduceLeDiff, Nat.reduceLT, Nat.reduceBEq, reduceCtorEq]
      (repeat ((first | refine WV_seq_ ?_ | refine WV_block ?_ | refine WV_ops ?_ | refine WV_skip ?_ | refine WV_exit ?_); (try simp only [go_sem, init_env', Nat.reduceEqDiff, Nat.reduceAdd, Nat.reduceMul, reduceIte, Nat.reduceLeDiff, Nat.reduceLT, Nat.reduceBEq, reduceCtorEq, hP, natss_len]); (repeat (refine And.intro (by first | omega | (intros; simp_all; done) | (intros; simp_all; omega)) ?_))))
      (refine WV_cond rfl (fun h => ?_) (fun h => ?_))
      · have h : k < l.length := by simpa using h
        have h1 := hmem _ (List.getElem_mem h)
        have hgo1 := long25 hr h1.2.1 (by omega)
        have hw2 := w64 (n := (k : Int) + 1) (by omega) (by omega)
        have hm := minS_succ (longS r) h
        (repeat ((first | refine WV_seq_ ?_ | refine WV_block ?_ | refine WV_ops ?_ | refine WV_skip ?_ | refine WV_exit ?_); (try simp only [go_sem, init_env', Nat.reduceEqDiff, Nat.reduceAdd, Nat.reduceMul, reduceIte, Nat.reduceLeDiff, Nat.reduceLT, Nat.reduceBEq, reduceCtorEq, hP, Int.toNat_natCast, natss_getD h, natss_len, Int.ofNat_lt, h, Int.natCast_nonneg]); (repeat (refine And.intro (by first | omega | (intros; simp_all; done) | (intros; simp_all; omega)) ?_))))
        refine ACall_of hgo1 rfl rfl rfl rfl rfl ?_
        simp only [go_sem, init_env', Nat.reduceEqDiff, Nat.reduceAdd, Nat.reduceMul, reduceIte, Nat.reduceLeDiff, Nat.reduceLT, Nat.reduceBEq, reduceCtorEq, hP, goC]
        (repeat ((first | refine WV_seq_ ?_ | refine WV_block ?_ | refine WV_ops ?_ | refine WV_skip ?_ | refine WV_exit ?_); (try simp only [go_sem, init_env', Nat.reduceEqDiff, Nat.reduceAdd, Nat.reduceMul, reduceIte, Nat.reduceLeDiff, Nat.reduceLT, Nat.reduceBEq, reduceCtorEq, hP, hw2]); (repeat (refine And.intro (by first | omega | (intros; simp_all; done) | (intros; simp_all; omega)) ?_))))
        refine ⟨k + 1, by omega, by omega, ?_⟩
        rw [hm]
        (refine Sub_of (by simp only [go_sem, init_env', Nat.reduceEqDiff, Nat.reduceAdd, Nat.reduceMul, reduceIte, Nat.reduceLeDiff, Nat.reduceLT, Nat.reduceBEq, reduceCtorEq]; ((repeat' (first | exact EnvLe_e0 _ _ | refine EnvLe_upd ?_ ?_)) <;> ((try simp only [upd_app, e0_app, o0_app, Nat.reduceEqDiff, reduceIte]); first | exact AWk.refl _ _ | exact AWk.int (by omega) | exact AWk.int (by rw [w64 (by omega) (by omega)]; omega) | exact AWk.grow rfl | exact AWk.nil _ | exact AWk.of (by simp)))) (by simp only [go_sem, init_env', Nat.reduceEqDiff, Nat.reduceAdd, Nat.reduceMul, reduceIte, Nat.reduceLeDiff, Nat.reduceLT, Nat.reduceBEq, reduceCtorEq]; ((repeat' (first | exact ObjLe_o0 _ | exact ObjLe.rfl' _ | refine ObjLe_same ?_ | refine ObjLe_upd ?_ ?_ | refine ObjLe_new rfl ?_)) <;> rfl)))
      · have h : k = l.length := by simp at h; omega
        subst h
        (repeat ((first | refine WV_seq_ ?_ | refine WV_block ?_ | refine WV_ops ?_ | refine WV_skip ?_ | refine WV_exit ?_); (try simp only [go_sem, init_env', Nat.reduceEqDiff, Nat.reduceAdd, Nat.reduceMul, reduceIte, Nat.reduceLeDiff, Nat.reduceLT, Nat.reduceBEq, reduceCtorEq, hP, ]); (repeat (refine And.intro (by first | omega | (intros; simp_all; done) | (intros; simp_all; omega)) ?_))))
        (refine WV_ret ?_; simp only [thenQ, inQ, RetQ, RetOk, resAll, resA]; simp only [go_sem, init_env', Nat.reduceEqDiff, Nat.reduceAdd, Nat.reduceMul, reduceIte, Nat.reduceLeDiff, Nat.reduceLT, Nat.reduceBEq, reduceCtorEq, tupA, AV.port, AV.portL, exists_eq_left', ]; (first | exact AVle.of rfl | refine AVle.of ?_ | skip))
end Go.Proofs.Ytbejgfpaokcnpaa

namespace Go.Proofs.Ytbejgfpaokcnpaa
open Go Go.V
@[reducible] def o64_0 : List Ins := [⟨(some 2), .box 3 (.t 0), none, true⟩,
  ⟨(some 4), .mv (.k (.c (.int .i64 0))), none, true⟩]
@[reducible] def o64_1 : List Ins := [⟨(some 11), .fa 0 (.t 2), none, true⟩,
  ⟨(some 12), .ld true 1 (.t 11), none, true⟩,
  ⟨(some 13), .len (.t 12), none, true⟩,
  ⟨(some 5), .mv (.t 13), none, true⟩]
@[reducible] def o64_2 : List Ins := [⟨(some 14), .mv (.t 1), none, true⟩,
  ⟨(some 15), .len (.t 14), none, true⟩,
  ⟨(some 16), .bin .eql (.t 15) (.k (.c (.int .i64 0))), none, true⟩]
@[reducible] def o64_3 : List Ins := [⟨(some 4), .mv (.k (.c (.int .i64 1440))), none, true⟩]
@[reducible] def v64_4 : VC := (.seq (.ops o64_3) .ret)
@[reducible] def v64_5 : VC := (.cond (.t 16) v64_4 .skip)
@[reducible] def o64_6 : List Ins := [⟨(some 17), .mv (.t 1), none, true⟩,
  ⟨(some 18), .len (.t 17), none, true⟩,
  ⟨(some 19), .bin .sub (.t 18) (.k (.c (.int .i64 1))), none, true⟩,
  ⟨(some 6), .mv (.t 19), none, true⟩]
@[reducible] def o64_7 : List Ins := [⟨(some 20), .fa 0 (.t 2), none, false⟩,
  ⟨(some 21), .ld true 1 (.t 20), none, false⟩,
  ⟨(some 22), .mv (.t 1), none, false⟩,
  ⟨(some 23), .mv (.t 6), none, false⟩,
  ⟨(some 24), .ia 1 (.t 22) (.t 23), none, false⟩,
  ⟨(some 25), .ld true 1 (.t 24), none, false⟩,
  ⟨(some 26), .ia 4 (.t 21) (.t 25), none, true⟩,
  ⟨(some 27), .fa 1 (.t 26), none, true⟩,
  ⟨(some 28), .ld true 1 (.t 27), none, true⟩,
  ⟨(some 7), .mv (.t 28), none, true⟩]
@[reducible] def o64_8 : List Ins := [⟨(some 29), .mv (.t 6), none, true⟩,
  ⟨(some 30), .bin .sub (.t 29) (.k (.c (.int .i64 1))), none, true⟩,
  ⟨(some 8), .mv (.t 30), none, true⟩]
@[reducible] def o64_9 : List Ins := [⟨(some 31), .mv (.t 8), none, true⟩,
  ⟨(some 32), .bin .geq (.t 31) (.k (.c (.int .i64 0))), none, true⟩]
@[reducible] def v64_10 : VC := (.cond (.t 32) .skip (.exit 0))
@[reducible] def o64_11 : List Ins := [⟨(some 35), .fa 0 (.t 2), none, false⟩,
  ⟨(some 36), .ld true 1 (.t 35), none, false⟩,
  ⟨(some 37), .mv (.t 1), none, false⟩,
  ⟨(some 38), .mv (.t 8), none, false⟩,
  ⟨(some 39), .ia 1 (.t 37) (.t 38), none, false⟩,
  ⟨(some 40), .ld true 1 (.t 39), none, false⟩,
  ⟨(some 41), .ia 4 (.t 36) (.t 40), none, false⟩,
  ⟨(some 42), .ld false 4 (.t 41), none, false⟩,
  ⟨(some 9), .alloc [(.c (.int .i64 0)), (.c (.int .i64 0)), (.c (.int .i64 0)), (.c (.int .i64 0))], none, false⟩,
  ⟨none, .st 4 (.t 9) (.t 42), none, true⟩]
@[reducible] def o64_12 : List Ins := [⟨(some 43), .mv (.t 7), none, false⟩,
  ⟨(some 44), .fa 1 (.t 2), none, false⟩,
  ⟨(some 45), .ld true 1 (.t 44), none, false⟩,
  ⟨(some 46), .mv (.t 1), none, false⟩,
  ⟨(some 47), .mv (.t 8), none, false⟩,
  ⟨(some 48), .ia 1 (.t 46) (.t 47), none, false⟩,
  ⟨(some 49), .ld true 1 (.t 48), none, false⟩,
  ⟨(some 50), .ia 1 (.t 45) (.t 49), none, false⟩,
  ⟨(some 51), .ld true 1 (.t 50), none, false⟩,
  ⟨(some 52), .mv (.t 1), none, false⟩,
  ⟨(some 53), .mv (.t 8), none, false⟩,
  ⟨(some 54), .bin .add (.t 53) (.k (.c (.int .i64 1))), none, false⟩,
  ⟨(some 55), .ia 1 (.t 52) (.t 54), none, false⟩,
  ⟨(some 56), .ld true 1 (.t 55), none, false⟩,
  ⟨(some 57), .ia 1 (.t 51) (.t 56), none, false⟩,
  ⟨(some 58), .ld true 1 (.t 57), none, false⟩,
  ⟨(some 59), .bin .sub (.t 43) (.t 58), none, false⟩,
  ⟨(some 60), .fa 2 (.t 9), none, false⟩,
  ⟨(some 61), .ld true 1 (.t 60), none, false⟩,
  ⟨(some 62), .bin .sub (.t 59) (.t 61), none, true⟩,
  ⟨(some 10), .mv (.t 62), none, true⟩]
@[reducible] def o64_13 : List Ins := [⟨(some 63), .mv (.t 10), none, true⟩,
  ⟨(some 64), .fa 0 (.t 9), none, true⟩,
  ⟨(some 65), .ld true 1 (.t 64), none, true⟩,
  ⟨(some 66), .bin .lss (.t 63) (.t 65), none, true⟩]
@[reducible] def o64_14 : List Ins := [⟨(some 4), .mv (.k (.c (.int .i64 (-1)))), none, true⟩]
@[reducible] def v64_15 : VC := (.seq (.ops o64_14) .ret)
@[reducible] def v64_16 : VC := (.cond (.t 66) v64_15 .skip)
@[reducible] def o64_17 : List Ins := [⟨(some 67), .fa 1 (.t 9), none, true⟩,
  ⟨(some 68), .ld true 1 (.t 67), none, true⟩,
  ⟨(some 69), .mv (.t 10), none, true⟩,
  ⟨(some 70), .mm false (.t 68) (.t 69), none, true⟩,
  ⟨(some 7), .mv (.t 70), none, true⟩]
@[reducible] def v64_18 : VC := (.seq (.seq (.ops o64_13) v64_16) (.ops o64_17))
@[reducible] def v64_19 : VC := (.seq (.ops o64_12) v64_18)
@[reducible] def v64_20 : VC := (.seq (.ops o64_11) v64_19)
@[reducible] def o64_21 : List Ins := [⟨(some 33), .mv (.t 8), none, true⟩,
  ⟨(some 34), .bin .sub (.t 33) (.k (.c (.int .i64 1))), none, true⟩,
  ⟨(some 8), .mv (.t 34), none, true⟩]
@[reducible] def v64_22 : VC := (.seq (.block 1 v64_20) (.ops o64_21))
@[reducible] def v64_23 : VC := (.seq (.seq (.ops o64_9) v64_10) v64_22)
-- K64_1: changed and kept: [8, 7]
@[reducible] def K64_1 : List Nat := [1, 2, 5]
@[reducible] def v64_24 : VC := (.loop v64_23)
@[reducible] def v64_25 : VC := (.block 0 v64_24)
@[reducible] def o64_26 : List Ins := [⟨(some 71), .mv (.t 7), none, false⟩,
  ⟨(some 72), .fa 1 (.t 2), none, false⟩,
  ⟨(some 73), .ld true 1 (.t 72), none, false⟩,
  ⟨(some 74), .mv (.t 5), none, false⟩,
  ⟨(some 75), .ia 1 (.t 73) (.t 74), none, false⟩,
  ⟨(some 76), .ld true 1 (.t 75), none, false⟩,
  ⟨(some 77), .mv (.t 1), none, false⟩,
  ⟨(some 78), .ia 1 (.t 77) (.k (.c (.int .i64 0))), none, false⟩,
  ⟨(some 79), .ld true 1 (.t 78), none, false⟩,
  ⟨(some 80), .ia 1 (.t 76) (.t 79), none, false⟩,
  ⟨(some 81), .ld true 1 (.t 80), none, false⟩,
  ⟨(some 82), .bin .sub (.t 71) (.t 81), none, true⟩,
  ⟨(some 83), .mm false (.k (.c (.int .i64 1440))) (.t 82), none, true⟩,
  ⟨(some 4), .mv (.t 83), none, true⟩]
@[reducible] def v64_27 : VC := (.seq (.ops o64_26) .ret)
@[reducible] def v64_28 : VC := (.seq (.seq (.ops o64_8) v64_25) v64_27)
@[reducible] def v64_29 : VC := (.seq (.ops o64_7) v64_28)
@[reducible] def v64_30 : VC := (.seq (.ops o64_6) v64_29)
@[reducible] def v64_31 : VC := (.seq (.seq (.ops o64_2) v64_5) v64_30)
@[reducible] def v64_32 : VC := (.seq (.ops o64_1) v64_31)
def ir64 : FC := ⟨2, 84, [.t 4], (.seq (.ops o64_0) v64_32)⟩
@[reducible] def o37_0 : List Ins := [⟨(some 1), .box 3 (.t 0), none, true⟩,
  ⟨(some 2), .mv (.k (.c (.int .i64 0))), none, true⟩,
  ⟨(some 3), .mv (.k (.c (.int .i64 0))), none, true⟩]
@[reducible] def o37_1 : List Ins := [⟨(some 8), .ld false 3 (.t 1), none, true⟩,
  ⟨(some 9), .call (.k (.fn 27 [])) [(.t 8)], none, true⟩,
  ⟨(some 4), .mv (.t 9), none, true⟩]
@[reducible] def o37_2 : List Ins := [⟨(some 10), .mv (.t 4), none, true⟩,
  ⟨(some 11), .bin .neq (.t 10) (.k (.c (.int .i64 0))), none, true⟩]
@[reducible] def o37_3 : List Ins := [⟨(some 12), .mv (.t 4), none, true⟩,
  ⟨(some 2), .mv (.k (.c (.int .i64 0))), none, true⟩,
  ⟨(some 3), .mv (.t 12), none, true⟩]
@[reducible] def v37_4 : VC := (.seq (.ops o37_3) .ret)
@[reducible] def v37_5 : VC := (.cond (.t 11) v37_4 .skip)
@[reducible] def v37_6 : VC := (.seq (.ops o37_2) v37_5)
@[reducible] def o37_7 : List Ins := [⟨(some 5), .mv (.k (.c (.int .i64 (-1)))), none, true⟩]
@[reducible] def o37_8 : List Ins := [⟨(some 13), .ld false 3 (.t 1), none, true⟩,
  ⟨(some 14), .call (.k (.fn 63 [])) [(.t 13), (.k (.c (.raw (.slice none 0 0))))], none, true⟩,
  ⟨(some 6), .mv (.t 14), none, true⟩]
@[reducible] def o37_9 : List Ins := [⟨(some 7), .mv (.k (.c (.int .i64 0))), none, true⟩]
@[reducible] def o37_10 : List Ins := [⟨(some 15), .mv (.t 7), none, true⟩,
  ⟨(some 16), .mv (.t 6), none, true⟩,
  ⟨(some 17), .len (.t 16), none, true⟩,
  ⟨(some 18), .bin .lss (.t 15) (.t 17), none, true⟩]
@[reducible] def v37_11 : VC := (.cond (.t 18) .skip (.exit 0))
@[reducible] def o37_12 : List Ins := [⟨(some 21), .mv (.t 6), none, false⟩,
  ⟨(some 22), .mv (.t 7), none, false⟩,
  ⟨(some 23), .ia 1 (.t 21) (.t 22), none, false⟩,
  ⟨(some 24), .ld true 1 (.t 23), none, false⟩,
  ⟨(some 25), .len (.t 24), none, false⟩,
  ⟨(some 26), .fa 0 (.t 1), none, false⟩,
  ⟨(some 27), .ld true 1 (.t 26), none, false⟩,
  ⟨(some 28), .len (.t 27), none, false⟩,
  ⟨(some 29), .bin .eql (.t 25) (.t 28), none, true⟩]
@[reducible] def o37_13 : List Ins := [⟨(some 30), .mv (.t 5), none, false⟩,
  ⟨(some 31), .ld false 3 (.t 1), none, false⟩,
  ⟨(some 32), .mv (.t 6), none, false⟩,
  ⟨(some 33), .mv (.t 7), none, false⟩,
  ⟨(some 34), .ia 1 (.t 32) (.t 33), none, false⟩,
  ⟨(some 35), .ld true 1 (.t 34), none, false⟩,
  ⟨(some 36), .call (.k (.fn 64 [])) [(.t 31), (.t 35)], none, false⟩,
  ⟨(some 37), .mm true (.t 30) (.t 36), none, true⟩,
  ⟨(some 5), .mv (.t 37), none, true⟩]
@[reducible] def v37_14 : VC := (.cond (.t 29) (.ops o37_13) .skip)
@[reducible] def v37_15 : VC := (.seq (.ops o37_12) v37_14)
@[reducible] def o37_16 : List Ins := [⟨(some 19), .mv (.t 7), none, true⟩,
  ⟨(some 20), .bin .add (.t 19) (.k (.c (.int .i64 1))), none, true⟩,
  ⟨(some 7), .mv (.t 20), none, true⟩]
@[reducible] def v37_17 : VC := (.seq (.block 1 v37_15) (.ops o37_16))
@[reducible] def v37_18 : VC := (.seq (.seq (.ops o37_10) v37_11) v37_17)
-- K37_1: changed and kept: [7, 5]
@[reducible] def K37_1 : List Nat := [1, 6]
@[reducible] def v37_19 : VC := (.loop v37_18)
@[reducible] def v37_20 : VC := (.block 0 v37_19)
@[reducible] def o37_21 : List Ins := [⟨(some 38), .mv (.t 5), none, true⟩,
  ⟨(some 39), .bin .lss (.t 38) (.k (.c (.int .i64 0))), none, true⟩]
@[reducible] def o37_22 : List Ins := [⟨(some 2), .mv (.k (.c (.int .i64 0))), none, true⟩,
  ⟨(some 3), .mv (.k (.c (.int .i64 3))), none, true⟩]
@[reducible] def v37_23 : VC := (.seq (.ops o37_22) .ret)
@[reducible] def v37_24 : VC := (.cond (.t 39) v37_23 .skip)
@[reducible] def o37_25 : List Ins := [⟨(some 40), .mv (.t 5), none, true⟩,
  ⟨(some 2), .mv (.t 40), none, true⟩,
  ⟨(some 3), .mv (.k (.c (.int .i64 0))), none, true⟩]
@[reducible] def v37_26 : VC := (.seq (.ops o37_25) .ret)
@[reducible] def v37_27 : VC := (.seq (.seq (.ops o37_21) v37_24) v37_26)
@[reducible] def v37_28 : VC := (.seq (.seq (.ops o37_9) v37_20) v37_27)
@[reducible] def v37_29 : VC := (.seq (.ops o37_8) v37_28)
@[reducible] def v37_30 : VC := (.seq (.ops o37_7) v37_29)
@[reducible] def v37_31 : VC := (.seq (.seq (.ops o37_1) v37_6) v37_30)
def ir37 : FC := ⟨1, 41, [.t 2, .t 3], (.seq (.ops o37_0) v37_31)⟩
@[reducible] def o44_0 : List Ins := [⟨(some 1), .box 3 (.t 0), none, true⟩,
  ⟨(some 2), .mv (.k (.c (.int .i64 0))), none, true⟩,
  ⟨(some 3), .mv (.k (.c (.int .i64 0))), none, true⟩]
@[reducible] def o44_1 : List Ins := [⟨(some 8), .ld false 3 (.t 1), none, true⟩,
  ⟨(some 9), .call (.k (.fn 27 [])) [(.t 8)], none, true⟩,
  ⟨(some 4), .mv (.t 9), none, true⟩]
@[reducible] def o44_2 : List Ins := [⟨(some 10), .mv (.t 4), none, true⟩,
  ⟨(some 11), .bin .neq (.t 10) (.k (.c (.int .i64 0))), none, true⟩]
@[reducible] def o44_3 : List Ins := [⟨(some 12), .mv (.t 4), none, true⟩,
  ⟨(some 2), .mv (.k (.c (.int .i64 0))), none, true⟩,
  ⟨(some 3), .mv (.t 12), none, true⟩]
@[reducible] def v44_4 : VC := (.seq (.ops o44_3) .ret)
@[reducible] def v44_5 : VC := (.cond (.t 11) v44_4 .skip)
@[reducible] def v44_6 : VC := (.seq (.ops o44_2) v44_5)
@[reducible] def o44_7 : List Ins := [⟨(some 5), .mv (.k (.c (.int .i64 0))), none, true⟩]
@[reducible] def o44_8 : List Ins := [⟨(some 13), .ld false 3 (.t 1), none, true⟩,
  ⟨(some 14), .call (.k (.fn 67 [])) [(.t 13), (.k (.c (.bool false)))], none, true⟩,
  ⟨(some 6), .mv (.t 14), none, true⟩]
@[reducible] def o44_9 : List Ins := [⟨(some 7), .mv (.k (.c (.int .i64 0))), none, true⟩]
@[reducible] def o44_10 : List Ins := [⟨(some 15), .mv (.t 7), none, true⟩,
  ⟨(some 16), .mv (.t 6), none, true⟩,
  ⟨(some 17), .len (.t 16), none, true⟩,
  ⟨(some 18), .bin .lss (.t 15) (.t 17), none, true⟩]
@[reducible] def v44_11 : VC := (.cond (.t 18) .skip (.exit 0))
@[reducible] def o44_12 : List Ins := [⟨(some 21), .mv (.t 5), none, false⟩,
  ⟨(some 22), .ld false 3 (.t 1), none, false⟩,
  ⟨(some 23), .mv (.t 6), none, false⟩,
  ⟨(some 24), .mv (.t 7), none, false⟩,
  ⟨(some 25), .ia 1 (.t 23) (.t 24), none, false⟩,
  ⟨(some 26), .ld true 1 (.t 25), none, false⟩,
  ⟨(some 27), .call (.k (.fn 46 [])) [(.t 22), (.t 26)], none, false⟩,
  ⟨(some 28), .mm true (.t 21) (.t 27), none, true⟩,
  ⟨(some 5), .mv (.t 28), none, true⟩]
@[reducible] def o44_13 : List Ins := [⟨(some 19), .mv (.t 7), none, true⟩,
  ⟨(some 20), .bin .add (.t 19) (.k (.c (.int .i64 1))), none, true⟩,
  ⟨(some 7), .mv (.t 20), none, true⟩]
@[reducible] def v44_14 : VC := (.seq (.block 1 (.ops o44_12)) (.ops o44_13))
@[reducible] def v44_15 : VC := (.seq (.seq (.ops o44_10) v44_11) v44_14)
-- K44_1: changed and kept: [7, 5]
@[reducible] def K44_1 : List Nat := [1, 6]
@[reducible] def v44_16 : VC := (.loop v44_15)
@[reducible] def v44_17 : VC := (.block 0 v44_16)
@[reducible] def o44_18 : List Ins := [⟨(some 29), .mv (.t 5), none, true⟩,
  ⟨(some 2), .mv (.t 29), none, true⟩,
  ⟨(some 3), .mv (.k (.c (.int .i64 0))), none, true⟩]
@[reducible] def v44_19 : VC := (.seq (.ops o44_18) .ret)
@[reducible] def v44_20 : VC := (.seq (.seq (.ops o44_9) v44_17) v44_19)
@[reducible] def v44_21 : VC := (.seq (.ops o44_8) v44_20)
@[reducible] def v44_22 : VC := (.seq (.ops o44_7) v44_21)
@[reducible] def v44_23 : VC := (.seq (.seq (.ops o44_1) v44_6) v44_22)
def ir44 : FC := ⟨1, 30, [.t 2, .t 3], (.seq (.ops o44_0) v44_23)⟩
theorem c64 : compM Try.prog [] 64 = some ir64 := by kernel_rfl
theorem c37 : compM Try.prog [] 37 = some ir37 := by kernel_rfl
theorem c44 : compM Try.prog [] 44 = some ir44 := by kernel_rfl



set_option maxHeartbeats 8000000 in
theorem rlatest64 {r : Route} (hr : RouteOk r) {t : List Nat} (ht : ∀ k ∈ t, k < r.n) (hlen : t.length ≤ 20) : FSpec Try.prog 64 [r.av, .c (nats t)] (iv (leavesS r t)) := by
  refine FSpec_of c64 (Nat.le_refl _) (by decide) fun C hP hN hC hL => ?_
  have hn7 := hr.n7
  have hsl : (r.stops.length : Int) = (r.n : Int) := rfl
  simp only [ir64, Route.av, nats, ints]
  (repeat ((first | refine WV_seq_ ?_ | refine WV_block ?_ | refine WV_ops ?_ | refine WV_skip ?_ | refine WV_exit ?_); (try simp only [go_sem, init_env', Nat.reduceEqDiff, Nat.reduceAdd, Nat.reduceMul, reduceIte, Nat.reduceLeDiff, Nat.reduceLT, Nat.reduceBEq, reduceCtorEq, hP, stopsC]); (repeat (refine And.intro (by first | omega | (intros; simp_all; done) | (intros; simp_all; omega)) ?_))))
  (refine WV_cond rfl (fun h => ?_) (fun h => ?_))
  · have e : t = [] := by simpa using h
    subst e
    (repeat ((first | refine WV_seq_ ?_ | refine WV_block ?_ | refine WV_ops ?_ | refine WV_skip ?_ | refine WV_exit ?_); (try simp only [go_sem, init_env', Nat.reduceEqDiff, Nat.reduceAdd, Nat.reduceMul, reduceIte, Nat.reduceLeDiff, Nat.reduceLT, Nat.reduceBEq, reduceCtorEq, hP, ]); (repeat (refine And.intro (by first | omega | (intros; simp_all; done) | (intros; simp_all; omega)) ?_))))
    (refine WV_ret ?_; simp only [thenQ, inQ, RetQ, RetOk, resAll, resA]; simp only [go_sem, init_env', Nat.reduceEqDiff, Nat.reduceAdd, Nat.reduceMul, reduceIte, Nat.reduceLeDiff, Nat.reduceLT, Nat.reduceBEq, reduceCtorEq, tupA, AV.port, AV.portL, exists_eq_left', ]; (first | exact AVle.of rfl | refine AVle.of ?_ | skip))
  · have hne : t ≠ [] := by intro e; subst e; simp at h
    have hpos : 0 < t.length := List.length_pos_iff.2 hne
    refine WV_skip ?_
    refine WV_freeze 2 (ds := r.cds) rfl rfl ?_
    obtain ⟨m, hm⟩ : ∃ m, t.length = m + 1 := ⟨t.length - 1, by omega⟩
    have hml : m < t.length := by omega
    have hkn : t[m] < r.n := ht _ (List.getElem_mem hml)
    have hkl : m < (t.map fun (n : Nat) => (n : Int)).length := by simpa using hml
    have hd1 : t[m] < r.stops.length := hkn
    have e1 : r.stops[t[m]] = r.s t[m] := by simp [Route.s, hd1]
    have ew : IntKind.i64.wrap ((t.length : Int) - 1) = (m : Int) := by rw [w64 (by omega) (by omega)]; omega
    have ew2 := w64 (n := (m : Int) - 1) (by omega) (by omega)
    have hdm : t.drop m = [t[m]] := by rw [List.drop_eq_getElem_cons hml, ← hm, List.drop_length]
    clear h
    simp only [go_sem, init_env', Nat.reduceEqDiff, Nat.reduceAdd, Nat.reduceMul, reduceIte, Nat.reduceLeDiff, Nat.reduceLT, Nat.reduceBEq, reduceCtorEq]
    (repeat ((first | refine WV_seq_ ?_ | refine WV_block ?_ | refine WV_ops ?_ | refine WV_skip ?_ | refine WV_exit ?_); (try simp only [go_sem, init_env', Nat.reduceEqDiff, Nat.reduceAdd, Nat.reduceMul, reduceIte, Nat.reduceLeDiff, Nat.reduceLT, Nat.reduceBEq, reduceCtorEq, hP, ew, ew2, Int.toNat_natCast, map_getD hkl, map_getD hd1, List.getElem_map, Route.cds, stopsC, Stop.cds, e1, Int.ofNat_lt, hml, hd1, Int.natCast_nonneg]); (repeat (refine And.intro (by first | omega | (intros; simp_all; done) | (intros; simp_all; omega)) ?_))))
    refine WV_loopK K64_1 [] (fun s : Nat × Int => s.1 < t.length ∧ backL r (t.drop s.1) = some s.2) (fun s => s.1) (fun s => [(8, iv ((s.1 : Int) - 1)), (7, iv s.2)]) (fun _ => []) (m, (r.s t[m]).cl) ⟨hml, by rw [hdm]; rfl⟩ ?_ ?_
    · (refine Sub_of (by simp only [go_sem, init_env', Nat.reduceEqDiff, Nat.reduceAdd, Nat.reduceMul, reduceIte, Nat.reduceLeDiff, Nat.reduceLT, Nat.reduceBEq, reduceCtorEq]; ((repeat' (first | exact EnvLe_e0 _ _ | refine EnvLe_upd ?_ ?_)) <;> ((try simp only [upd_app, e0_app, o0_app, Nat.reduceEqDiff, reduceIte]); first | exact AWk.refl _ _ | exact AWk.int (by omega) | exact AWk.int (by rw [w64 (by omega) (by omega)]; omega) | exact AWk.grow rfl | exact AWk.nil _ | exact AWk.of (by simp)))) (by simp only [go_sem, init_env', Nat.reduceEqDiff, Nat.reduceAdd, Nat.reduceMul, reduceIte, Nat.reduceLeDiff, Nat.reduceLT, Nat.reduceBEq, reduceCtorEq]; ((repeat' (first | exact ObjLe_o0 _ | exact ObjLe.rfl' _ | refine ObjLe_same ?_ | refine ObjLe_upd ?_ ?_ | refine ObjLe_new rfl ?_)) <;> rfl)))
    · rintro ⟨m', b⟩ ⟨hm, hb⟩
      simp only at hm hb
      have hbd := backL_some hr _ _ (fun k hk => ht k (List.mem_of_mem_drop hk)) hb
      simp only [go_sem, init_env', Nat.reduceEqDiff, Nat.reduceAdd, Nat.reduceMul, reduceIte, Nat.reduceLeDiff, Nat.reduceLT, Nat.reduceBEq, reduceCtorEq]
      (repeat ((first | refine WV_seq_ ?_ | refine WV_block ?_ | refine WV_ops ?_ | refine WV_skip ?_ | refine WV_exit ?_); (try simp only [go_sem, init_env', Nat.reduceEqDiff, Nat.reduceAdd, Nat.reduceMul, reduceIte, Nat.reduceLeDiff, Nat.reduceLT, Nat.reduceBEq, reduceCtorEq, hP, ]); (repeat (refine And.intro (by first | omega | (intros; simp_all; done) | (intros; simp_all; omega)) ?_))))
      (refine WV_cond rfl (fun h => ?_) (fun h => ?_))
      · obtain ⟨k, rfl⟩ : ∃ k, m' = k + 1 := by
          cases m' with
          | zero => simp at h
          | succ k => exact ⟨k, rfl⟩
        have hkt : k < t.length := by omega
        have hkn : t[k] < r.n := ht _ (List.getElem_mem hkt)
        have hd1 : t[k] < r.stops.length := hkn
        have e1 : r.stops[t[k]] = r.s t[k] := by simp [Route.s, hd1]
        have hs := hr.stop _ hkn
        have ek : (((k + 1 : Nat) : Int) - 1) = (k : Int) := by omega
        rw [ek]
        clear h
        have hkl : k < (t.map fun (n : Nat) => (n : Int)).length := by simpa using hkt
        have hd : t.drop k = t[k] :: t[k + 1] :: t.drop (k + 2) := by rw [List.drop_eq_getElem_cons hkt, List.drop_eq_getElem_cons hm]
        have hd' : t.drop (k + 1) = t[k + 1] :: t.drop (k + 2) := by rw [List.drop_eq_getElem_cons hm]
        have hkn' : t[k + 1] < r.n := ht _ (List.getElem_mem hm)
        have hc := hr.cell t[k] t[k + 1] (by omega) (by omega)
        have hkl' : k + 1 < (t.map fun (n : Nat) => (n : Int)).length := by simpa using hm
        obtain ⟨hd2, hd3, e3⟩ := d_cell hr (show t[k] < r.n + 1 by omega) (show t[k + 1] < r.n + 1 by omega)
        have hw1 : IntKind.i64.wrap ((k : Int) + 1) = ((k + 1 : Nat) : Int) := by rw [w64 (by omega) (by omega)]; omega
        have hw2 := w64 (n := b - r.d t[k] t[k + 1]) (by omega) (by omega)
        have hw3 := w64 (n := b - r.d t[k] t[k + 1] - (r.s t[k]).st) (by omega) (by omega)
        have hw4 := w64 (n := (k : Int) - 1) (by omega) (by omega)
        (repeat ((first | refine WV_seq_ ?_ | refine WV_block ?_ | refine WV_ops ?_ | refine WV_skip ?_ | refine WV_exit ?_); (try simp only [go_sem, init_env', Nat.reduceEqDiff, Nat.reduceAdd, Nat.reduceMul, reduceIte, Nat.reduceLeDiff, Nat.reduceLT, Nat.reduceBEq, reduceCtorEq, hP, hw1, hw2, hw3, Int.toNat_natCast, map_getD hkl, map_getD hkl', map_getD hd1, map_getD hd2, map_getD hd3, e3, ints, driveC, List.getElem_map, Route.cds, stopsC, Stop.cds, e1, Int.ofNat_lt, hkt, hm, hd1, hd2, hd3, Int.natCast_nonneg]); (repeat (refine And.intro (by first | omega | (intros; simp_all; done) | (intros; simp_all; omega)) ?_))))
        (refine WV_cond rfl (fun h => ?_) (fun h => ?_))
        · have h0 : b - r.d t[k] t[k + 1] - (r.s t[k]).st < (r.s t[k]).op := by simpa using h
          have h' : min (r.s t[k]).cl (b - r.d t[k] t[k + 1] - (r.s t[k]).st) < (r.s t[k]).op := by omega
          have hbn : backL r (t.drop k) = none := by rw [hd]; rw [hd'] at hb; simp only [backL, hb]; rw [if_pos h']
          have hbt : backL r t = none := by
            have := backL_none (t.take k) (t.drop k) (by intro e; rw [hd] at e; cases e) hbn
            rwa [List.take_append_drop] at this
          have e : leavesS r t = -1 := by simp only [leavesS, hbt]
          rw [e]
          (repeat ((first | refine WV_seq_ ?_ | refine WV_block ?_ | refine WV_ops ?_ | refine WV_skip ?_ | refine WV_exit ?_); (try simp only [go_sem, init_env', Nat.reduceEqDiff, Nat.reduceAdd, Nat.reduceMul, reduceIte, Nat.reduceLeDiff, Nat.reduceLT, Nat.reduceBEq, reduceCtorEq, hP, ]); (repeat (refine And.intro (by first | omega | (intros; simp_all; done) | (intros; simp_all; omega)) ?_))))
          (refine WV_ret ?_; simp only [thenQ, inQ, RetQ, RetOk, resAll, resA]; simp only [go_sem, init_env', Nat.reduceEqDiff, Nat.reduceAdd, Nat.reduceMul, reduceIte, Nat.reduceLeDiff, Nat.reduceLT, Nat.reduceBEq, reduceCtorEq, tupA, AV.port, AV.portL, exists_eq_left', ]; (first | exact AVle.of rfl | refine AVle.of ?_ | skip))
        · have h0 : ¬ b - r.d t[k] t[k + 1] - (r.s t[k]).st < (r.s t[k]).op := by simpa using h
          have h' : ¬ min (r.s t[k]).cl (b - r.d t[k] t[k + 1] - (r.s t[k]).st) < (r.s t[k]).op := by omega
          have hbn : backL r (t.drop k) = some (min (r.s t[k]).cl (b - r.d t[k] t[k + 1] - (r.s t[k]).st)) := by rw [hd]; rw [hd'] at hb; simp only [backL, hb]; rw [if_neg h']
          (repeat ((first | refine WV_seq_ ?_ | refine WV_block ?_ | refine WV_ops ?_ | refine WV_skip ?_ | refine WV_exit ?_); (try simp only [go_sem, init_env', Nat.reduceEqDiff, Nat.reduceAdd, Nat.reduceMul, reduceIte, Nat.reduceLeDiff, Nat.reduceLT, Nat.reduceBEq, reduceCtorEq, hP, hw4]); (repeat (refine And.intro (by first | omega | (intros; simp_all; done) | (intros; simp_all; omega)) ?_))))
          refine ⟨(k, min (r.s t[k]).cl (b - r.d t[k] t[k + 1] - (r.s t[k]).st)), ⟨by omega, hbn⟩, by simp only; omega, ?_⟩
          (refine Sub_of (by simp only [go_sem, init_env', Nat.reduceEqDiff, Nat.reduceAdd, Nat.reduceMul, reduceIte, Nat.reduceLeDiff, Nat.reduceLT, Nat.reduceBEq, reduceCtorEq]; ((repeat' (first | exact EnvLe_e0 _ _ | refine EnvLe_upd ?_ ?_)) <;> ((try simp only [upd_app, e0_app, o0_app, Nat.reduceEqDiff, reduceIte]); first | exact AWk.refl _ _ | exact AWk.int (by omega) | exact AWk.int (by rw [w64 (by omega) (by omega)]; omega) | exact AWk.grow rfl | exact AWk.nil _ | exact AWk.of (by simp)))) (by simp only [go_sem, init_env', Nat.reduceEqDiff, Nat.reduceAdd, Nat.reduceMul, reduceIte, Nat.reduceLeDiff, Nat.reduceLT, Nat.reduceBEq, reduceCtorEq]; ((repeat' (first | exact ObjLe_o0 _ | exact ObjLe.rfl' _ | refine ObjLe_same ?_ | refine ObjLe_upd ?_ ?_ | refine ObjLe_new rfl ?_)) <;> rfl)))
      · have h : m' = 0 := by simp at h; omega
        subst h
        simp only [List.drop_zero] at hb
        · obtain ⟨k, ks, rfl⟩ : ∃ k ks, t = k :: ks := by
            cases t with
            | nil => simp at hne
            | cons k ks => exact ⟨k, ks, rfl⟩
          have hkn : k < r.n := ht _ (by simp)
          have e : leavesS r (k :: ks) = min 1440 (b - r.d r.n k) := by simp only [leavesS, hb]
          have hc := hr.cell r.n k (by omega) (by omega)
          obtain ⟨hd2, hd3, e3⟩ := d_cell hr (show r.n < r.n + 1 by omega) (show k < r.n + 1 by omega)
          have hw := w64 (n := b - r.d r.n k) (by omega) (by omega)
          rw [e]
          (repeat ((first | refine WV_seq_ ?_ | refine WV_block ?_ | refine WV_ops ?_ | refine WV_skip ?_ | refine WV_exit ?_); (try simp only [go_sem, init_env', Nat.reduceEqDiff, Nat.reduceAdd, Nat.reduceMul, reduceIte, Nat.reduceLeDiff, Nat.reduceLT, Nat.reduceBEq, reduceCtorEq, hP, hsl, hw, Int.toNat_natCast, map_getD hd2, map_getD hd3, e3, ints, driveC, Route.cds, stopsC, Int.ofNat_lt, hd2, hd3, Int.natCast_nonneg]); (repeat (refine And.intro (by first | omega | (intros; simp_all; done) | (intros; simp_all; omega)) ?_))))
          simp only [go_sem, init_env', Nat.reduceEqDiff, Nat.reduceAdd, Nat.reduceMul, reduceIte, Nat.reduceLeDiff, Nat.reduceLT, Nat.reduceBEq, reduceCtorEq, hsl, hw, Int.toNat_natCast, Int.toNat_zero, map_getD hd2, map_getD hd3, e3, ints, driveC, Route.cds, stopsC, Int.ofNat_lt, hd2, hd3, Int.natCast_nonneg]
          (repeat ((first | refine WV_seq_ ?_ | refine WV_block ?_ | refine WV_ops ?_ | refine WV_skip ?_ | refine WV_exit ?_); (try simp only [go_sem, init_env', Nat.reduceEqDiff, Nat.reduceAdd, Nat.reduceMul, reduceIte, Nat.reduceLeDiff, Nat.reduceLT, Nat.reduceBEq, reduceCtorEq, hP, ]); (repeat (refine And.intro (by first | omega | (intros; simp_all; done) | (intros; simp_all; omega)) ?_))))
          (refine WV_ret ?_; simp only [thenQ, inQ, RetQ, RetOk, resAll, resA]; simp only [go_sem, init_env', Nat.reduceEqDiff, Nat.reduceAdd, Nat.reduceMul, reduceIte, Nat.reduceLeDiff, Nat.reduceLT, Nat.reduceBEq, reduceCtorEq, tupA, AV.port, AV.portL, exists_eq_left', ]; (first | exact AVle.of rfl | refine AVle.of ?_ | skip))

def lateF (r : Route) (b : Int) (t : List Nat) : Int := if t.length = r.n then max b (leavesS r t) else b
def rlatB (r : Route) (l : List (List Nat)) : Int := l.foldl (lateF r) (-1)
def rlatS (r : Route) : Int × Int := if r.ok then (if rlatB r (allR r) < 0 then (0, 3) else (rlatB r (allR r), 0)) else (0, 80)

set_option maxHeartbeats 4000000 in
theorem rlatest37 (r : Route) : FSpec Try.prog 37 [r.av] (.tup [iv (rlatS r).1, iv (rlatS r).2]) := by
  refine FSpec_of c37 (Nat.le_refl _) (by decide) fun C hP hN hC hL => ?_
  simp only [ir37, Route.av]
  (repeat ((first | refine WV_seq_ ?_ | refine WV_block ?_ | refine WV_ops ?_ | refine WV_skip ?_ | refine WV_exit ?_); (try simp only [go_sem, init_env', Nat.reduceEqDiff, Nat.reduceAdd, Nat.reduceMul, reduceIte, Nat.reduceLeDiff, Nat.reduceLT, Nat.reduceBEq, reduceCtorEq, hP, ]); (repeat (refine And.intro (by first | omega | (intros; simp_all; done) | (intros; simp_all; omega)) ?_))))
  (refine AS_pure (check_spec r) rfl rfl rfl rfl rfl ?_; simp only [go_sem, init_env', Nat.reduceEqDiff, Nat.reduceAdd, Nat.reduceMul, reduceIte, Nat.reduceLeDiff, Nat.reduceLT, Nat.reduceBEq, reduceCtorEq, hP, Route.av]; (repeat (refine And.intro (by first | omega | (intros; simp_all; done) | (intros; simp_all; omega)) ?_)); (repeat ((first | refine WV_seq_ ?_ | refine WV_block ?_ | refine WV_ops ?_ | refine WV_skip ?_ | refine WV_exit ?_); (try simp only [go_sem, init_env', Nat.reduceEqDiff, Nat.reduceAdd, Nat.reduceMul, reduceIte, Nat.reduceLeDiff, Nat.reduceLT, Nat.reduceBEq, reduceCtorEq, hP, Route.av]); (repeat (refine And.intro (by first | omega | (intros; simp_all; done) | (intros; simp_all; omega)) ?_)))))
  by_cases hok : r.ok = true
  · have hr := Route.ok_spec hok
    have hn7 := hr.n7
    have hall := allR_count hn7
    simp only [hok, if_true]
    (refine WV_cond rfl (fun h => ?_) (fun h => ?_))
    · simp at h
    · (repeat ((first | refine WV_seq_ ?_ | refine WV_block ?_ | refine WV_ops ?_ | refine WV_skip ?_ | refine WV_exit ?_); (try simp only [go_sem, init_env', Nat.reduceEqDiff, Nat.reduceAdd, Nat.reduceMul, reduceIte, Nat.reduceLeDiff, Nat.reduceLT, Nat.reduceBEq, reduceCtorEq, hP, ]); (repeat (refine And.intro (by first | omega | (intros; simp_all; done) | (intros; simp_all; omega)) ?_))))
      (refine AS_pure (rtours0 hn7) rfl rfl rfl rfl rfl ?_; simp only [go_sem, init_env', Nat.reduceEqDiff, Nat.reduceAdd, Nat.reduceMul, reduceIte, Nat.reduceLeDiff, Nat.reduceLT, Nat.reduceBEq, reduceCtorEq, hP, Route.av]; (repeat (refine And.intro (by first | omega | (intros; simp_all; done) | (intros; simp_all; omega)) ?_)); (repeat ((first | refine WV_seq_ ?_ | refine WV_block ?_ | refine WV_ops ?_ | refine WV_skip ?_ | refine WV_exit ?_); (try simp only [go_sem, init_env', Nat.reduceEqDiff, Nat.reduceAdd, Nat.reduceMul, reduceIte, Nat.reduceLeDiff, Nat.reduceLT, Nat.reduceBEq, reduceCtorEq, hP, Route.av]); (repeat (refine And.intro (by first | omega | (intros; simp_all; done) | (intros; simp_all; omega)) ?_)))))
      refine WV_loopK K37_1 [] (fun k : Nat => k ≤ (allR r).length) (fun k => (allR r).length - k) (fun k => [(7, iv k), (5, iv (rlatB r ((allR r).take k)))]) (fun _ => []) 0 (Nat.zero_le _) ?_ ?_
      · (refine Sub_of (by simp only [go_sem, init_env', Nat.reduceEqDiff, Nat.reduceAdd, Nat.reduceMul, reduceIte, Nat.reduceLeDiff, Nat.reduceLT, Nat.reduceBEq, reduceCtorEq]; ((repeat' (first | exact EnvLe_e0 _ _ | refine EnvLe_upd ?_ ?_)) <;> ((try simp only [upd_app, e0_app, o0_app, Nat.reduceEqDiff, reduceIte]); first | exact AWk.refl _ _ | exact AWk.int (by omega) | exact AWk.int (by rw [w64 (by omega) (by omega)]; omega) | exact AWk.grow rfl | exact AWk.nil _ | exact AWk.of (by simp [rlatB])))) (by simp only [go_sem, init_env', Nat.reduceEqDiff, Nat.reduceAdd, Nat.reduceMul, reduceIte, Nat.reduceLeDiff, Nat.reduceLT, Nat.reduceBEq, reduceCtorEq]; ((repeat' (first | exact ObjLe_o0 _ | exact ObjLe.rfl' _ | refine ObjLe_same ?_ | refine ObjLe_upd ?_ ?_ | refine ObjLe_new rfl ?_)) <;> rfl)))
      · intro k hk
        simp only [go_sem, init_env', Nat.reduceEqDiff, Nat.reduceAdd, Nat.reduceMul, reduceIte, Nat.reduceLeDiff, Nat.reduceLT, Nat.reduceBEq, reduceCtorEq]
        (repeat ((first | refine WV_seq_ ?_ | refine WV_block ?_ | refine WV_ops ?_ | refine WV_skip ?_ | refine WV_exit ?_); (try simp only [go_sem, init_env', Nat.reduceEqDiff, Nat.reduceAdd, Nat.reduceMul, reduceIte, Nat.reduceLeDiff, Nat.reduceLT, Nat.reduceBEq, reduceCtorEq, hP, natss_len]); (repeat (refine And.intro (by first | omega | (intros; simp_all; done) | (intros; simp_all; omega)) ?_))))
        (refine WV_cond rfl (fun h => ?_) (fun h => ?_))
        · have h : k < (allR r).length := by simpa using h
          have hpo := allR_ok _ (List.getElem_mem h)
          have hpl := allR_len (List.getElem_mem h)
          have hla := rlatest64 hr hpo.2 (by omega)
          have hw2 := w64 (n := (k : Int) + 1) (by omega) (by omega)
          have htake : rlatB r ((allR r).take (k + 1)) = lateF r (rlatB r ((allR r).take k)) (allR r)[k] := by
            rw [List.take_succ_eq_append_getElem h]; unfold rlatB; rw [List.foldl_append]; rfl
          generalize hT : (allR r)[k] = t at *
          have hle : ((t.length : Int) == (r.stops.length : Int)) = (t.length == r.n) := by rw [ibeq]; rfl
          (repeat ((first | refine WV_seq_ ?_ | refine WV_block ?_ | refine WV_ops ?_ | refine WV_skip ?_ | refine WV_exit ?_); (try simp only [go_sem, init_env', Nat.reduceEqDiff, Nat.reduceAdd, Nat.reduceMul, reduceIte, Nat.reduceLeDiff, Nat.reduceLT, Nat.reduceBEq, reduceCtorEq, hP, Int.toNat_natCast, natss_getD h, hT, natss_len, nats, ints, stopsC, List.length_map, Int.ofNat_lt, h, Int.natCast_nonneg, hle]); (repeat (refine And.intro (by first | omega | (intros; simp_all; done) | (intros; simp_all; omega)) ?_))))
          have hk0 := h
          (refine WV_cond rfl (fun h => ?_) (fun h => ?_))
          · have h : t.length = r.n := by simpa using h
            unfold lateF at htake
            rw [if_pos h] at htake
            (repeat ((first | refine WV_seq_ ?_ | refine WV_block ?_ | refine WV_ops ?_ | refine WV_skip ?_ | refine WV_exit ?_); (try simp only [go_sem, init_env', Nat.reduceEqDiff, Nat.reduceAdd, Nat.reduceMul, reduceIte, Nat.reduceLeDiff, Nat.reduceLT, Nat.reduceBEq, reduceCtorEq, hP, Int.toNat_natCast, natss_getD hk0, hT, natss_len, Int.ofNat_lt, hk0, Int.natCast_nonneg]); (repeat (refine And.intro (by first | omega | (intros; simp_all; done) | (intros; simp_all; omega)) ?_))))
            refine ACall_of hla rfl rfl rfl rfl rfl ?_
            simp only [go_sem, init_env', Nat.reduceEqDiff, Nat.reduceAdd, Nat.reduceMul, reduceIte, Nat.reduceLeDiff, Nat.reduceLT, Nat.reduceBEq, reduceCtorEq, hP]
            (repeat ((first | refine WV_seq_ ?_ | refine WV_block ?_ | refine WV_ops ?_ | refine WV_skip ?_ | refine WV_exit ?_); (try simp only [go_sem, init_env', Nat.reduceEqDiff, Nat.reduceAdd, Nat.reduceMul, reduceIte, Nat.reduceLeDiff, Nat.reduceLT, Nat.reduceBEq, reduceCtorEq, hP, hw2]); (repeat (refine And.intro (by first | omega | (intros; simp_all; done) | (intros; simp_all; omega)) ?_))))
            refine ⟨k + 1, by omega, by omega, ?_⟩
            rw [htake]
            (refine Sub_of (by simp only [go_sem, init_env', Nat.reduceEqDiff, Nat.reduceAdd, Nat.reduceMul, reduceIte, Nat.reduceLeDiff, Nat.reduceLT, Nat.reduceBEq, reduceCtorEq]; ((repeat' (first | exact EnvLe_e0 _ _ | refine EnvLe_upd ?_ ?_)) <;> ((try simp only [upd_app, e0_app, o0_app, Nat.reduceEqDiff, reduceIte]); first | exact AWk.refl _ _ | exact AWk.int (by omega) | exact AWk.int (by rw [w64 (by omega) (by omega)]; omega) | exact AWk.grow rfl | exact AWk.nil _ | exact AWk.of (by simp)))) (by simp only [go_sem, init_env', Nat.reduceEqDiff, Nat.reduceAdd, Nat.reduceMul, reduceIte, Nat.reduceLeDiff, Nat.reduceLT, Nat.reduceBEq, reduceCtorEq]; ((repeat' (first | exact ObjLe_o0 _ | exact ObjLe.rfl' _ | refine ObjLe_same ?_ | refine ObjLe_upd ?_ ?_ | refine ObjLe_new rfl ?_)) <;> rfl)))
          · have h : ¬ t.length = r.n := by simpa using h
            unfold lateF at htake
            rw [if_neg h] at htake
            (repeat ((first | refine WV_seq_ ?_ | refine WV_block ?_ | refine WV_ops ?_ | refine WV_skip ?_ | refine WV_exit ?_); (try simp only [go_sem, init_env', Nat.reduceEqDiff, Nat.reduceAdd, Nat.reduceMul, reduceIte, Nat.reduceLeDiff, Nat.reduceLT, Nat.reduceBEq, reduceCtorEq, hP, hw2]); (repeat (refine And.intro (by first | omega | (intros; simp_all; done) | (intros; simp_all; omega)) ?_))))
            refine ⟨k + 1, by omega, by omega, ?_⟩
            rw [htake]
            (refine Sub_of (by simp only [go_sem, init_env', Nat.reduceEqDiff, Nat.reduceAdd, Nat.reduceMul, reduceIte, Nat.reduceLeDiff, Nat.reduceLT, Nat.reduceBEq, reduceCtorEq]; ((repeat' (first | exact EnvLe_e0 _ _ | refine EnvLe_upd ?_ ?_)) <;> ((try simp only [upd_app, e0_app, o0_app, Nat.reduceEqDiff, reduceIte]); first | exact AWk.refl _ _ | exact AWk.int (by omega) | exact AWk.int (by rw [w64 (by omega) (by omega)]; omega) | exact AWk.grow rfl | exact AWk.nil _ | exact AWk.of (by simp)))) (by simp only [go_sem, init_env', Nat.reduceEqDiff, Nat.reduceAdd, Nat.reduceMul, reduceIte, Nat.reduceLeDiff, Nat.reduceLT, Nat.reduceBEq, reduceCtorEq]; ((repeat' (first | exact ObjLe_o0 _ | exact ObjLe.rfl' _ | refine ObjLe_same ?_ | refine ObjLe_upd ?_ ?_ | refine ObjLe_new rfl ?_)) <;> rfl)))
        · have h : k = (allR r).length := by simp at h; omega
          subst h
          rw [List.take_length]
          (repeat ((first | refine WV_seq_ ?_ | refine WV_block ?_ | refine WV_ops ?_ | refine WV_skip ?_ | refine WV_exit ?_); (try simp only [go_sem, init_env', Nat.reduceEqDiff, Nat.reduceAdd, Nat.reduceMul, reduceIte, Nat.reduceLeDiff, Nat.reduceLT, Nat.reduceBEq, reduceCtorEq, hP, ]); (repeat (refine And.intro (by first | omega | (intros; simp_all; done) | (intros; simp_all; omega)) ?_))))
          (refine WV_cond rfl (fun h => ?_) (fun h => ?_))
          · have h : rlatB r (allR r) < 0 := by simpa using h
            (repeat ((first | refine WV_seq_ ?_ | refine WV_block ?_ | refine WV_ops ?_ | refine WV_skip ?_ | refine WV_exit ?_); (try simp only [go_sem, init_env', Nat.reduceEqDiff, Nat.reduceAdd, Nat.reduceMul, reduceIte, Nat.reduceLeDiff, Nat.reduceLT, Nat.reduceBEq, reduceCtorEq, hP, ]); (repeat (refine And.intro (by first | omega | (intros; simp_all; done) | (intros; simp_all; omega)) ?_))))
            (refine WV_ret ?_; simp only [thenQ, inQ, RetQ, RetOk, resAll, resA]; simp only [go_sem, init_env', Nat.reduceEqDiff, Nat.reduceAdd, Nat.reduceMul, reduceIte, Nat.reduceLeDiff, Nat.reduceLT, Nat.reduceBEq, reduceCtorEq, tupA, AV.port, AV.portL, exists_eq_left', ]; (first | exact AVle.of rfl | refine AVle.of ?_ | skip))
            simp [rlatS, hok, h]
          · have h : ¬ rlatB r (allR r) < 0 := by simpa using h
            (repeat ((first | refine WV_seq_ ?_ | refine WV_block ?_ | refine WV_ops ?_ | refine WV_skip ?_ | refine WV_exit ?_); (try simp only [go_sem, init_env', Nat.reduceEqDiff, Nat.reduceAdd, Nat.reduceMul, reduceIte, Nat.reduceLeDiff, Nat.reduceLT, Nat.reduceBEq, reduceCtorEq, hP, ]); (repeat (refine And.intro (by first | omega | (intros; simp_all; done) | (intros; simp_all; omega)) ?_))))
            (refine WV_ret ?_; simp only [thenQ, inQ, RetQ, RetOk, resAll, resA]; simp only [go_sem, init_env', Nat.reduceEqDiff, Nat.reduceAdd, Nat.reduceMul, reduceIte, Nat.reduceLeDiff, Nat.reduceLT, Nat.reduceBEq, reduceCtorEq, tupA, AV.port, AV.portL, exists_eq_left', ]; (first | exact AVle.of rfl | refine AVle.of ?_ | skip))
            simp [rlatS, hok, h]
  · have hok : r.ok = false := by simpa using hok
    simp only [hok, Bool.false_eq_true, if_false]
    (refine WV_cond rfl (fun h => ?_) (fun h => ?_))
    · (repeat ((first | refine WV_seq_ ?_ | refine WV_block ?_ | refine WV_ops ?_ | refine WV_skip ?_ | refine WV_exit ?_); (try simp only [go_sem, init_env', Nat.reduceEqDiff, Nat.reduceAdd, Nat.reduceMul, reduceIte, Nat.reduceLeDiff, Nat.reduceLT, Nat.reduceBEq, reduceCtorEq, hP, ]); (repeat (refine And.intro (by first | omega | (intros; simp_all; done) | (intros; simp_all; omega)) ?_))))
      (refine WV_ret ?_; simp only [thenQ, inQ, RetQ, RetOk, resAll, resA]; simp only [go_sem, init_env', Nat.reduceEqDiff, Nat.reduceAdd, Nat.reduceMul, reduceIte, Nat.reduceLeDiff, Nat.reduceLT, Nat.reduceBEq, reduceCtorEq, tupA, AV.port, AV.portL, exists_eq_left', ]; (first | exact AVle.of rfl | refine AVle.of ?_ | skip))
      simp [rlatS, hok]
    · simp at h

def rmostB (r : Route) (l : List (List Nat)) : Int := l.foldl (fun b t => max b (cashS r t)) 0
def rmostS (r : Route) : Int × Int := if r.ok then (rmostB r (goodR r false), 0) else (0, 80)
set_option maxHeartbeats 4000000 in
theorem rmost44 (r : Route) : FSpec Try.prog 44 [r.av] (.tup [iv (rmostS r).1, iv (rmostS r).2]) := by
  refine FSpec_of c44 (Nat.le_refl _) (by decide) fun C hP hN hC hL => ?_
  simp only [ir44, Route.av]
  (repeat ((first | refine WV_seq_ ?_ | refine WV_block ?_ | refine WV_ops ?_ | refine WV_skip ?_ | refine WV_exit ?_); (try simp only [go_sem, init_env', Nat.reduceEqDiff, Nat.reduceAdd, Nat.reduceMul, reduceIte, Nat.reduceLeDiff, Nat.reduceLT, Nat.reduceBEq, reduceCtorEq, hP, ]); (repeat (refine And.intro (by first | omega | (intros; simp_all; done) | (intros; simp_all; omega)) ?_))))
  (refine AS_pure (check_spec r) rfl rfl rfl rfl rfl ?_; simp only [go_sem, init_env', Nat.reduceEqDiff, Nat.reduceAdd, Nat.reduceMul, reduceIte, Nat.reduceLeDiff, Nat.reduceLT, Nat.reduceBEq, reduceCtorEq, hP, Route.av]; (repeat (refine And.intro (by first | omega | (intros; simp_all; done) | (intros; simp_all; omega)) ?_)); (repeat ((first | refine WV_seq_ ?_ | refine WV_block ?_ | refine WV_ops ?_ | refine WV_skip ?_ | refine WV_exit ?_); (try simp only [go_sem, init_env', Nat.reduceEqDiff, Nat.reduceAdd, Nat.reduceMul, reduceIte, Nat.reduceLeDiff, Nat.reduceLT, Nat.reduceBEq, reduceCtorEq, hP, Route.av]); (repeat (refine And.intro (by first | omega | (intros; simp_all; done) | (intros; simp_all; omega)) ?_)))))
  by_cases hok : r.ok = true
  · have hr := Route.ok_spec hok
    have hn7 := hr.n7
    simp only [hok, if_true]
    (refine WV_cond rfl (fun h => ?_) (fun h => ?_))
    · simp at h
    · (repeat ((first | refine WV_seq_ ?_ | refine WV_block ?_ | refine WV_ops ?_ | refine WV_skip ?_ | refine WV_exit ?_); (try simp only [go_sem, init_env', Nat.reduceEqDiff, Nat.reduceAdd, Nat.reduceMul, reduceIte, Nat.reduceLeDiff, Nat.reduceLT, Nat.reduceBEq, reduceCtorEq, hP, ]); (repeat (refine And.intro (by first | omega | (intros; simp_all; done) | (intros; simp_all; omega)) ?_))))
      (refine AS_pure (good67 hr false) rfl rfl rfl rfl rfl ?_; simp only [go_sem, init_env', Nat.reduceEqDiff, Nat.reduceAdd, Nat.reduceMul, reduceIte, Nat.reduceLeDiff, Nat.reduceLT, Nat.reduceBEq, reduceCtorEq, hP, Route.av]; (repeat (refine And.intro (by first | omega | (intros; simp_all; done) | (intros; simp_all; omega)) ?_)); (repeat ((first | refine WV_seq_ ?_ | refine WV_block ?_ | refine WV_ops ?_ | refine WV_skip ?_ | refine WV_exit ?_); (try simp only [go_sem, init_env', Nat.reduceEqDiff, Nat.reduceAdd, Nat.reduceMul, reduceIte, Nat.reduceLeDiff, Nat.reduceLT, Nat.reduceBEq, reduceCtorEq, hP, Route.av]); (repeat (refine And.intro (by first | omega | (intros; simp_all; done) | (intros; simp_all; omega)) ?_)))))
      have e : rmostS r = (rmostB r (goodR r false), 0) := by simp [rmostS, hok]
      rw [e]
      have hmem := fun t => goodR_mem (r := r) (w := false) (t := t)
      have hcnt : (goodR r false).length ≤ 16777216 := Nat.le_trans (List.length_filter_le _ _) (allR_count hn7)
      generalize goodR r false = l at *
      refine WV_loopK K44_1 [] (fun k : Nat => k ≤ l.length) (fun k => l.length - k) (fun k => [(7, iv k), (5, iv (rmostB r (l.take k)))]) (fun _ => []) 0 (Nat.zero_le _) ?_ ?_
      · (refine Sub_of (by simp only [go_sem, init_env', Nat.reduceEqDiff, Nat.reduceAdd, Nat.reduceMul, reduceIte, Nat.reduceLeDiff, Nat.reduceLT, Nat.reduceBEq, reduceCtorEq]; ((repeat' (first | exact EnvLe_e0 _ _ | refine EnvLe_upd ?_ ?_)) <;> ((try simp only [upd_app, e0_app, o0_app, Nat.reduceEqDiff, reduceIte]); first | exact AWk.refl _ _ | exact AWk.int (by omega) | exact AWk.int (by rw [w64 (by omega) (by omega)]; omega) | exact AWk.grow rfl | exact AWk.nil _ | exact AWk.of (by simp [rmostB])))) (by simp only [go_sem, init_env', Nat.reduceEqDiff, Nat.reduceAdd, Nat.reduceMul, reduceIte, Nat.reduceLeDiff, Nat.reduceLT, Nat.reduceBEq, reduceCtorEq]; ((repeat' (first | exact ObjLe_o0 _ | exact ObjLe.rfl' _ | refine ObjLe_same ?_ | refine ObjLe_upd ?_ ?_ | refine ObjLe_new rfl ?_)) <;> rfl)))
      · intro k hk
        simp only [go_sem, init_env', Nat.reduceEqDiff, Nat.reduceAdd, Nat.reduceMul, reduceIte, Nat.reduceLeDiff, Nat.reduceLT, Nat.reduceBEq, reduceCtorEq]
        (repeat ((first | refine WV_seq_ ?_ | refine WV_block ?_ | refine WV_ops ?_ | refine WV_skip ?_ | refine WV_exit ?_); (try simp only [go_sem, init_env', Nat.reduceEqDiff, Nat.reduceAdd, Nat.reduceMul, reduceIte, Nat.reduceLeDiff, Nat.reduceLT, Nat.reduceBEq, reduceCtorEq, hP, natss_len]); (repeat (refine And.intro (by first | omega | (intros; simp_all; done) | (intros; simp_all; omega)) ?_))))
        (refine WV_cond rfl (fun h => ?_) (fun h => ?_))
        · have h : k < l.length := by simpa using h
          have h1 := hmem _ (List.getElem_mem h)
          have hca := cash46 hr h1.2.1 (by omega)
          have hw2 := w64 (n := (k : Int) + 1) (by omega) (by omega)
          have hm : rmostB r (l.take (k + 1)) = max (rmostB r (l.take k)) (cashS r l[k]) := by rw [List.take_succ_eq_append_getElem h]; unfold rmostB; rw [List.foldl_append]; rfl
          (repeat ((first | refine WV_seq_ ?_ | refine WV_block ?_ | refine WV_ops ?_ | refine WV_skip ?_ | refine WV_exit ?_); (try simp only [go_sem, init_env', Nat.reduceEqDiff, Nat.reduceAdd, Nat.reduceMul, reduceIte, Nat.reduceLeDiff, Nat.reduceLT, Nat.reduceBEq, reduceCtorEq, hP, Int.toNat_natCast, natss_getD h, natss_len, Int.ofNat_lt, h, Int.natCast_nonneg]); (repeat (refine And.intro (by first | omega | (intros; simp_all; done) | (intros; simp_all; omega)) ?_))))
          refine ACall_of hca rfl rfl rfl rfl rfl ?_
          simp only [go_sem, init_env', Nat.reduceEqDiff, Nat.reduceAdd, Nat.reduceMul, reduceIte, Nat.reduceLeDiff, Nat.reduceLT, Nat.reduceBEq, reduceCtorEq, hP]
          (repeat ((first | refine WV_seq_ ?_ | refine WV_block ?_ | refine WV_ops ?_ | refine WV_skip ?_ | refine WV_exit ?_); (try simp only [go_sem, init_env', Nat.reduceEqDiff, Nat.reduceAdd, Nat.reduceMul, reduceIte, Nat.reduceLeDiff, Nat.reduceLT, Nat.reduceBEq, reduceCtorEq, hP, hw2]); (repeat (refine And.intro (by first | omega | (intros; simp_all; done) | (intros; simp_all; omega)) ?_))))
          refine ⟨k + 1, by omega, by omega, ?_⟩
          rw [hm]
          (refine Sub_of (by simp only [go_sem, init_env', Nat.reduceEqDiff, Nat.reduceAdd, Nat.reduceMul, reduceIte, Nat.reduceLeDiff, Nat.reduceLT, Nat.reduceBEq, reduceCtorEq]; ((repeat' (first | exact EnvLe_e0 _ _ | refine EnvLe_upd ?_ ?_)) <;> ((try simp only [upd_app, e0_app, o0_app, Nat.reduceEqDiff, reduceIte]); first | exact AWk.refl _ _ | exact AWk.int (by omega) | exact AWk.int (by rw [w64 (by omega) (by omega)]; omega) | exact AWk.grow rfl | exact AWk.nil _ | exact AWk.of (by simp)))) (by simp only [go_sem, init_env', Nat.reduceEqDiff, Nat.reduceAdd, Nat.reduceMul, reduceIte, Nat.reduceLeDiff, Nat.reduceLT, Nat.reduceBEq, reduceCtorEq]; ((repeat' (first | exact ObjLe_o0 _ | exact ObjLe.rfl' _ | refine ObjLe_same ?_ | refine ObjLe_upd ?_ ?_ | refine ObjLe_new rfl ?_)) <;> rfl)))
        · have h : k = l.length := by simp at h; omega
          subst h
          rw [List.take_length]
          (repeat ((first | refine WV_seq_ ?_ | refine WV_block ?_ | refine WV_ops ?_ | refine WV_skip ?_ | refine WV_exit ?_); (try simp only [go_sem, init_env', Nat.reduceEqDiff, Nat.reduceAdd, Nat.reduceMul, reduceIte, Nat.reduceLeDiff, Nat.reduceLT, Nat.reduceBEq, reduceCtorEq, hP, ]); (repeat (refine And.intro (by first | omega | (intros; simp_all; done) | (intros; simp_all; omega)) ?_))))
          (refine WV_ret ?_; simp only [thenQ, inQ, RetQ, RetOk, resAll, resA]; simp only [go_sem, init_env', Nat.reduceEqDiff, Nat.reduceAdd, Nat.reduceMul, reduceIte, Nat.reduceLeDiff, Nat.reduceLT, Nat.reduceBEq, reduceCtorEq, tupA, AV.port, AV.portL, exists_eq_left', ]; (first | exact AVle.of rfl | refine AVle.of ?_ | skip))
  · have hok : r.ok = false := by simpa using hok
    simp only [hok, Bool.false_eq_true, if_false]
    (refine WV_cond rfl (fun h => ?_) (fun h => ?_))
    · (repeat ((first | refine WV_seq_ ?_ | refine WV_block ?_ | refine WV_ops ?_ | refine WV_skip ?_ | refine WV_exit ?_); (try simp only [go_sem, init_env', Nat.reduceEqDiff, Nat.reduceAdd, Nat.reduceMul, reduceIte, Nat.reduceLeDiff, Nat.reduceLT, Nat.reduceBEq, reduceCtorEq, hP, ]); (repeat (refine And.intro (by first | omega | (intros; simp_all; done) | (intros; simp_all; omega)) ?_))))
      (refine WV_ret ?_; simp only [thenQ, inQ, RetQ, RetOk, resAll, resA]; simp only [go_sem, init_env', Nat.reduceEqDiff, Nat.reduceAdd, Nat.reduceMul, reduceIte, Nat.reduceLeDiff, Nat.reduceLT, Nat.reduceBEq, reduceCtorEq, tupA, AV.port, AV.portL, exists_eq_left', ]; (first | exact AVle.of rfl | refine AVle.of ?_ | skip))
      simp [rmostS, hok]
    · simp at h
end Go.Proofs.Ytbejgfpaokcnpaa

namespace Go.Proofs.Ytbejgfpaokcnpaa
open Go Go.V
@[reducible] def o49_0 : List Ins := [⟨(some 0), .alloc [(.c (.raw (.slice none 0 0))), (.c (.raw (.slice none 0 0))), (.c (.int .i64 0))], none, true⟩]
@[reducible] def o49_1 : List Ins := [⟨(some 1), .bld [(.c (.int .i64 0)), (.c (.int .i64 0)), (.c (.int .i64 0)), (.c (.int .i64 0))] [(0, 1, (.k (.c (.int .i64 60)))), (1, 1, (.k (.c (.int .i64 100)))), (2, 1, (.k (.c (.int .i64 10)))), (3, 1, (.k (.c (.int .i64 500))))], none, true⟩,
  ⟨(some 2), .bld [(.c (.int .i64 0)), (.c (.int .i64 0)), (.c (.int .i64 0)), (.c (.int .i64 0))] [(1, 1, (.k (.c (.int .i64 30)))), (2, 1, (.k (.c (.int .i64 5)))), (3, 1, (.k (.c (.int .i64 200))))], none, true⟩,
  ⟨(some 3), .bld [(.c (.int .i64 0)), (.c (.int .i64 0)), (.c (.int .i64 0)), (.c (.int .i64 0))] [(0, 1, (.k (.c (.int .i64 50)))), (1, 1, (.k (.c (.int .i64 200)))), (2, 1, (.k (.c (.int .i64 20)))), (3, 1, (.k (.c (.int .i64 900))))], none, true⟩,
  ⟨(some 4), .bsl 53 4 [(.t 1), (.t 2), (.t 3)], none, true⟩,
  ⟨(some 5), .bsl 3 1 [(.k (.c (.int .i64 0))), (.k (.c (.int .i64 15))), (.k (.c (.int .i64 30))), (.k (.c (.int .i64 20)))], none, true⟩,
  ⟨(some 6), .bsl 3 1 [(.k (.c (.int .i64 15))), (.k (.c (.int .i64 0))), (.k (.c (.int .i64 25))), (.k (.c (.int .i64 10)))], none, true⟩,
  ⟨(some 7), .bsl 3 1 [(.k (.c (.int .i64 30))), (.k (.c (.int .i64 25))), (.k (.c (.int .i64 0))), (.k (.c (.int .i64 40)))], none, true⟩,
  ⟨(some 8), .bsl 3 1 [(.k (.c (.int .i64 20))), (.k (.c (.int .i64 10))), (.k (.c (.int .i64 40))), (.k (.c (.int .i64 0)))], none, true⟩,
  ⟨(some 9), .bsl 33 1 [(.t 5), (.t 6), (.t 7), (.t 8)], none, true⟩,
  ⟨(some 10), .bld [(.c (.raw (.slice none 0 0))), (.c (.raw (.slice none 0 0))), (.c (.int .i64 0))] [(0, 1, (.t 4)), (1, 1, (.t 9))], none, true⟩,
  ⟨none, .st 3 (.t 0) (.t 10), none, true⟩]
@[reducible] def v49_2 : VC := (.seq (.ops o49_1) .ret)
def ir49 : FC := ⟨0, 11, [.cell 0 false 3], (.seq (.ops o49_0) v49_2)⟩
@[reducible] def o14_0 : List Ins := [⟨(some 0), .mv (.k (.c (.bool false))), none, true⟩]
@[reducible] def o14_1 : List Ins := [⟨(some 14), .call (.k (.fn 49 [])) [], none, true⟩,
  ⟨(some 1), .alloc [(.c (.raw (.slice none 0 0))), (.c (.raw (.slice none 0 0))), (.c (.int .i64 0))], none, true⟩,
  ⟨none, .st 3 (.t 1) (.t 14), none, true⟩]
@[reducible] def o14_2 : List Ins := [⟨(some 16), .ld false 3 (.t 1), none, true⟩,
  ⟨(some 17), .bsl 3 1 [(.k (.c (.int .i64 1))), (.k (.c (.int .i64 2))), (.k (.c (.int .i64 0)))], none, true⟩,
  ⟨(some 18), .call (.k (.fn 28 [])) [(.t 16), (.t 17)], none, true⟩,
  ⟨(some 15), .mv (.t 18), none, true⟩,
  ⟨(some 19), .ext (.t 15) 0, none, true⟩,
  ⟨(some 20), .ext (.t 15) 1, none, true⟩,
  ⟨(some 2), .mv (.t 19), none, true⟩,
  ⟨(some 3), .mv (.t 20), none, true⟩]
@[reducible] def o14_3 : List Ins := [⟨(some 22), .ld false 3 (.t 1), none, true⟩,
  ⟨(some 23), .call (.k (.fn 35 [])) [(.t 22)], none, true⟩,
  ⟨(some 21), .mv (.t 23), none, true⟩,
  ⟨(some 24), .ext (.t 21) 0, none, true⟩,
  ⟨(some 25), .ext (.t 21) 1, none, true⟩,
  ⟨(some 4), .mv (.t 24), none, true⟩,
  ⟨(some 5), .mv (.t 25), none, true⟩]
@[reducible] def o14_4 : List Ins := [⟨(some 27), .ld false 3 (.t 1), none, true⟩,
  ⟨(some 28), .call (.k (.fn 15 [])) [(.t 27)], none, true⟩,
  ⟨(some 26), .mv (.t 28), none, true⟩,
  ⟨(some 29), .ext (.t 26) 0, none, true⟩,
  ⟨(some 30), .ext (.t 26) 1, none, true⟩,
  ⟨(some 6), .mv (.t 29), none, true⟩,
  ⟨(some 7), .mv (.t 30), none, true⟩]
@[reducible] def o14_5 : List Ins := [⟨(some 32), .ld false 3 (.t 1), none, true⟩,
  ⟨(some 33), .call (.k (.fn 20 [])) [(.t 32)], none, true⟩,
  ⟨(some 31), .mv (.t 33), none, true⟩,
  ⟨(some 34), .ext (.t 31) 0, none, true⟩,
  ⟨(some 35), .ext (.t 31) 1, none, true⟩,
  ⟨(some 8), .mv (.t 34), none, true⟩,
  ⟨(some 9), .mv (.t 35), none, true⟩]
@[reducible] def o14_6 : List Ins := [⟨(some 37), .ld false 3 (.t 1), none, true⟩,
  ⟨(some 38), .bsl 3 1 [(.k (.c (.int .i64 0))), (.k (.c (.int .i64 1))), (.k (.c (.int .i64 2)))], none, true⟩,
  ⟨(some 39), .call (.k (.fn 30 [])) [(.t 37), (.t 38)], none, true⟩,
  ⟨(some 36), .mv (.t 39), none, true⟩,
  ⟨(some 40), .ext (.t 36) 0, none, true⟩,
  ⟨(some 41), .ext (.t 36) 1, none, true⟩,
  ⟨(some 10), .mv (.t 40), none, true⟩,
  ⟨(some 11), .mv (.t 41), none, true⟩]
@[reducible] def o14_7 : List Ins := [⟨(some 42), .fa 2 (.t 1), none, true⟩,
  ⟨none, .st 1 (.t 42) (.k (.c (.int .i64 50))), none, true⟩]
@[reducible] def o14_8 : List Ins := [⟨(some 44), .ld false 3 (.t 1), none, true⟩,
  ⟨(some 45), .call (.k (.fn 41 [])) [(.t 44)], none, true⟩,
  ⟨(some 43), .mv (.t 45), none, true⟩,
  ⟨(some 46), .ext (.t 43) 0, none, true⟩,
  ⟨(some 47), .ext (.t 43) 1, none, true⟩,
  ⟨(some 12), .mv (.t 46), none, true⟩,
  ⟨(some 13), .mv (.t 47), none, true⟩]
@[reducible] def o14_9 : List Ins := [⟨(some 48), .mv (.t 3), none, true⟩,
  ⟨(some 49), .bin .eql (.t 48) (.k (.c (.int .i64 0))), none, true⟩,
  ⟨(some 50), .mv (.t 49), none, true⟩,
  ⟨(some 51), .mv (.t 5), (some (50, true)), true⟩,
  ⟨(some 52), .bin .eql (.t 51) (.k (.c (.int .i64 0))), (some (50, true)), true⟩,
  ⟨(some 53), .pick (.t 50) (.t 52) (.k (.c (.bool false))), none, true⟩,
  ⟨(some 54), .mv (.t 53), none, true⟩,
  ⟨(some 55), .mv (.t 7), (some (54, true)), true⟩,
  ⟨(some 56), .bin .eql (.t 55) (.k (.c (.int .i64 0))), (some (54, true)), true⟩,
  ⟨(some 57), .pick (.t 54) (.t 56) (.k (.c (.bool false))), none, true⟩,
  ⟨(some 58), .mv (.t 57), none, true⟩,
  ⟨(some 59), .mv (.t 9), (some (58, true)), true⟩,
  ⟨(some 60), .bin .eql (.t 59) (.k (.c (.int .i64 0))), (some (58, true)), true⟩,
  ⟨(some 61), .pick (.t 58) (.t 60) (.k (.c (.bool false))), none, true⟩,
  ⟨(some 62), .mv (.t 61), none, true⟩,
  ⟨(some 63), .mv (.t 11), (some (62, true)), true⟩,
  ⟨(some 64), .bin .eql (.t 63) (.k (.c (.int .i64 81))), (some (62, true)), true⟩,
  ⟨(some 65), .pick (.t 62) (.t 64) (.k (.c (.bool false))), none, true⟩,
  ⟨(some 66), .mv (.t 65), none, true⟩,
  ⟨(some 67), .mv (.t 13), (some (66, true)), true⟩,
  ⟨(some 68), .bin .eql (.t 67) (.k (.c (.int .i64 0))), (some (66, true)), true⟩,
  ⟨(some 69), .pick (.t 66) (.t 68) (.k (.c (.bool false))), none, true⟩,
  ⟨(some 70), .mv (.t 69), none, true⟩,
  ⟨(some 71), .mv (.t 2), (some (70, true)), true⟩,
  ⟨(some 72), .bsl 3 1 [(.k (.c (.int .i64 10))), (.k (.c (.int .i64 50))), (.k (.c (.int .i64 100)))], (some (70, true)), true⟩,
  ⟨(some 73), .call (.k (.fn 34 [])) [(.t 71), (.t 72)], (some (70, true)), true⟩,
  ⟨(some 74), .pick (.t 70) (.t 73) (.k (.c (.bool false))), none, true⟩,
  ⟨(some 75), .mv (.t 74), none, true⟩,
  ⟨(some 76), .mv (.t 4), (some (75, true)), true⟩,
  ⟨(some 77), .bin .eql (.t 76) (.k (.c (.int .i64 130))), (some (75, true)), true⟩,
  ⟨(some 78), .pick (.t 75) (.t 77) (.k (.c (.bool false))), none, true⟩,
  ⟨(some 79), .mv (.t 78), none, true⟩,
  ⟨(some 80), .mv (.t 6), (some (79, true)), true⟩,
  ⟨(some 81), .bin .eql (.t 80) (.k (.c (.int .i64 20))), (some (79, true)), true⟩,
  ⟨(some 82), .pick (.t 79) (.t 81) (.k (.c (.bool false))), none, true⟩,
  ⟨(some 83), .mv (.t 82), none, true⟩,
  ⟨(some 84), .mv (.t 8), (some (83, true)), true⟩,
  ⟨(some 85), .bin .eql (.t 84) (.k (.c (.int .i64 85))), (some (83, true)), true⟩,
  ⟨(some 86), .pick (.t 83) (.t 85) (.k (.c (.bool false))), none, true⟩,
  ⟨(some 87), .mv (.t 86), none, true⟩,
  ⟨(some 88), .mv (.t 12), (some (87, true)), true⟩,
  ⟨(some 89), .bin .eql (.t 88) (.k (.c (.int .i64 1400))), (some (87, true)), true⟩,
  ⟨(some 90), .pick (.t 87) (.t 89) (.k (.c (.bool false))), none, true⟩,
  ⟨(some 0), .mv (.t 90), none, true⟩]
@[reducible] def v14_10 : VC := (.seq (.ops o14_9) .ret)
@[reducible] def v14_11 : VC := (.seq (.ops o14_8) v14_10)
@[reducible] def v14_12 : VC := (.seq (.ops o14_7) v14_11)
@[reducible] def v14_13 : VC := (.seq (.ops o14_6) v14_12)
@[reducible] def v14_14 : VC := (.seq (.ops o14_5) v14_13)
@[reducible] def v14_15 : VC := (.seq (.ops o14_4) v14_14)
@[reducible] def v14_16 : VC := (.seq (.ops o14_3) v14_15)
@[reducible] def v14_17 : VC := (.seq (.ops o14_2) v14_16)
@[reducible] def v14_18 : VC := (.seq (.ops o14_1) v14_17)
def ir14 : FC := ⟨0, 91, [.t 0], (.seq (.ops o14_0) v14_18)⟩
theorem c49 : compM Try.prog [] 49 = some ir49 := by kernel_rfl
theorem c14 : compM Try.prog [] 14 = some ir14 := by kernel_rfl



/-- The route of the chapter's examples. -/
def exR : Route := ⟨[⟨60, 100, 10, 500⟩, ⟨0, 30, 5, 200⟩, ⟨50, 200, 20, 900⟩], [[0, 15, 30, 20], [15, 0, 25, 10], [30, 25, 0, 40], [20, 10, 40, 0]], 0⟩
def exR50 : Route := { exR with start := 50 }

theorem example49 : FSpec Try.prog 49 [] exR.av := by
  refine FSpec_of c49 (Nat.le_refl _) (by decide) fun C hP hN hC hL => ?_
  simp only [ir49]
  (repeat ((first | refine WV_seq_ ?_ | refine WV_block ?_ | refine WV_ops ?_ | refine WV_skip ?_ | refine WV_exit ?_); (try simp only [go_sem, init_env', Nat.reduceEqDiff, Nat.reduceAdd, Nat.reduceMul, reduceIte, Nat.reduceLeDiff, Nat.reduceLT, Nat.reduceBEq, reduceCtorEq, hP, ]); (repeat (refine And.intro (by first | omega | (intros; simp_all; done) | (intros; simp_all; omega)) ?_))))
  (refine WV_ret ?_; simp only [thenQ, inQ, RetQ, RetOk, resAll, resA]; simp only [go_sem, init_env', Nat.reduceEqDiff, Nat.reduceAdd, Nat.reduceMul, reduceIte, Nat.reduceLeDiff, Nat.reduceLT, Nat.reduceBEq, reduceCtorEq, tupA, AV.port, AV.portL, exists_eq_left', ]; (first | exact AVle.of rfl | refine AVle.of ?_ | skip))

theorem exTimes : timesS exR [1, 2, 0] = ([10, 50, 100], 0) := by kernel_rfl
theorem exBack : backS exR [0, 1, 2] = (0, 81) := by kernel_rfl
theorem exSoon : soonS exR = (130, 0) := by kernel_rfl
theorem exLate : latestS exR = (20, 0) := by kernel_rfl
theorem exShort : shortestS exR = (85, 0) := by kernel_rfl
theorem exMost : mostS exR50 = (1400, 0) := by kernel_rfl

set_option maxRecDepth 20000 in
set_option maxHeartbeats 8000000 in
theorem works14 : FSpec Try.prog 14 [] (.c (.bool true)) := by
  have h1 := times28 exR [1, 2, 0] (by decide)
  rw [exTimes] at h1
  have h2 := soon35 exR
  rw [exSoon] at h2
  have h3 := latest15 exR
  rw [exLate] at h3
  have h4 := shortest20 exR
  rw [exShort] at h4
  have h5 := back30 exR [0, 1, 2] (by decide)
  rw [exBack] at h5
  have h6 := most41 exR50
  rw [exMost] at h6
  refine FSpec_of c14 (Nat.le_refl _) (by decide) fun C hP hN hC hL => ?_
  simp only [ir14]
  (repeat ((first | refine WV_seq_ ?_ | refine WV_block ?_ | refine WV_ops ?_ | refine WV_skip ?_ | refine WV_exit ?_); (try simp only [go_sem, init_env', Nat.reduceEqDiff, Nat.reduceAdd, Nat.reduceMul, reduceIte, Nat.reduceLeDiff, Nat.reduceLT, Nat.reduceBEq, reduceCtorEq, hP, ]); (repeat (refine And.intro (by first | omega | (intros; simp_all; done) | (intros; simp_all; omega)) ?_))))
  (refine AS_pure (example49) rfl rfl rfl rfl rfl ?_; simp only [go_sem, init_env', Nat.reduceEqDiff, Nat.reduceAdd, Nat.reduceMul, reduceIte, Nat.reduceLeDiff, Nat.reduceLT, Nat.reduceBEq, reduceCtorEq, hP, Route.av]; (repeat (refine And.intro (by first | omega | (intros; simp_all; done) | (intros; simp_all; omega)) ?_)); (repeat ((first | refine WV_seq_ ?_ | refine WV_block ?_ | refine WV_ops ?_ | refine WV_skip ?_ | refine WV_exit ?_); (try simp only [go_sem, init_env', Nat.reduceEqDiff, Nat.reduceAdd, Nat.reduceMul, reduceIte, Nat.reduceLeDiff, Nat.reduceLT, Nat.reduceBEq, reduceCtorEq, hP, Route.av]); (repeat (refine And.intro (by first | omega | (intros; simp_all; done) | (intros; simp_all; omega)) ?_)))))
  (refine AS_pure (h1) rfl rfl rfl rfl rfl ?_; simp only [go_sem, init_env', Nat.reduceEqDiff, Nat.reduceAdd, Nat.reduceMul, reduceIte, Nat.reduceLeDiff, Nat.reduceLT, Nat.reduceBEq, reduceCtorEq, hP, Route.av]; (repeat (refine And.intro (by first | omega | (intros; simp_all; done) | (intros; simp_all; omega)) ?_)); (repeat ((first | refine WV_seq_ ?_ | refine WV_block ?_ | refine WV_ops ?_ | refine WV_skip ?_ | refine WV_exit ?_); (try simp only [go_sem, init_env', Nat.reduceEqDiff, Nat.reduceAdd, Nat.reduceMul, reduceIte, Nat.reduceLeDiff, Nat.reduceLT, Nat.reduceBEq, reduceCtorEq, hP, Route.av]); (repeat (refine And.intro (by first | omega | (intros; simp_all; done) | (intros; simp_all; omega)) ?_)))))
  (refine AS_pure (h2) rfl rfl rfl rfl rfl ?_; simp only [go_sem, init_env', Nat.reduceEqDiff, Nat.reduceAdd, Nat.reduceMul, reduceIte, Nat.reduceLeDiff, Nat.reduceLT, Nat.reduceBEq, reduceCtorEq, hP, Route.av]; (repeat (refine And.intro (by first | omega | (intros; simp_all; done) | (intros; simp_all; omega)) ?_)); (repeat ((first | refine WV_seq_ ?_ | refine WV_block ?_ | refine WV_ops ?_ | refine WV_skip ?_ | refine WV_exit ?_); (try simp only [go_sem, init_env', Nat.reduceEqDiff, Nat.reduceAdd, Nat.reduceMul, reduceIte, Nat.reduceLeDiff, Nat.reduceLT, Nat.reduceBEq, reduceCtorEq, hP, Route.av]); (repeat (refine And.intro (by first | omega | (intros; simp_all; done) | (intros; simp_all; omega)) ?_)))))
  (refine AS_pure (h3) rfl rfl rfl rfl rfl ?_; simp only [go_sem, init_env', Nat.reduceEqDiff, Nat.reduceAdd, Nat.reduceMul, reduceIte, Nat.reduceLeDiff, Nat.reduceLT, Nat.reduceBEq, reduceCtorEq, hP, Route.av]; (repeat (refine And.intro (by first | omega | (intros; simp_all; done) | (intros; simp_all; omega)) ?_)); (repeat ((first | refine WV_seq_ ?_ | refine WV_block ?_ | refine WV_ops ?_ | refine WV_skip ?_ | refine WV_exit ?_); (try simp only [go_sem, init_env', Nat.reduceEqDiff, Nat.reduceAdd, Nat.reduceMul, reduceIte, Nat.reduceLeDiff, Nat.reduceLT, Nat.reduceBEq, reduceCtorEq, hP, Route.av]); (repeat (refine And.intro (by first | omega | (intros; simp_all; done) | (intros; simp_all; omega)) ?_)))))
  (refine AS_pure (h4) rfl rfl rfl rfl rfl ?_; simp only [go_sem, init_env', Nat.reduceEqDiff, Nat.reduceAdd, Nat.reduceMul, reduceIte, Nat.reduceLeDiff, Nat.reduceLT, Nat.reduceBEq, reduceCtorEq, hP, Route.av]; (repeat (refine And.intro (by first | omega | (intros; simp_all; done) | (intros; simp_all; omega)) ?_)); (repeat ((first | refine WV_seq_ ?_ | refine WV_block ?_ | refine WV_ops ?_ | refine WV_skip ?_ | refine WV_exit ?_); (try simp only [go_sem, init_env', Nat.reduceEqDiff, Nat.reduceAdd, Nat.reduceMul, reduceIte, Nat.reduceLeDiff, Nat.reduceLT, Nat.reduceBEq, reduceCtorEq, hP, Route.av]); (repeat (refine And.intro (by first | omega | (intros; simp_all; done) | (intros; simp_all; omega)) ?_)))))
  (refine AS_pure (h5) rfl rfl rfl rfl rfl ?_; simp only [go_sem, init_env', Nat.reduceEqDiff, Nat.reduceAdd, Nat.reduceMul, reduceIte, Nat.reduceLeDiff, Nat.reduceLT, Nat.reduceBEq, reduceCtorEq, hP, Route.av]; (repeat (refine And.intro (by first | omega | (intros; simp_all; done) | (intros; simp_all; omega)) ?_)); (repeat ((first | refine WV_seq_ ?_ | refine WV_block ?_ | refine WV_ops ?_ | refine WV_skip ?_ | refine WV_exit ?_); (try simp only [go_sem, init_env', Nat.reduceEqDiff, Nat.reduceAdd, Nat.reduceMul, reduceIte, Nat.reduceLeDiff, Nat.reduceLT, Nat.reduceBEq, reduceCtorEq, hP, Route.av]); (repeat (refine And.intro (by first | omega | (intros; simp_all; done) | (intros; simp_all; omega)) ?_)))))
  (refine AS_pure (h6) rfl rfl rfl rfl rfl ?_; simp only [go_sem, init_env', Nat.reduceEqDiff, Nat.reduceAdd, Nat.reduceMul, reduceIte, Nat.reduceLeDiff, Nat.reduceLT, Nat.reduceBEq, reduceCtorEq, hP, Route.av, beq_self_eq_true]; (repeat (refine And.intro (by first | omega | (intros; simp_all; done) | (intros; simp_all; omega)) ?_)); (repeat ((first | refine WV_seq_ ?_ | refine WV_block ?_ | refine WV_ops ?_ | refine WV_skip ?_ | refine WV_exit ?_); (try simp only [go_sem, init_env', Nat.reduceEqDiff, Nat.reduceAdd, Nat.reduceMul, reduceIte, Nat.reduceLeDiff, Nat.reduceLT, Nat.reduceBEq, reduceCtorEq, hP, Route.av, beq_self_eq_true]); (repeat (refine And.intro (by first | omega | (intros; simp_all; done) | (intros; simp_all; omega)) ?_)))))
  (refine AG_pure (fun hG => same34 [10, 50, 100] [10, 50, 100]) rfl (fun hG => by simp only [go_sem, init_env', Nat.reduceEqDiff, Nat.reduceAdd, Nat.reduceMul, reduceIte, Nat.reduceLeDiff, Nat.reduceLT, Nat.reduceBEq, reduceCtorEq, hG]) rfl rfl rfl ?_; simp only [go_sem, init_env', Nat.reduceEqDiff, Nat.reduceAdd, Nat.reduceMul, reduceIte, Nat.reduceLeDiff, Nat.reduceLT, Nat.reduceBEq, reduceCtorEq, hP, beq_self_eq_true, decide_true]; (repeat (refine And.intro (by first | omega | (intros; simp_all; done) | (intros; simp_all; omega)) ?_)); (repeat ((first | refine WV_seq_ ?_ | refine WV_block ?_ | refine WV_ops ?_ | refine WV_skip ?_ | refine WV_exit ?_); (try simp only [go_sem, init_env', Nat.reduceEqDiff, Nat.reduceAdd, Nat.reduceMul, reduceIte, Nat.reduceLeDiff, Nat.reduceLT, Nat.reduceBEq, reduceCtorEq, hP, beq_self_eq_true, decide_true]); (repeat (refine And.intro (by first | omega | (intros; simp_all; done) | (intros; simp_all; omega)) ?_)))))
  (refine WV_ret ?_; simp only [thenQ, inQ, RetQ, RetOk, resAll, resA]; simp only [go_sem, init_env', Nat.reduceEqDiff, Nat.reduceAdd, Nat.reduceMul, reduceIte, Nat.reduceLeDiff, Nat.reduceLT, Nat.reduceBEq, reduceCtorEq, tupA, AV.port, AV.portL, exists_eq_left', ]; (first | exact AVle.of rfl | refine AVle.of ?_ | skip))
end Go.Proofs.Ytbejgfpaokcnpaa

namespace Go.Proofs.Ytbejgfpaokcnpaa
open Go Go.V
@[reducible] def o19_0 : List Ins := [⟨(some 1), .box 3 (.t 0), none, true⟩,
  ⟨(some 2), .mv (.k (.c (.bool false))), none, true⟩]
@[reducible] def o19_1 : List Ins := [⟨(some 4), .fa 0 (.t 1), none, true⟩,
  ⟨(some 5), .ld true 1 (.t 4), none, true⟩,
  ⟨(some 6), .len (.t 5), none, true⟩,
  ⟨(some 7), .bin .gtr (.t 6) (.k (.c (.int .i64 20))), none, true⟩,
  ⟨(some 8), .mv (.t 7), none, true⟩,
  ⟨(some 9), .fa 1 (.t 1), (some (8, false)), true⟩,
  ⟨(some 10), .ld true 1 (.t 9), (some (8, false)), true⟩,
  ⟨(some 11), .len (.t 10), (some (8, false)), true⟩,
  ⟨(some 12), .bin .gtr (.t 11) (.k (.c (.int .i64 20))), (some (8, false)), true⟩,
  ⟨(some 13), .pick (.t 8) (.k (.c (.bool true))) (.t 12), none, true⟩]
@[reducible] def o19_2 : List Ins := [⟨(some 2), .mv (.k (.c (.bool true))), none, true⟩]
@[reducible] def v19_3 : VC := (.seq (.ops o19_2) .ret)
@[reducible] def v19_4 : VC := (.cond (.t 13) v19_3 .skip)
@[reducible] def o19_5 : List Ins := [⟨(some 3), .mv (.k (.c (.int .i64 0))), none, true⟩]
@[reducible] def o19_6 : List Ins := [⟨(some 14), .mv (.t 3), none, true⟩,
  ⟨(some 15), .fa 1 (.t 1), none, true⟩,
  ⟨(some 16), .ld true 1 (.t 15), none, true⟩,
  ⟨(some 17), .len (.t 16), none, true⟩,
  ⟨(some 18), .bin .lss (.t 14) (.t 17), none, true⟩]
@[reducible] def v19_7 : VC := (.cond (.t 18) .skip (.exit 0))
@[reducible] def o19_8 : List Ins := [⟨(some 21), .fa 1 (.t 1), none, true⟩,
  ⟨(some 22), .ld true 1 (.t 21), none, true⟩,
  ⟨(some 23), .mv (.t 3), none, true⟩,
  ⟨(some 24), .ia 1 (.t 22) (.t 23), none, true⟩,
  ⟨(some 25), .ld true 1 (.t 24), none, true⟩,
  ⟨(some 26), .len (.t 25), none, true⟩,
  ⟨(some 27), .bin .gtr (.t 26) (.k (.c (.int .i64 20))), none, true⟩]
@[reducible] def o19_9 : List Ins := [⟨(some 2), .mv (.k (.c (.bool true))), none, true⟩]
@[reducible] def v19_10 : VC := (.seq (.ops o19_9) .ret)
@[reducible] def v19_11 : VC := (.cond (.t 27) v19_10 .skip)
@[reducible] def v19_12 : VC := (.seq (.ops o19_8) v19_11)
@[reducible] def o19_13 : List Ins := [⟨(some 19), .mv (.t 3), none, true⟩,
  ⟨(some 20), .bin .add (.t 19) (.k (.c (.int .i64 1))), none, true⟩,
  ⟨(some 3), .mv (.t 20), none, true⟩]
@[reducible] def v19_14 : VC := (.seq (.block 1 v19_12) (.ops o19_13))
@[reducible] def v19_15 : VC := (.seq (.seq (.ops o19_6) v19_7) v19_14)
-- K19_1: changed and kept: [3]
@[reducible] def K19_1 : List Nat := [1]
@[reducible] def v19_16 : VC := (.loop v19_15)
@[reducible] def v19_17 : VC := (.block 0 v19_16)
@[reducible] def o19_18 : List Ins := [⟨(some 28), .fa 0 (.t 1), none, true⟩,
  ⟨(some 29), .ld true 1 (.t 28), none, true⟩,
  ⟨(some 30), .len (.t 29), none, true⟩,
  ⟨(some 31), .bin .gtr (.t 30) (.k (.c (.int .i64 5))), none, true⟩,
  ⟨(some 32), .mv (.t 31), none, true⟩,
  ⟨(some 33), .ld false 3 (.t 1), (some (32, true)), true⟩,
  ⟨(some 34), .call (.k (.fn 27 [])) [(.t 33)], (some (32, true)), true⟩,
  ⟨(some 35), .bin .eql (.t 34) (.k (.c (.int .i64 0))), (some (32, true)), true⟩,
  ⟨(some 36), .pick (.t 32) (.t 35) (.k (.c (.bool false))), none, true⟩,
  ⟨(some 2), .mv (.t 36), none, true⟩]
@[reducible] def v19_19 : VC := (.seq (.ops o19_18) .ret)
@[reducible] def v19_20 : VC := (.seq (.seq (.ops o19_5) v19_17) v19_19)
@[reducible] def v19_21 : VC := (.seq (.seq (.ops o19_1) v19_4) v19_20)
def ir19 : FC := ⟨1, 37, [.t 2], (.seq (.ops o19_0) v19_21)⟩
@[reducible] def o22_0 : List Ins := [⟨(some 2), .box 3 (.t 0), none, true⟩,
  ⟨(some 3), .box 3 (.t 1), none, true⟩,
  ⟨(some 4), .mv (.k (.c (.bool false))), none, true⟩]
@[reducible] def o22_1 : List Ins := [⟨(some 7), .fa 2 (.t 2), none, true⟩,
  ⟨(some 8), .ld true 1 (.t 7), none, true⟩,
  ⟨(some 9), .fa 2 (.t 3), none, true⟩,
  ⟨(some 10), .ld true 1 (.t 9), none, true⟩,
  ⟨(some 11), .bin .neq (.t 8) (.t 10), none, true⟩,
  ⟨(some 12), .mv (.t 11), none, true⟩,
  ⟨(some 13), .fa 0 (.t 2), (some (12, false)), true⟩,
  ⟨(some 14), .ld true 1 (.t 13), (some (12, false)), true⟩,
  ⟨(some 15), .len (.t 14), (some (12, false)), true⟩,
  ⟨(some 16), .fa 0 (.t 3), (some (12, false)), true⟩,
  ⟨(some 17), .ld true 1 (.t 16), (some (12, false)), true⟩,
  ⟨(some 18), .len (.t 17), (some (12, false)), true⟩,
  ⟨(some 19), .bin .neq (.t 15) (.t 18), (some (12, false)), true⟩,
  ⟨(some 20), .pick (.t 12) (.k (.c (.bool true))) (.t 19), none, true⟩,
  ⟨(some 21), .mv (.t 20), none, true⟩,
  ⟨(some 22), .fa 1 (.t 2), (some (21, false)), true⟩,
  ⟨(some 23), .ld true 1 (.t 22), (some (21, false)), true⟩,
  ⟨(some 24), .len (.t 23), (some (21, false)), true⟩,
  ⟨(some 25), .fa 1 (.t 3), (some (21, false)), true⟩,
  ⟨(some 26), .ld true 1 (.t 25), (some (21, false)), true⟩,
  ⟨(some 27), .len (.t 26), (some (21, false)), true⟩,
  ⟨(some 28), .bin .neq (.t 24) (.t 27), (some (21, false)), true⟩,
  ⟨(some 29), .pick (.t 21) (.k (.c (.bool true))) (.t 28), none, true⟩]
@[reducible] def o22_2 : List Ins := [⟨(some 4), .mv (.k (.c (.bool false))), none, true⟩]
@[reducible] def v22_3 : VC := (.seq (.ops o22_2) .ret)
@[reducible] def v22_4 : VC := (.cond (.t 29) v22_3 .skip)
@[reducible] def o22_5 : List Ins := [⟨(some 5), .mv (.k (.c (.int .i64 0))), none, true⟩]
@[reducible] def o22_6 : List Ins := [⟨(some 30), .mv (.t 5), none, true⟩,
  ⟨(some 31), .fa 0 (.t 2), none, true⟩,
  ⟨(some 32), .ld true 1 (.t 31), none, true⟩,
  ⟨(some 33), .len (.t 32), none, true⟩,
  ⟨(some 34), .bin .lss (.t 30) (.t 33), none, true⟩]
@[reducible] def v22_7 : VC := (.cond (.t 34) .skip (.exit 0))
@[reducible] def o22_8 : List Ins := [⟨(some 37), .fa 0 (.t 2), none, false⟩,
  ⟨(some 38), .ld true 1 (.t 37), none, false⟩,
  ⟨(some 39), .mv (.t 5), none, false⟩,
  ⟨(some 40), .ia 4 (.t 38) (.t 39), none, false⟩,
  ⟨(some 41), .ld false 4 (.t 40), none, false⟩,
  ⟨(some 42), .fa 0 (.t 3), none, false⟩,
  ⟨(some 43), .ld true 1 (.t 42), none, false⟩,
  ⟨(some 44), .mv (.t 5), none, false⟩,
  ⟨(some 45), .ia 4 (.t 43) (.t 44), none, false⟩,
  ⟨(some 46), .ld false 4 (.t 45), none, false⟩,
  ⟨(some 47), .seq true [(0, true), (1, true), (2, true), (3, true)] (.t 41) (.t 46), none, true⟩]
@[reducible] def o22_9 : List Ins := [⟨(some 4), .mv (.k (.c (.bool false))), none, true⟩]
@[reducible] def v22_10 : VC := (.seq (.ops o22_9) .ret)
@[reducible] def v22_11 : VC := (.cond (.t 47) v22_10 .skip)
@[reducible] def v22_12 : VC := (.seq (.ops o22_8) v22_11)
@[reducible] def o22_13 : List Ins := [⟨(some 35), .mv (.t 5), none, true⟩,
  ⟨(some 36), .bin .add (.t 35) (.k (.c (.int .i64 1))), none, true⟩,
  ⟨(some 5), .mv (.t 36), none, true⟩]
@[reducible] def v22_14 : VC := (.seq (.block 1 v22_12) (.ops o22_13))
@[reducible] def v22_15 : VC := (.seq (.seq (.ops o22_6) v22_7) v22_14)
-- K22_1: changed and kept: [5]
@[reducible] def K22_1 : List Nat := [2, 3]
@[reducible] def v22_16 : VC := (.loop v22_15)
@[reducible] def v22_17 : VC := (.block 0 v22_16)
@[reducible] def o22_18 : List Ins := [⟨(some 6), .mv (.k (.c (.int .i64 0))), none, true⟩]
@[reducible] def o22_19 : List Ins := [⟨(some 48), .mv (.t 6), none, true⟩,
  ⟨(some 49), .fa 1 (.t 2), none, true⟩,
  ⟨(some 50), .ld true 1 (.t 49), none, true⟩,
  ⟨(some 51), .len (.t 50), none, true⟩,
  ⟨(some 52), .bin .lss (.t 48) (.t 51), none, true⟩]
@[reducible] def v22_20 : VC := (.cond (.t 52) .skip (.exit 2))
@[reducible] def o22_21 : List Ins := [⟨(some 55), .fa 1 (.t 2), none, false⟩,
  ⟨(some 56), .ld true 1 (.t 55), none, false⟩,
  ⟨(some 57), .mv (.t 6), none, false⟩,
  ⟨(some 58), .ia 1 (.t 56) (.t 57), none, false⟩,
  ⟨(some 59), .ld true 1 (.t 58), none, false⟩,
  ⟨(some 60), .fa 1 (.t 3), none, false⟩,
  ⟨(some 61), .ld true 1 (.t 60), none, false⟩,
  ⟨(some 62), .mv (.t 6), none, false⟩,
  ⟨(some 63), .ia 1 (.t 61) (.t 62), none, false⟩,
  ⟨(some 64), .ld true 1 (.t 63), none, false⟩,
  ⟨(some 65), .call (.k (.fn 34 [])) [(.t 59), (.t 64)], none, true⟩,
  ⟨(some 66), .un .not (.t 65), none, true⟩]
@[reducible] def o22_22 : List Ins := [⟨(some 4), .mv (.k (.c (.bool false))), none, true⟩]
@[reducible] def v22_23 : VC := (.seq (.ops o22_22) .ret)
@[reducible] def v22_24 : VC := (.cond (.t 66) v22_23 .skip)
@[reducible] def v22_25 : VC := (.seq (.ops o22_21) v22_24)
@[reducible] def o22_26 : List Ins := [⟨(some 53), .mv (.t 6), none, true⟩,
  ⟨(some 54), .bin .add (.t 53) (.k (.c (.int .i64 1))), none, true⟩,
  ⟨(some 6), .mv (.t 54), none, true⟩]
@[reducible] def v22_27 : VC := (.seq (.block 3 v22_25) (.ops o22_26))
@[reducible] def v22_28 : VC := (.seq (.seq (.ops o22_19) v22_20) v22_27)
-- K22_2: changed and kept: [6]
@[reducible] def K22_2 : List Nat := [2, 3]
@[reducible] def v22_29 : VC := (.loop v22_28)
@[reducible] def v22_30 : VC := (.block 2 v22_29)
@[reducible] def o22_31 : List Ins := [⟨(some 4), .mv (.k (.c (.bool true))), none, true⟩]
@[reducible] def v22_32 : VC := (.seq (.ops o22_31) .ret)
@[reducible] def v22_33 : VC := (.seq (.seq (.ops o22_18) v22_30) v22_32)
@[reducible] def v22_34 : VC := (.seq (.seq (.ops o22_5) v22_17) v22_33)
@[reducible] def v22_35 : VC := (.seq (.seq (.ops o22_1) v22_4) v22_34)
def ir22 : FC := ⟨2, 67, [.t 4], (.seq (.ops o22_0) v22_35)⟩
theorem c19 : compM Try.prog [] 19 = some ir19 := by kernel_rfl
theorem c22 : compM Try.prog [] 22 = some ir22 := by kernel_rfl



def near (r : Route) : Bool := decide (r.stops.length ≤ 20) && decide (r.drive.length ≤ 20) && r.drive.all fun l => decide (l.length ≤ 20)
def farS (r : Route) : Bool := if near r then decide (5 < r.stops.length) && r.ok else true

set_option maxHeartbeats 4000000 in
theorem far19 (r : Route) : FSpec Try.prog 19 [r.av] (.c (.bool (farS r))) := by
  refine FSpec_of c19 (Nat.le_refl _) (by decide) fun C hP hN hC hL => ?_
  obtain ⟨hl1, hl2, hl3⟩ := Route.lens hL
  simp only [ir19, Route.av]
  (repeat ((first | refine WV_seq_ ?_ | refine WV_block ?_ | refine WV_ops ?_ | refine WV_skip ?_ | refine WV_exit ?_); (try simp only [go_sem, init_env', Nat.reduceEqDiff, Nat.reduceAdd, Nat.reduceMul, reduceIte, Nat.reduceLeDiff, Nat.reduceLT, Nat.reduceBEq, reduceCtorEq, hP, stopsC, driveC]); (repeat (refine And.intro (by first | omega | (intros; simp_all; done) | (intros; simp_all; omega)) ?_))))
  (refine WV_cond rfl (fun h => ?_) (fun h => ?_))
  · have h : near r = false := by
      simp only [near]
      simp at h
      by_cases h1 : r.stops.length ≤ 20
      · by_cases h2 : r.drive.length ≤ 20
        · exfalso; omega
        · simp [h2]
      · simp [h1]
    (repeat ((first | refine WV_seq_ ?_ | refine WV_block ?_ | refine WV_ops ?_ | refine WV_skip ?_ | refine WV_exit ?_); (try simp only [go_sem, init_env', Nat.reduceEqDiff, Nat.reduceAdd, Nat.reduceMul, reduceIte, Nat.reduceLeDiff, Nat.reduceLT, Nat.reduceBEq, reduceCtorEq, hP, ]); (repeat (refine And.intro (by first | omega | (intros; simp_all; done) | (intros; simp_all; omega)) ?_))))
    (refine WV_ret ?_; simp only [thenQ, inQ, RetQ, RetOk, resAll, resA]; simp only [go_sem, init_env', Nat.reduceEqDiff, Nat.reduceAdd, Nat.reduceMul, reduceIte, Nat.reduceLeDiff, Nat.reduceLT, Nat.reduceBEq, reduceCtorEq, tupA, AV.port, AV.portL, exists_eq_left', ]; (first | exact AVle.of rfl | refine AVle.of ?_ | skip))
    simp [farS, h]
  · have h : r.stops.length ≤ 20 ∧ r.drive.length ≤ 20 := by simp at h; omega
    (repeat ((first | refine WV_seq_ ?_ | refine WV_block ?_ | refine WV_ops ?_ | refine WV_skip ?_ | refine WV_exit ?_); (try simp only [go_sem, init_env', Nat.reduceEqDiff, Nat.reduceAdd, Nat.reduceMul, reduceIte, Nat.reduceLeDiff, Nat.reduceLT, Nat.reduceBEq, reduceCtorEq, hP, ]); (repeat (refine And.intro (by first | omega | (intros; simp_all; done) | (intros; simp_all; omega)) ?_))))
    refine WV_loopK K19_1 [1] (fun k : Nat => k ≤ r.drive.length ∧ ((r.drive.take k).all fun l => decide (l.length ≤ 20)) = true) (fun k => r.drive.length - k) (fun k => [(3, iv k)]) (fun _ => [(1, .box [.c (stopsC r.stops), .c (driveC r.drive), .c (.int .i64 r.start)])]) 0 ⟨Nat.zero_le _, by simp⟩ ?_ ?_
    · (refine Sub_of (by simp only [go_sem, init_env', Nat.reduceEqDiff, Nat.reduceAdd, Nat.reduceMul, reduceIte, Nat.reduceLeDiff, Nat.reduceLT, Nat.reduceBEq, reduceCtorEq]; ((repeat' (first | exact EnvLe_e0 _ _ | refine EnvLe_upd ?_ ?_)) <;> ((try simp only [upd_app, e0_app, o0_app, Nat.reduceEqDiff, reduceIte]); first | exact AWk.refl _ _ | exact AWk.int (by omega) | exact AWk.int (by rw [w64 (by omega) (by omega)]; omega) | exact AWk.grow rfl | exact AWk.nil _ | exact AWk.of (by simp)))) (by simp only [go_sem, init_env', Nat.reduceEqDiff, Nat.reduceAdd, Nat.reduceMul, reduceIte, Nat.reduceLeDiff, Nat.reduceLT, Nat.reduceBEq, reduceCtorEq]; ((repeat' (first | exact ObjLe_o0 _ | exact ObjLe.rfl' _ | refine ObjLe_same ?_ | refine ObjLe_upd ?_ ?_ | refine ObjLe_new rfl ?_)) <;> rfl)))
    · rintro k ⟨hk, ha⟩
      simp only [go_sem, init_env', Nat.reduceEqDiff, Nat.reduceAdd, Nat.reduceMul, reduceIte, Nat.reduceLeDiff, Nat.reduceLT, Nat.reduceBEq, reduceCtorEq]
      (repeat ((first | refine WV_seq_ ?_ | refine WV_block ?_ | refine WV_ops ?_ | refine WV_skip ?_ | refine WV_exit ?_); (try simp only [go_sem, init_env', Nat.reduceEqDiff, Nat.reduceAdd, Nat.reduceMul, reduceIte, Nat.reduceLeDiff, Nat.reduceLT, Nat.reduceBEq, reduceCtorEq, hP, driveC]); (repeat (refine And.intro (by first | omega | (intros; simp_all; done) | (intros; simp_all; omega)) ?_))))
      have h0 := h
      (refine WV_cond rfl (fun h => ?_) (fun h => ?_))
      · have h : k < r.drive.length := by simpa using h
        have hw2 := w64 (n := (k : Int) + 1) (by omega) (by omega)
        (repeat ((first | refine WV_seq_ ?_ | refine WV_block ?_ | refine WV_ops ?_ | refine WV_skip ?_ | refine WV_exit ?_); (try simp only [go_sem, init_env', Nat.reduceEqDiff, Nat.reduceAdd, Nat.reduceMul, reduceIte, Nat.reduceLeDiff, Nat.reduceLT, Nat.reduceBEq, reduceCtorEq, hP, Int.toNat_natCast, map_getD h, List.length_map, Int.ofNat_lt, h, Int.natCast_nonneg, ints, driveC]); (repeat (refine And.intro (by first | omega | (intros; simp_all; done) | (intros; simp_all; omega)) ?_))))
        have hk0 := h
        have hta := take_all (fun l : List Int => decide (l.length ≤ 20)) hk0
        (refine WV_cond rfl (fun h => ?_) (fun h => ?_))
        · have h : ¬ r.drive[k].length ≤ 20 := by simp at h; omega
          have hn : near r = false := by
            simp only [near]
            have : (r.drive.all fun l => decide (l.length ≤ 20)) = false := List.all_eq_false.2 ⟨_, List.getElem_mem hk0, by simpa using h⟩
            rw [this]; simp
          (repeat ((first | refine WV_seq_ ?_ | refine WV_block ?_ | refine WV_ops ?_ | refine WV_skip ?_ | refine WV_exit ?_); (try simp only [go_sem, init_env', Nat.reduceEqDiff, Nat.reduceAdd, Nat.reduceMul, reduceIte, Nat.reduceLeDiff, Nat.reduceLT, Nat.reduceBEq, reduceCtorEq, hP, ]); (repeat (refine And.intro (by first | omega | (intros; simp_all; done) | (intros; simp_all; omega)) ?_))))
          (refine WV_ret ?_; simp only [thenQ, inQ, RetQ, RetOk, resAll, resA]; simp only [go_sem, init_env', Nat.reduceEqDiff, Nat.reduceAdd, Nat.reduceMul, reduceIte, Nat.reduceLeDiff, Nat.reduceLT, Nat.reduceBEq, reduceCtorEq, tupA, AV.port, AV.portL, exists_eq_left', ]; (first | exact AVle.of rfl | refine AVle.of ?_ | skip))
          simp [farS, hn]
        · have h : r.drive[k].length ≤ 20 := by simp at h; omega
          (repeat ((first | refine WV_seq_ ?_ | refine WV_block ?_ | refine WV_ops ?_ | refine WV_skip ?_ | refine WV_exit ?_); (try simp only [go_sem, init_env', Nat.reduceEqDiff, Nat.reduceAdd, Nat.reduceMul, reduceIte, Nat.reduceLeDiff, Nat.reduceLT, Nat.reduceBEq, reduceCtorEq, hP, hw2]); (repeat (refine And.intro (by first | omega | (intros; simp_all; done) | (intros; simp_all; omega)) ?_))))
          refine ⟨k + 1, ⟨by omega, by rw [hta, ha]; simpa using h⟩, by omega, ?_⟩
          (refine Sub_of (by simp only [go_sem, init_env', Nat.reduceEqDiff, Nat.reduceAdd, Nat.reduceMul, reduceIte, Nat.reduceLeDiff, Nat.reduceLT, Nat.reduceBEq, reduceCtorEq]; ((repeat' (first | exact EnvLe_e0 _ _ | refine EnvLe_upd ?_ ?_)) <;> ((try simp only [upd_app, e0_app, o0_app, Nat.reduceEqDiff, reduceIte]); first | exact AWk.refl _ _ | exact AWk.int (by omega) | exact AWk.int (by rw [w64 (by omega) (by omega)]; omega) | exact AWk.grow rfl | exact AWk.nil _ | exact AWk.of (by simp)))) (by simp only [go_sem, init_env', Nat.reduceEqDiff, Nat.reduceAdd, Nat.reduceMul, reduceIte, Nat.reduceLeDiff, Nat.reduceLT, Nat.reduceBEq, reduceCtorEq]; ((repeat' (first | exact ObjLe_o0 _ | exact ObjLe.rfl' _ | refine ObjLe_same ?_ | refine ObjLe_upd ?_ ?_ | refine ObjLe_new rfl ?_)) <;> rfl)))
      · have h : k = r.drive.length := by simp at h; omega
        subst h
        rw [List.take_length] at ha
        have hn : near r = true := by simp [near, h0, ha]
        have e : farS r = (decide (5 < r.stops.length) && r.ok) := by simp [farS, hn]
        rw [e]
        (repeat ((first | refine WV_seq_ ?_ | refine WV_block ?_ | refine WV_ops ?_ | refine WV_skip ?_ | refine WV_exit ?_); (try simp only [go_sem, init_env', Nat.reduceEqDiff, Nat.reduceAdd, Nat.reduceMul, reduceIte, Nat.reduceLeDiff, Nat.reduceLT, Nat.reduceBEq, reduceCtorEq, hP, stopsC]); (repeat (refine And.intro (by first | omega | (intros; simp_all; done) | (intros; simp_all; omega)) ?_))))
        (refine AG_pure (fun hG => check_spec r) rfl (fun hG => by simp only [go_sem, init_env', Nat.reduceEqDiff, Nat.reduceAdd, Nat.reduceMul, reduceIte, Nat.reduceLeDiff, Nat.reduceLT, Nat.reduceBEq, reduceCtorEq, hG]) rfl rfl rfl ?_; simp only [go_sem, init_env', Nat.reduceEqDiff, Nat.reduceAdd, Nat.reduceMul, reduceIte, Nat.reduceLeDiff, Nat.reduceLT, Nat.reduceBEq, reduceCtorEq, hP, Route.av]; (repeat (refine And.intro (by first | omega | (intros; simp_all; done) | (intros; simp_all; omega)) ?_)); (repeat ((first | refine WV_seq_ ?_ | refine WV_block ?_ | refine WV_ops ?_ | refine WV_skip ?_ | refine WV_exit ?_); (try simp only [go_sem, init_env', Nat.reduceEqDiff, Nat.reduceAdd, Nat.reduceMul, reduceIte, Nat.reduceLeDiff, Nat.reduceLT, Nat.reduceBEq, reduceCtorEq, hP, Route.av]); (repeat (refine And.intro (by first | omega | (intros; simp_all; done) | (intros; simp_all; omega)) ?_)))))
        by_cases hok : r.ok = true
        · simp only [hok, if_true, beq_self_eq_true]
          (repeat ((first | refine WV_seq_ ?_ | refine WV_block ?_ | refine WV_ops ?_ | refine WV_skip ?_ | refine WV_exit ?_); (try simp only [go_sem, init_env', Nat.reduceEqDiff, Nat.reduceAdd, Nat.reduceMul, reduceIte, Nat.reduceLeDiff, Nat.reduceLT, Nat.reduceBEq, reduceCtorEq, hP, ]); (repeat (refine And.intro (by first | omega | (intros; simp_all; done) | (intros; simp_all; omega)) ?_))))
          (try refine ⟨fun h => by simpa using h, ?_⟩)
          (repeat ((first | refine WV_seq_ ?_ | refine WV_block ?_ | refine WV_ops ?_ | refine WV_skip ?_ | refine WV_exit ?_); (try simp only [go_sem, init_env', Nat.reduceEqDiff, Nat.reduceAdd, Nat.reduceMul, reduceIte, Nat.reduceLeDiff, Nat.reduceLT, Nat.reduceBEq, reduceCtorEq, hP, ]); (repeat (refine And.intro (by first | omega | (intros; simp_all; done) | (intros; simp_all; omega)) ?_))))
          (refine WV_ret ?_; simp only [thenQ, inQ, RetQ, RetOk, resAll, resA]; simp only [go_sem, init_env', Nat.reduceEqDiff, Nat.reduceAdd, Nat.reduceMul, reduceIte, Nat.reduceLeDiff, Nat.reduceLT, Nat.reduceBEq, reduceCtorEq, tupA, AV.port, AV.portL, exists_eq_left', ]; (first | exact AVle.of rfl | refine AVle.of ?_ | skip))
          simp only [Bool.and_true, AV.c.injEq, CD.bool.injEq, decide_eq_decide]
          omega
        · have hok : r.ok = false := by simpa using hok
          simp only [hok, Bool.false_eq_true, if_false]
          (try refine ⟨fun h => by simpa using h, ?_⟩)
          (repeat ((first | refine WV_seq_ ?_ | refine WV_block ?_ | refine WV_ops ?_ | refine WV_skip ?_ | refine WV_exit ?_); (try simp only [go_sem, init_env', Nat.reduceEqDiff, Nat.reduceAdd, Nat.reduceMul, reduceIte, Nat.reduceLeDiff, Nat.reduceLT, Nat.reduceBEq, reduceCtorEq, hP, ]); (repeat (refine And.intro (by first | omega | (intros; simp_all; done) | (intros; simp_all; omega)) ?_))))
          (refine WV_ret ?_; simp only [thenQ, inQ, RetQ, RetOk, resAll, resA]; simp only [go_sem, init_env', Nat.reduceEqDiff, Nat.reduceAdd, Nat.reduceMul, reduceIte, Nat.reduceLeDiff, Nat.reduceLT, Nat.reduceBEq, reduceCtorEq, tupA, AV.port, AV.portL, exists_eq_left', ]; (first | exact AVle.of rfl | refine AVle.of ?_ | skip))
          simp

set_option maxHeartbeats 8000000 in
theorem samer22 (r : Route) : FSpec Try.prog 22 [r.av, r.av] (.c (.bool true)) := by
  refine FSpec_of c22 (Nat.le_refl _) (by decide) fun C hP hN hC hL => ?_
  obtain ⟨hl1, hl2, hl3⟩ := Route.lens hL
  simp only [ir22, Route.av]
  (repeat ((first | refine WV_seq_ ?_ | refine WV_block ?_ | refine WV_ops ?_ | refine WV_skip ?_ | refine WV_exit ?_); (try simp only [go_sem, init_env', Nat.reduceEqDiff, Nat.reduceAdd, Nat.reduceMul, reduceIte, Nat.reduceLeDiff, Nat.reduceLT, Nat.reduceBEq, reduceCtorEq, hP, stopsC, driveC, bne_self_eq_false]); (repeat (refine And.intro (by first | omega | (intros; simp_all; done) | (intros; simp_all; omega)) ?_))))
  (refine WV_cond rfl (fun h => ?_) (fun h => ?_))
  · simp at h
  · clear h
    (repeat ((first | refine WV_seq_ ?_ | refine WV_block ?_ | refine WV_ops ?_ | refine WV_skip ?_ | refine WV_exit ?_); (try simp only [go_sem, init_env', Nat.reduceEqDiff, Nat.reduceAdd, Nat.reduceMul, reduceIte, Nat.reduceLeDiff, Nat.reduceLT, Nat.reduceBEq, reduceCtorEq, hP, ]); (repeat (refine And.intro (by first | omega | (intros; simp_all; done) | (intros; simp_all; omega)) ?_))))
    refine WV_loopK K22_1 [2, 3] (fun k : Nat => k ≤ r.stops.length) (fun k => r.stops.length - k) (fun k => [(5, iv k)]) (fun _ => [(2, .box [.c (stopsC r.stops), .c (driveC r.drive), .c (.int .i64 r.start)]), (3, .box [.c (stopsC r.stops), .c (driveC r.drive), .c (.int .i64 r.start)])]) 0 (Nat.zero_le _) ?_ ?_
    · (refine Sub_of (by simp only [go_sem, init_env', Nat.reduceEqDiff, Nat.reduceAdd, Nat.reduceMul, reduceIte, Nat.reduceLeDiff, Nat.reduceLT, Nat.reduceBEq, reduceCtorEq]; ((repeat' (first | exact EnvLe_e0 _ _ | refine EnvLe_upd ?_ ?_)) <;> ((try simp only [upd_app, e0_app, o0_app, Nat.reduceEqDiff, reduceIte]); first | exact AWk.refl _ _ | exact AWk.int (by omega) | exact AWk.int (by rw [w64 (by omega) (by omega)]; omega) | exact AWk.grow rfl | exact AWk.nil _ | exact AWk.of (by simp)))) (by simp only [go_sem, init_env', Nat.reduceEqDiff, Nat.reduceAdd, Nat.reduceMul, reduceIte, Nat.reduceLeDiff, Nat.reduceLT, Nat.reduceBEq, reduceCtorEq]; ((repeat' (first | exact ObjLe_o0 _ | exact ObjLe.rfl' _ | refine ObjLe_same ?_ | refine ObjLe_upd ?_ ?_ | refine ObjLe_new rfl ?_)) <;> rfl)))
    · intro k hk
      simp only [go_sem, init_env', Nat.reduceEqDiff, Nat.reduceAdd, Nat.reduceMul, reduceIte, Nat.reduceLeDiff, Nat.reduceLT, Nat.reduceBEq, reduceCtorEq]
      (repeat ((first | refine WV_seq_ ?_ | refine WV_block ?_ | refine WV_ops ?_ | refine WV_skip ?_ | refine WV_exit ?_); (try simp only [go_sem, init_env', Nat.reduceEqDiff, Nat.reduceAdd, Nat.reduceMul, reduceIte, Nat.reduceLeDiff, Nat.reduceLT, Nat.reduceBEq, reduceCtorEq, hP, stopsC]); (repeat (refine And.intro (by first | omega | (intros; simp_all; done) | (intros; simp_all; omega)) ?_))))
      (refine WV_cond rfl (fun h => ?_) (fun h => ?_))
      · have h : k < r.stops.length := by simpa using h
        have hw2 := w64 (n := (k : Int) + 1) (by omega) (by omega)
        (repeat ((first | refine WV_seq_ ?_ | refine WV_block ?_ | refine WV_ops ?_ | refine WV_skip ?_ | refine WV_exit ?_); (try simp only [go_sem, init_env', Nat.reduceEqDiff, Nat.reduceAdd, Nat.reduceMul, reduceIte, Nat.reduceLeDiff, Nat.reduceLT, Nat.reduceBEq, reduceCtorEq, hP, Int.toNat_natCast, map_getD h, List.length_map, Int.ofNat_lt, h, Int.natCast_nonneg, Stop.cds]); (repeat (refine And.intro (by first | omega | (intros; simp_all; done) | (intros; simp_all; omega)) ?_))))
        (refine WV_cond rfl (fun h => ?_) (fun h => ?_))
        · simp at h
        · (repeat ((first | refine WV_seq_ ?_ | refine WV_block ?_ | refine WV_ops ?_ | refine WV_skip ?_ | refine WV_exit ?_); (try simp only [go_sem, init_env', Nat.reduceEqDiff, Nat.reduceAdd, Nat.reduceMul, reduceIte, Nat.reduceLeDiff, Nat.reduceLT, Nat.reduceBEq, reduceCtorEq, hP, hw2]); (repeat (refine And.intro (by first | omega | (intros; simp_all; done) | (intros; simp_all; omega)) ?_))))
          refine ⟨k + 1, by omega, by omega, ?_⟩
          (refine Sub_of (by simp only [go_sem, init_env', Nat.reduceEqDiff, Nat.reduceAdd, Nat.reduceMul, reduceIte, Nat.reduceLeDiff, Nat.reduceLT, Nat.reduceBEq, reduceCtorEq]; ((repeat' (first | exact EnvLe_e0 _ _ | refine EnvLe_upd ?_ ?_)) <;> ((try simp only [upd_app, e0_app, o0_app, Nat.reduceEqDiff, reduceIte]); first | exact AWk.refl _ _ | exact AWk.int (by omega) | exact AWk.int (by rw [w64 (by omega) (by omega)]; omega) | exact AWk.grow rfl | exact AWk.nil _ | exact AWk.of (by simp)))) (by simp only [go_sem, init_env', Nat.reduceEqDiff, Nat.reduceAdd, Nat.reduceMul, reduceIte, Nat.reduceLeDiff, Nat.reduceLT, Nat.reduceBEq, reduceCtorEq]; ((repeat' (first | exact ObjLe_o0 _ | exact ObjLe.rfl' _ | refine ObjLe_same ?_ | refine ObjLe_upd ?_ ?_ | refine ObjLe_new rfl ?_)) <;> rfl)))
      · (repeat ((first | refine WV_seq_ ?_ | refine WV_block ?_ | refine WV_ops ?_ | refine WV_skip ?_ | refine WV_exit ?_); (try simp only [go_sem, init_env', Nat.reduceEqDiff, Nat.reduceAdd, Nat.reduceMul, reduceIte, Nat.reduceLeDiff, Nat.reduceLT, Nat.reduceBEq, reduceCtorEq, hP, ]); (repeat (refine And.intro (by first | omega | (intros; simp_all; done) | (intros; simp_all; omega)) ?_))))
        refine WV_loopK K22_2 [2, 3] (fun k : Nat => k ≤ r.drive.length) (fun k => r.drive.length - k) (fun k => [(6, iv k)]) (fun _ => [(2, .box [.c (stopsC r.stops), .c (driveC r.drive), .c (.int .i64 r.start)]), (3, .box [.c (stopsC r.stops), .c (driveC r.drive), .c (.int .i64 r.start)])]) 0 (Nat.zero_le _) ?_ ?_
        · (refine Sub_of (by simp only [go_sem, init_env', Nat.reduceEqDiff, Nat.reduceAdd, Nat.reduceMul, reduceIte, Nat.reduceLeDiff, Nat.reduceLT, Nat.reduceBEq, reduceCtorEq]; ((repeat' (first | exact EnvLe_e0 _ _ | refine EnvLe_upd ?_ ?_)) <;> ((try simp only [upd_app, e0_app, o0_app, Nat.reduceEqDiff, reduceIte]); first | exact AWk.refl _ _ | exact AWk.int (by omega) | exact AWk.int (by rw [w64 (by omega) (by omega)]; omega) | exact AWk.grow rfl | exact AWk.nil _ | exact AWk.of (by simp)))) (by simp only [go_sem, init_env', Nat.reduceEqDiff, Nat.reduceAdd, Nat.reduceMul, reduceIte, Nat.reduceLeDiff, Nat.reduceLT, Nat.reduceBEq, reduceCtorEq]; ((repeat' (first | exact ObjLe_o0 _ | exact ObjLe.rfl' _ | refine ObjLe_same ?_ | refine ObjLe_upd ?_ ?_ | refine ObjLe_new rfl ?_)) <;> rfl)))
        · intro k hk
          simp only [go_sem, init_env', Nat.reduceEqDiff, Nat.reduceAdd, Nat.reduceMul, reduceIte, Nat.reduceLeDiff, Nat.reduceLT, Nat.reduceBEq, reduceCtorEq]
          (repeat ((first | refine WV_seq_ ?_ | refine WV_block ?_ | refine WV_ops ?_ | refine WV_skip ?_ | refine WV_exit ?_); (try simp only [go_sem, init_env', Nat.reduceEqDiff, Nat.reduceAdd, Nat.reduceMul, reduceIte, Nat.reduceLeDiff, Nat.reduceLT, Nat.reduceBEq, reduceCtorEq, hP, driveC]); (repeat (refine And.intro (by first | omega | (intros; simp_all; done) | (intros; simp_all; omega)) ?_))))
          (refine WV_cond rfl (fun h => ?_) (fun h => ?_))
          · have h : k < r.drive.length := by simpa using h
            have hw2 := w64 (n := (k : Int) + 1) (by omega) (by omega)
            (repeat ((first | refine WV_seq_ ?_ | refine WV_block ?_ | refine WV_ops ?_ | refine WV_skip ?_ | refine WV_exit ?_); (try simp only [go_sem, init_env', Nat.reduceEqDiff, Nat.reduceAdd, Nat.reduceMul, reduceIte, Nat.reduceLeDiff, Nat.reduceLT, Nat.reduceBEq, reduceCtorEq, hP, Int.toNat_natCast, map_getD h, List.length_map, Int.ofNat_lt, h, Int.natCast_nonneg]); (repeat (refine And.intro (by first | omega | (intros; simp_all; done) | (intros; simp_all; omega)) ?_))))
            (refine AS_pure (same34 r.drive[k] r.drive[k]) rfl rfl rfl rfl rfl ?_; simp only [go_sem, init_env', Nat.reduceEqDiff, Nat.reduceAdd, Nat.reduceMul, reduceIte, Nat.reduceLeDiff, Nat.reduceLT, Nat.reduceBEq, reduceCtorEq, hP, ]; (repeat (refine And.intro (by first | omega | (intros; simp_all; done) | (intros; simp_all; omega)) ?_)); (repeat ((first | refine WV_seq_ ?_ | refine WV_block ?_ | refine WV_ops ?_ | refine WV_skip ?_ | refine WV_exit ?_); (try simp only [go_sem, init_env', Nat.reduceEqDiff, Nat.reduceAdd, Nat.reduceMul, reduceIte, Nat.reduceLeDiff, Nat.reduceLT, Nat.reduceBEq, reduceCtorEq, hP, ]); (repeat (refine And.intro (by first | omega | (intros; simp_all; done) | (intros; simp_all; omega)) ?_)))))
            (refine WV_cond rfl (fun h => ?_) (fun h => ?_))
            · simp at h
            · (repeat ((first | refine WV_seq_ ?_ | refine WV_block ?_ | refine WV_ops ?_ | refine WV_skip ?_ | refine WV_exit ?_); (try simp only [go_sem, init_env', Nat.reduceEqDiff, Nat.reduceAdd, Nat.reduceMul, reduceIte, Nat.reduceLeDiff, Nat.reduceLT, Nat.reduceBEq, reduceCtorEq, hP, hw2]); (repeat (refine And.intro (by first | omega | (intros; simp_all; done) | (intros; simp_all; omega)) ?_))))
              refine ⟨k + 1, by omega, by omega, ?_⟩
              (refine Sub_of (by simp only [go_sem, init_env', Nat.reduceEqDiff, Nat.reduceAdd, Nat.reduceMul, reduceIte, Nat.reduceLeDiff, Nat.reduceLT, Nat.reduceBEq, reduceCtorEq]; ((repeat' (first | exact EnvLe_e0 _ _ | refine EnvLe_upd ?_ ?_)) <;> ((try simp only [upd_app, e0_app, o0_app, Nat.reduceEqDiff, reduceIte]); first | exact AWk.refl _ _ | exact AWk.int (by omega) | exact AWk.int (by rw [w64 (by omega) (by omega)]; omega) | exact AWk.grow rfl | exact AWk.nil _ | exact AWk.of (by simp)))) (by simp only [go_sem, init_env', Nat.reduceEqDiff, Nat.reduceAdd, Nat.reduceMul, reduceIte, Nat.reduceLeDiff, Nat.reduceLT, Nat.reduceBEq, reduceCtorEq]; ((repeat' (first | exact ObjLe_o0 _ | exact ObjLe.rfl' _ | refine ObjLe_same ?_ | refine ObjLe_upd ?_ ?_ | refine ObjLe_new rfl ?_)) <;> rfl)))
          · (repeat ((first | refine WV_seq_ ?_ | refine WV_block ?_ | refine WV_ops ?_ | refine WV_skip ?_ | refine WV_exit ?_); (try simp only [go_sem, init_env', Nat.reduceEqDiff, Nat.reduceAdd, Nat.reduceMul, reduceIte, Nat.reduceLeDiff, Nat.reduceLT, Nat.reduceBEq, reduceCtorEq, hP, ]); (repeat (refine And.intro (by first | omega | (intros; simp_all; done) | (intros; simp_all; omega)) ?_))))
            (refine WV_ret ?_; simp only [thenQ, inQ, RetQ, RetOk, resAll, resA]; simp only [go_sem, init_env', Nat.reduceEqDiff, Nat.reduceAdd, Nat.reduceMul, reduceIte, Nat.reduceLeDiff, Nat.reduceLT, Nat.reduceBEq, reduceCtorEq, tupA, AV.port, AV.portL, exists_eq_left', ]; (first | exact AVle.of rfl | refine AVle.of ?_ | skip))
end Go.Proofs.Ytbejgfpaokcnpaa

namespace Go.Proofs.Ytbejgfpaokcnpaa
open Go Go.V
@[reducible] def o17_0 : List Ins := [⟨(some 1), .box 3 (.t 0), none, true⟩,
  ⟨(some 2), .alloc [(.c (.raw (.slice none 0 0))), (.c (.raw (.slice none 0 0))), (.c (.int .i64 0))], none, true⟩]
@[reducible] def o17_1 : List Ins := [⟨(some 5), .ld false 3 (.t 1), none, true⟩,
  ⟨(some 3), .alloc [(.c (.raw (.slice none 0 0))), (.c (.raw (.slice none 0 0))), (.c (.int .i64 0))], none, true⟩,
  ⟨none, .st 3 (.t 3) (.t 5), none, true⟩]
@[reducible] def o17_2 : List Ins := [⟨(some 6), .bsl 53 4 [], none, true⟩,
  ⟨(some 7), .fa 0 (.t 1), none, true⟩,
  ⟨(some 8), .ld true 1 (.t 7), none, true⟩,
  ⟨(some 9), .app 53 4 32 (.t 6) (.t 8), none, true⟩,
  ⟨(some 10), .fa 0 (.t 3), none, true⟩,
  ⟨none, .st 1 (.t 10) (.t 9), none, true⟩,
  ⟨(some 11), .fa 1 (.t 3), none, true⟩,
  ⟨none, .st 1 (.t 11) (.k (.c (.raw (.slice none 0 0)))), none, true⟩]
@[reducible] def o17_3 : List Ins := [⟨(some 4), .mv (.k (.c (.int .i64 0))), none, true⟩]
@[reducible] def o17_4 : List Ins := [⟨(some 12), .mv (.t 4), none, true⟩,
  ⟨(some 13), .fa 1 (.t 1), none, true⟩,
  ⟨(some 14), .ld true 1 (.t 13), none, true⟩,
  ⟨(some 15), .len (.t 14), none, true⟩,
  ⟨(some 16), .bin .lss (.t 12) (.t 15), none, true⟩]
@[reducible] def v17_5 : VC := (.cond (.t 16) .skip (.exit 0))
@[reducible] def o17_6 : List Ins := [⟨(some 19), .fa 1 (.t 3), none, false⟩,
  ⟨(some 20), .ld true 1 (.t 19), none, false⟩,
  ⟨(some 21), .bsl 3 1 [], none, false⟩,
  ⟨(some 22), .fa 1 (.t 1), none, false⟩,
  ⟨(some 23), .ld true 1 (.t 22), none, false⟩,
  ⟨(some 24), .mv (.t 4), none, false⟩,
  ⟨(some 25), .ia 1 (.t 23) (.t 24), none, false⟩,
  ⟨(some 26), .ld true 1 (.t 25), none, false⟩,
  ⟨(some 27), .app 3 1 8 (.t 21) (.t 26), none, false⟩,
  ⟨(some 28), .bsl 33 1 [(.t 27)], none, false⟩,
  ⟨(some 29), .app 33 1 24 (.t 20) (.t 28), none, true⟩,
  ⟨(some 30), .fa 1 (.t 3), none, true⟩,
  ⟨none, .st 1 (.t 30) (.t 29), none, true⟩]
@[reducible] def o17_7 : List Ins := [⟨(some 17), .mv (.t 4), none, true⟩,
  ⟨(some 18), .bin .add (.t 17) (.k (.c (.int .i64 1))), none, true⟩,
  ⟨(some 4), .mv (.t 18), none, true⟩]
@[reducible] def v17_8 : VC := (.seq (.block 1 (.ops o17_6)) (.ops o17_7))
@[reducible] def v17_9 : VC := (.seq (.seq (.ops o17_4) v17_5) v17_8)
-- K17_1: changed and kept: [4]
@[reducible] def K17_1 : List Nat := [1, 2, 3]
@[reducible] def v17_10 : VC := (.loop v17_9)
@[reducible] def v17_11 : VC := (.block 0 v17_10)
@[reducible] def o17_12 : List Ins := [⟨(some 31), .ld false 3 (.t 3), none, true⟩,
  ⟨none, .st 3 (.t 2) (.t 31), none, true⟩]
@[reducible] def v17_13 : VC := (.seq (.ops o17_12) .ret)
@[reducible] def v17_14 : VC := (.seq (.seq (.ops o17_3) v17_11) v17_13)
@[reducible] def v17_15 : VC := (.seq (.ops o17_2) v17_14)
@[reducible] def v17_16 : VC := (.seq (.ops o17_1) v17_15)
def ir17 : FC := ⟨1, 32, [.cell 2 false 3], (.seq (.ops o17_0) v17_16)⟩
theorem c17 : compM Try.prog [] 17 = some ir17 := by kernel_rfl



theorem stops_four (l : List Stop) : ((l.map Stop.cds).all fun e => e.length == 4) = true := by
  rw [List.all_eq_true]; intro e he; obtain ⟨n, _, rfl⟩ := List.mem_map.1 he; rfl
theorem intss_one (l : List (List Int)) : ((l.map fun x => [ints x]).all fun e => e.length == 1) = true := by
  rw [List.all_eq_true]; intro e he; obtain ⟨n, _, rfl⟩ := List.mem_map.1 he; rfl
theorem near_eq {r : Route} (h : near r = true) : r.stops.length ≤ 20 ∧ r.drive.length ≤ 20 ∧ ∀ l ∈ r.drive, l.length ≤ 20 := by
  simp only [near, Bool.and_eq_true, decide_eq_true_eq, List.all_eq_true] at h
  exact ⟨h.1.1, h.1.2, h.2⟩

set_option maxHeartbeats 4000000 in
theorem copy17 (r : Route) (hnear : near r = true) : FSpec Try.prog 17 [r.av] r.av := by
  obtain ⟨hn1, hn2, hn3⟩ := near_eq hnear
  have hmax : maxLen = 9223372036854775807 := rfl
  refine FSpec_of c17 (Nat.le_refl _) (by decide) fun C hP hN hC hL => ?_
  simp only [ir17, Route.av]
  (repeat ((first | refine WV_seq_ ?_ | refine WV_block ?_ | refine WV_ops ?_ | refine WV_skip ?_ | refine WV_exit ?_); (try simp only [go_sem, init_env', Nat.reduceEqDiff, Nat.reduceAdd, Nat.reduceMul, reduceIte, Nat.reduceLeDiff, Nat.reduceLT, Nat.reduceBEq, reduceCtorEq, hP, stopsC, stops_four]); (repeat (refine And.intro (by first | omega | (intros; simp_all; done) | (intros; simp_all; omega)) ?_))))
  refine WV_freeze 1 (ds := r.cds) rfl rfl ?_
  simp only [go_sem, init_env', Nat.reduceEqDiff, Nat.reduceAdd, Nat.reduceMul, reduceIte, Nat.reduceLeDiff, Nat.reduceLT, Nat.reduceBEq, reduceCtorEq]
  refine WV_nilbox 3 1 29 33 1 (by decide) (by decide) (by decide) rfl rfl rfl ?_
  simp only [go_sem, init_env', Nat.reduceEqDiff, Nat.reduceAdd, Nat.reduceMul, reduceIte, Nat.reduceLeDiff, Nat.reduceLT, Nat.reduceBEq, reduceCtorEq]
  refine WV_loopK K17_1 [2, 3, 6, 9, 29] (fun k : Nat => k ≤ r.drive.length) (fun k => r.drive.length - k) (fun k => [(4, iv k)])
    (fun k => [(29, .grow 33 1 ((r.drive.take k).map fun x => [ints x])), (3, .box [.gr 9, .gr 29, iv r.start]), (9, .grow 53 4 (r.stops.map Stop.cds)), (2, .box [.c (.raw (.slice none 0 0)), .c (.raw (.slice none 0 0)), iv 0])]) 0 (Nat.zero_le _) ?_ ?_
  · (refine Sub_of (by simp only [go_sem, init_env', Nat.reduceEqDiff, Nat.reduceAdd, Nat.reduceMul, reduceIte, Nat.reduceLeDiff, Nat.reduceLT, Nat.reduceBEq, reduceCtorEq]; ((repeat' (first | exact EnvLe_e0 _ _ | refine EnvLe_upd ?_ ?_)) <;> ((try simp only [upd_app, e0_app, o0_app, Nat.reduceEqDiff, reduceIte]); first | exact AWk.refl _ _ | exact AWk.int (by omega) | exact AWk.int (by rw [w64 (by omega) (by omega)]; omega) | exact AWk.grow rfl | exact AWk.nil _ | exact AWk.of (by simp)))) (by simp only [go_sem, init_env', Nat.reduceEqDiff, Nat.reduceAdd, Nat.reduceMul, reduceIte, Nat.reduceLeDiff, Nat.reduceLT, Nat.reduceBEq, reduceCtorEq]; ((repeat' (first | exact ObjLe_o0 _ | exact ObjLe.rfl' _ | refine ObjLe_same ?_ | refine ObjLe_upd ?_ ?_ | refine ObjLe_new rfl ?_)) <;> rfl)))
  · intro k hk
    have htl : (r.drive.take k).length ≤ 20 := by rw [List.length_take]; omega
    simp only [go_sem, init_env', Nat.reduceEqDiff, Nat.reduceAdd, Nat.reduceMul, reduceIte, Nat.reduceLeDiff, Nat.reduceLT, Nat.reduceBEq, reduceCtorEq]
    (repeat ((first | refine WV_seq_ ?_ | refine WV_block ?_ | refine WV_ops ?_ | refine WV_skip ?_ | refine WV_exit ?_); (try simp only [go_sem, init_env', Nat.reduceEqDiff, Nat.reduceAdd, Nat.reduceMul, reduceIte, Nat.reduceLeDiff, Nat.reduceLT, Nat.reduceBEq, reduceCtorEq, hP, Route.cds, driveC]); (repeat (refine And.intro (by first | omega | (intros; simp_all; done) | (intros; simp_all; omega)) ?_))))
    (refine WV_cond rfl (fun h => ?_) (fun h => ?_))
    · have h : k < r.drive.length := by simpa using h
      have hrow := hn3 _ (List.getElem_mem h)
      have hw2 := w64 (n := (k : Int) + 1) (by omega) (by omega)
      (repeat ((first | refine WV_seq_ ?_ | refine WV_block ?_ | refine WV_ops ?_ | refine WV_skip ?_ | refine WV_exit ?_); (try simp only [go_sem, init_env', Nat.reduceEqDiff, Nat.reduceAdd, Nat.reduceMul, reduceIte, Nat.reduceLeDiff, Nat.reduceLT, Nat.reduceBEq, reduceCtorEq, hP, Route.cds, driveC, Int.toNat_natCast, map_getD h, List.length_map, Int.ofNat_lt, h, Int.natCast_nonneg, ints, ints_one, intss_one, hw2]); (repeat (refine And.intro (by first | omega | (intros; simp_all; done) | (intros; simp_all; omega)) ?_))))
      refine ⟨k + 1, by omega, by omega, ?_⟩
      rw [List.take_succ_eq_append_getElem (by assumption), List.map_append]
      (refine Sub_of (by simp only [go_sem, init_env', Nat.reduceEqDiff, Nat.reduceAdd, Nat.reduceMul, reduceIte, Nat.reduceLeDiff, Nat.reduceLT, Nat.reduceBEq, reduceCtorEq]; ((repeat' (first | exact EnvLe_e0 _ _ | refine EnvLe_upd ?_ ?_)) <;> ((try simp only [upd_app, e0_app, o0_app, Nat.reduceEqDiff, reduceIte]); first | exact AWk.refl _ _ | exact AWk.int (by omega) | exact AWk.int (by rw [w64 (by omega) (by omega)]; omega) | exact AWk.grow rfl | exact AWk.nil _ | exact AWk.of (by simp [ints])))) (by simp only [go_sem, init_env', Nat.reduceEqDiff, Nat.reduceAdd, Nat.reduceMul, reduceIte, Nat.reduceLeDiff, Nat.reduceLT, Nat.reduceBEq, reduceCtorEq]; ((repeat' (first | exact ObjLe_o0 _ | exact ObjLe.rfl' _ | refine ObjLe_same ?_ | refine ObjLe_upd ?_ ?_ | refine ObjLe_new rfl ?_)) <;> rfl)))
    · have h : k = r.drive.length := by simp at h; omega
      subst h
      rw [List.take_length]
      (repeat ((first | refine WV_seq_ ?_ | refine WV_block ?_ | refine WV_ops ?_ | refine WV_skip ?_ | refine WV_exit ?_); (try simp only [go_sem, init_env', Nat.reduceEqDiff, Nat.reduceAdd, Nat.reduceMul, reduceIte, Nat.reduceLeDiff, Nat.reduceLT, Nat.reduceBEq, reduceCtorEq, hP, ]); (repeat (refine And.intro (by first | omega | (intros; simp_all; done) | (intros; simp_all; omega)) ?_))))
      (refine WV_ret ?_; simp only [thenQ, inQ, RetQ, RetOk, resAll, resA]; simp only [go_sem, init_env', Nat.reduceEqDiff, Nat.reduceAdd, Nat.reduceMul, reduceIte, Nat.reduceLeDiff, Nat.reduceLT, Nat.reduceBEq, reduceCtorEq, tupA, AV.port, AV.portL, exists_eq_left', ]; (first | exact AVle.of rfl | refine AVle.of ?_ | skip))
end Go.Proofs.Ytbejgfpaokcnpaa

namespace Go.Proofs.Ytbejgfpaokcnpaa
open Go Go.V
@[reducible] def o5_0 : List Ins := [⟨(some 2), .box 3 (.t 0), none, true⟩,
  ⟨(some 4), .mv (.k (.c (.bool false))), none, true⟩]
@[reducible] def o5_1 : List Ins := [⟨(some 19), .ld false 3 (.t 2), none, true⟩,
  ⟨(some 20), .call (.k (.fn 19 [])) [(.t 19)], none, true⟩,
  ⟨(some 21), .mv (.t 20), none, true⟩,
  ⟨(some 22), .mv (.t 1), (some (21, false)), true⟩,
  ⟨(some 23), .len (.t 22), (some (21, false)), true⟩,
  ⟨(some 24), .bin .gtr (.t 23) (.k (.c (.int .i64 20))), (some (21, false)), true⟩,
  ⟨(some 25), .pick (.t 21) (.k (.c (.bool true))) (.t 24), none, true⟩]
@[reducible] def o5_2 : List Ins := [⟨(some 26), .call (.k (.fn 14 [])) [], none, true⟩,
  ⟨(some 4), .mv (.t 26), none, true⟩]
@[reducible] def v5_3 : VC := (.seq (.ops o5_2) .ret)
@[reducible] def v5_4 : VC := (.cond (.t 25) v5_3 .skip)
@[reducible] def o5_5 : List Ins := [⟨(some 27), .ld false 3 (.t 2), none, true⟩,
  ⟨(some 28), .call (.k (.fn 17 [])) [(.t 27)], none, true⟩,
  ⟨(some 29), .bsl 3 1 [], none, true⟩,
  ⟨(some 30), .mv (.t 1), none, true⟩,
  ⟨(some 31), .app 3 1 8 (.t 29) (.t 30), none, true⟩,
  ⟨(some 5), .alloc [(.c (.raw (.slice none 0 0))), (.c (.raw (.slice none 0 0))), (.c (.int .i64 0))], none, true⟩,
  ⟨none, .st 3 (.t 5) (.t 28), none, true⟩,
  ⟨(some 6), .mv (.t 31), none, true⟩]
@[reducible] def o5_6 : List Ins := [⟨(some 32), .ld false 3 (.t 5), none, false⟩,
  ⟨(some 33), .call (.k (.fn 26 [])) [(.t 32)], none, false⟩,
  ⟨(some 34), .ld false 3 (.t 2), none, false⟩,
  ⟨(some 35), .call (.k (.fn 27 [])) [(.t 34)], none, true⟩,
  ⟨(some 36), .bin .neq (.t 33) (.t 35), none, true⟩]
@[reducible] def o5_7 : List Ins := [⟨(some 4), .mv (.k (.c (.bool false))), none, true⟩]
@[reducible] def v5_8 : VC := (.seq (.ops o5_7) .ret)
@[reducible] def v5_9 : VC := (.cond (.t 36) v5_8 .skip)
@[reducible] def o5_10 : List Ins := [⟨(some 38), .ld false 3 (.t 5), none, true⟩,
  ⟨(some 39), .mv (.t 6), none, true⟩,
  ⟨(some 40), .call (.k (.fn 28 [])) [(.t 38), (.t 39)], none, true⟩,
  ⟨(some 37), .mv (.t 40), none, true⟩,
  ⟨(some 41), .ext (.t 37) 0, none, true⟩,
  ⟨(some 42), .ext (.t 37) 1, none, true⟩,
  ⟨(some 7), .mv (.t 41), none, true⟩,
  ⟨(some 8), .mv (.t 42), none, true⟩]
@[reducible] def o5_11 : List Ins := [⟨(some 44), .ld false 3 (.t 2), none, true⟩,
  ⟨(some 45), .mv (.t 1), none, true⟩,
  ⟨(some 46), .call (.k (.fn 29 [])) [(.t 44), (.t 45)], none, true⟩,
  ⟨(some 43), .mv (.t 46), none, true⟩,
  ⟨(some 47), .ext (.t 43) 0, none, true⟩,
  ⟨(some 48), .ext (.t 43) 1, none, true⟩,
  ⟨(some 9), .mv (.t 47), none, true⟩,
  ⟨(some 10), .mv (.t 48), none, true⟩]
@[reducible] def o5_12 : List Ins := [⟨(some 50), .ld false 3 (.t 5), none, true⟩,
  ⟨(some 51), .mv (.t 6), none, true⟩,
  ⟨(some 52), .call (.k (.fn 30 [])) [(.t 50), (.t 51)], none, true⟩,
  ⟨(some 49), .mv (.t 52), none, true⟩,
  ⟨(some 53), .ext (.t 49) 0, none, true⟩,
  ⟨(some 54), .ext (.t 49) 1, none, true⟩,
  ⟨(some 11), .mv (.t 53), none, true⟩,
  ⟨(some 12), .mv (.t 54), none, true⟩]
@[reducible] def o5_13 : List Ins := [⟨(some 56), .ld false 3 (.t 2), none, true⟩,
  ⟨(some 57), .mv (.t 1), none, true⟩,
  ⟨(some 58), .call (.k (.fn 31 [])) [(.t 56), (.t 57)], none, true⟩,
  ⟨(some 55), .mv (.t 58), none, true⟩,
  ⟨(some 59), .ext (.t 55) 0, none, true⟩,
  ⟨(some 60), .ext (.t 55) 1, none, true⟩,
  ⟨(some 13), .mv (.t 59), none, true⟩,
  ⟨(some 14), .mv (.t 60), none, true⟩]
@[reducible] def o5_14 : List Ins := [⟨(some 62), .ld false 3 (.t 5), none, true⟩,
  ⟨(some 63), .mv (.t 6), none, true⟩,
  ⟨(some 64), .call (.k (.fn 32 [])) [(.t 62), (.t 63)], none, true⟩,
  ⟨(some 61), .mv (.t 64), none, true⟩,
  ⟨(some 65), .ext (.t 61) 0, none, true⟩,
  ⟨(some 66), .ext (.t 61) 1, none, true⟩,
  ⟨(some 15), .mv (.t 65), none, true⟩,
  ⟨(some 16), .mv (.t 66), none, true⟩]
@[reducible] def o5_15 : List Ins := [⟨(some 68), .ld false 3 (.t 2), none, true⟩,
  ⟨(some 69), .mv (.t 1), none, true⟩,
  ⟨(some 70), .call (.k (.fn 33 [])) [(.t 68), (.t 69)], none, true⟩,
  ⟨(some 67), .mv (.t 70), none, true⟩,
  ⟨(some 71), .ext (.t 67) 0, none, true⟩,
  ⟨(some 72), .ext (.t 67) 1, none, true⟩,
  ⟨(some 17), .mv (.t 71), none, true⟩,
  ⟨(some 18), .mv (.t 72), none, true⟩]
@[reducible] def o5_16 : List Ins := [⟨(some 73), .mv (.t 7), none, true⟩,
  ⟨(some 74), .mv (.t 9), none, true⟩,
  ⟨(some 75), .call (.k (.fn 34 [])) [(.t 73), (.t 74)], none, true⟩,
  ⟨(some 76), .mv (.t 75), none, true⟩,
  ⟨(some 77), .mv (.t 8), (some (76, true)), true⟩,
  ⟨(some 78), .mv (.t 10), (some (76, true)), true⟩,
  ⟨(some 79), .bin .eql (.t 77) (.t 78), (some (76, true)), true⟩,
  ⟨(some 80), .pick (.t 76) (.t 79) (.k (.c (.bool false))), none, true⟩,
  ⟨(some 81), .mv (.t 80), none, true⟩,
  ⟨(some 82), .mv (.t 11), (some (81, true)), true⟩,
  ⟨(some 83), .mv (.t 13), (some (81, true)), true⟩,
  ⟨(some 84), .bin .eql (.t 82) (.t 83), (some (81, true)), true⟩,
  ⟨(some 85), .pick (.t 81) (.t 84) (.k (.c (.bool false))), none, true⟩,
  ⟨(some 86), .mv (.t 85), none, true⟩,
  ⟨(some 87), .mv (.t 12), (some (86, true)), true⟩,
  ⟨(some 88), .mv (.t 14), (some (86, true)), true⟩,
  ⟨(some 89), .bin .eql (.t 87) (.t 88), (some (86, true)), true⟩,
  ⟨(some 90), .pick (.t 86) (.t 89) (.k (.c (.bool false))), none, true⟩,
  ⟨(some 91), .mv (.t 90), none, true⟩,
  ⟨(some 92), .mv (.t 15), (some (91, true)), true⟩,
  ⟨(some 93), .mv (.t 17), (some (91, true)), true⟩,
  ⟨(some 94), .bin .eql (.t 92) (.t 93), (some (91, true)), true⟩,
  ⟨(some 95), .pick (.t 91) (.t 94) (.k (.c (.bool false))), none, true⟩,
  ⟨(some 96), .mv (.t 95), none, true⟩,
  ⟨(some 97), .mv (.t 16), (some (96, true)), true⟩,
  ⟨(some 98), .mv (.t 18), (some (96, true)), true⟩,
  ⟨(some 99), .bin .eql (.t 97) (.t 98), (some (96, true)), true⟩,
  ⟨(some 100), .pick (.t 96) (.t 99) (.k (.c (.bool false))), none, true⟩,
  ⟨(some 101), .mv (.t 100), none, true⟩,
  ⟨(some 102), .ld false 3 (.t 5), (some (101, true)), true⟩,
  ⟨(some 103), .ld false 3 (.t 2), (some (101, true)), true⟩,
  ⟨(some 104), .call (.k (.fn 22 [])) [(.t 102), (.t 103)], (some (101, true)), true⟩,
  ⟨(some 105), .pick (.t 101) (.t 104) (.k (.c (.bool false))), none, true⟩,
  ⟨(some 106), .mv (.t 105), none, true⟩,
  ⟨(some 107), .mv (.t 6), (some (106, true)), true⟩,
  ⟨(some 108), .mv (.t 1), (some (106, true)), true⟩,
  ⟨(some 109), .call (.k (.fn 34 [])) [(.t 107), (.t 108)], (some (106, true)), true⟩,
  ⟨(some 110), .pick (.t 106) (.t 109) (.k (.c (.bool false))), none, true⟩,
  ⟨(some 111), .mv (.t 110), none, true⟩,
  ⟨(some 112), .call (.k (.fn 14 [])) [], (some (111, true)), true⟩,
  ⟨(some 113), .pick (.t 111) (.t 112) (.k (.c (.bool false))), none, true⟩,
  ⟨(some 4), .mv (.t 113), none, true⟩]
@[reducible] def v5_17 : VC := (.seq (.ops o5_16) .ret)
@[reducible] def v5_18 : VC := (.seq (.ops o5_15) v5_17)
@[reducible] def v5_19 : VC := (.seq (.ops o5_14) v5_18)
@[reducible] def v5_20 : VC := (.seq (.ops o5_13) v5_19)
@[reducible] def v5_21 : VC := (.seq (.ops o5_12) v5_20)
@[reducible] def v5_22 : VC := (.seq (.ops o5_11) v5_21)
@[reducible] def v5_23 : VC := (.seq (.ops o5_10) v5_22)
@[reducible] def v5_24 : VC := (.seq (.seq (.ops o5_6) v5_9) v5_23)
@[reducible] def v5_25 : VC := (.seq (.ops o5_5) v5_24)
@[reducible] def v5_26 : VC := (.seq (.seq (.ops o5_1) v5_4) v5_25)
def ir5 : FC := ⟨2, 114, [.t 4], (.seq (.ops o5_0) v5_26)⟩
theorem c5 : compM Try.prog [] 5 = some ir5 := by kernel_rfl



set_option maxRecDepth 20000 in
set_option maxHeartbeats 8000000 in
theorem law5 (r : Route) (l : List Int) : FSpec Try.prog 5 [r.av, .c (ints l)] (.c (.bool true)) := by
  have hmax : maxLen = 9223372036854775807 := rfl
  refine FSpec_of c5 (Nat.le_refl _) (by decide) fun C hP hN hC hL => ?_
  simp only [ir5, Route.av, ints]
  (repeat ((first | refine WV_seq_ ?_ | refine WV_block ?_ | refine WV_ops ?_ | refine WV_skip ?_ | refine WV_exit ?_); (try simp only [go_sem, init_env', Nat.reduceEqDiff, Nat.reduceAdd, Nat.reduceMul, reduceIte, Nat.reduceLeDiff, Nat.reduceLT, Nat.reduceBEq, reduceCtorEq, hP, ]); (repeat (refine And.intro (by first | omega | (intros; simp_all; done) | (intros; simp_all; omega)) ?_))))
  (refine AS_pure (far19 r) rfl rfl rfl rfl rfl ?_; simp only [go_sem, init_env', Nat.reduceEqDiff, Nat.reduceAdd, Nat.reduceMul, reduceIte, Nat.reduceLeDiff, Nat.reduceLT, Nat.reduceBEq, reduceCtorEq, hP, Route.av]; (repeat (refine And.intro (by first | omega | (intros; simp_all; done) | (intros; simp_all; omega)) ?_)); (repeat ((first | refine WV_seq_ ?_ | refine WV_block ?_ | refine WV_ops ?_ | refine WV_skip ?_ | refine WV_exit ?_); (try simp only [go_sem, init_env', Nat.reduceEqDiff, Nat.reduceAdd, Nat.reduceMul, reduceIte, Nat.reduceLeDiff, Nat.reduceLT, Nat.reduceBEq, reduceCtorEq, hP, Route.av]); (repeat (refine And.intro (by first | omega | (intros; simp_all; done) | (intros; simp_all; omega)) ?_)))))
  (refine WV_cond rfl (fun h => ?_) (fun h => ?_))
  · (repeat ((first | refine WV_seq_ ?_ | refine WV_block ?_ | refine WV_ops ?_ | refine WV_skip ?_ | refine WV_exit ?_); (try simp only [go_sem, init_env', Nat.reduceEqDiff, Nat.reduceAdd, Nat.reduceMul, reduceIte, Nat.reduceLeDiff, Nat.reduceLT, Nat.reduceBEq, reduceCtorEq, hP, ]); (repeat (refine And.intro (by first | omega | (intros; simp_all; done) | (intros; simp_all; omega)) ?_))))
    (refine AS_pure (works14) rfl rfl rfl rfl rfl ?_; simp only [go_sem, init_env', Nat.reduceEqDiff, Nat.reduceAdd, Nat.reduceMul, reduceIte, Nat.reduceLeDiff, Nat.reduceLT, Nat.reduceBEq, reduceCtorEq, hP, ]; (repeat (refine And.intro (by first | omega | (intros; simp_all; done) | (intros; simp_all; omega)) ?_)); (repeat ((first | refine WV_seq_ ?_ | refine WV_block ?_ | refine WV_ops ?_ | refine WV_skip ?_ | refine WV_exit ?_); (try simp only [go_sem, init_env', Nat.reduceEqDiff, Nat.reduceAdd, Nat.reduceMul, reduceIte, Nat.reduceLeDiff, Nat.reduceLT, Nat.reduceBEq, reduceCtorEq, hP, ]); (repeat (refine And.intro (by first | omega | (intros; simp_all; done) | (intros; simp_all; omega)) ?_)))))
    (refine WV_ret ?_; simp only [thenQ, inQ, RetQ, RetOk, resAll, resA]; simp only [go_sem, init_env', Nat.reduceEqDiff, Nat.reduceAdd, Nat.reduceMul, reduceIte, Nat.reduceLeDiff, Nat.reduceLT, Nat.reduceBEq, reduceCtorEq, tupA, AV.port, AV.portL, exists_eq_left', ]; (first | exact AVle.of rfl | refine AVle.of ?_ | skip))
  · have h : farS r = false ∧ l.length ≤ 20 := by simp at h; exact ⟨h.1, by omega⟩
    have hnear : near r = true := by
      have := h.1
      unfold farS at this
      by_cases hn : near r = true
      · exact hn
      · rw [if_neg hn] at this; cases this
    have hl := h.2
    (repeat ((first | refine WV_seq_ ?_ | refine WV_block ?_ | refine WV_ops ?_ | refine WV_skip ?_ | refine WV_exit ?_); (try simp only [go_sem, init_env', Nat.reduceEqDiff, Nat.reduceAdd, Nat.reduceMul, reduceIte, Nat.reduceLeDiff, Nat.reduceLT, Nat.reduceBEq, reduceCtorEq, hP, ]); (repeat (refine And.intro (by first | omega | (intros; simp_all; done) | (intros; simp_all; omega)) ?_))))
    (refine AS_pure (copy17 r hnear) rfl rfl rfl rfl rfl ?_; simp only [go_sem, init_env', Nat.reduceEqDiff, Nat.reduceAdd, Nat.reduceMul, reduceIte, Nat.reduceLeDiff, Nat.reduceLT, Nat.reduceBEq, reduceCtorEq, hP, Route.av, ints_one]; (repeat (refine And.intro (by first | omega | (intros; simp_all; done) | (intros; simp_all; omega)) ?_)); (repeat ((first | refine WV_seq_ ?_ | refine WV_block ?_ | refine WV_ops ?_ | refine WV_skip ?_ | refine WV_exit ?_); (try simp only [go_sem, init_env', Nat.reduceEqDiff, Nat.reduceAdd, Nat.reduceMul, reduceIte, Nat.reduceLeDiff, Nat.reduceLT, Nat.reduceBEq, reduceCtorEq, hP, Route.av, ints_one]); (repeat (refine And.intro (by first | omega | (intros; simp_all; done) | (intros; simp_all; omega)) ?_)))))
    refine ACall_of (rcheck_spec r) rfl rfl rfl rfl rfl ?_
    simp only [go_sem, init_env', Nat.reduceEqDiff, Nat.reduceAdd, Nat.reduceMul, reduceIte, Nat.reduceLeDiff, Nat.reduceLT, Nat.reduceBEq, reduceCtorEq, hP]
    (refine AS_pure (check_spec r) rfl rfl rfl rfl rfl ?_; simp only [go_sem, init_env', Nat.reduceEqDiff, Nat.reduceAdd, Nat.reduceMul, reduceIte, Nat.reduceLeDiff, Nat.reduceLT, Nat.reduceBEq, reduceCtorEq, hP, bne_self_eq_false]; (repeat (refine And.intro (by first | omega | (intros; simp_all; done) | (intros; simp_all; omega)) ?_)); (repeat ((first | refine WV_seq_ ?_ | refine WV_block ?_ | refine WV_ops ?_ | refine WV_skip ?_ | refine WV_exit ?_); (try simp only [go_sem, init_env', Nat.reduceEqDiff, Nat.reduceAdd, Nat.reduceMul, reduceIte, Nat.reduceLeDiff, Nat.reduceLT, Nat.reduceBEq, reduceCtorEq, hP, bne_self_eq_false]); (repeat (refine And.intro (by first | omega | (intros; simp_all; done) | (intros; simp_all; omega)) ?_)))))
    (refine WV_cond rfl (fun h => ?_) (fun h => ?_))
    · simp at h
    · (repeat ((first | refine WV_seq_ ?_ | refine WV_block ?_ | refine WV_ops ?_ | refine WV_skip ?_ | refine WV_exit ?_); (try simp only [go_sem, init_env', Nat.reduceEqDiff, Nat.reduceAdd, Nat.reduceMul, reduceIte, Nat.reduceLeDiff, Nat.reduceLT, Nat.reduceBEq, reduceCtorEq, hP, ]); (repeat (refine And.intro (by first | omega | (intros; simp_all; done) | (intros; simp_all; omega)) ?_))))
      (refine AS_pure (times28 r l hl) rfl rfl rfl rfl rfl ?_; simp only [go_sem, init_env', Nat.reduceEqDiff, Nat.reduceAdd, Nat.reduceMul, reduceIte, Nat.reduceLeDiff, Nat.reduceLT, Nat.reduceBEq, reduceCtorEq, hP, Route.av]; (repeat (refine And.intro (by first | omega | (intros; simp_all; done) | (intros; simp_all; omega)) ?_)); (repeat ((first | refine WV_seq_ ?_ | refine WV_block ?_ | refine WV_ops ?_ | refine WV_skip ?_ | refine WV_exit ?_); (try simp only [go_sem, init_env', Nat.reduceEqDiff, Nat.reduceAdd, Nat.reduceMul, reduceIte, Nat.reduceLeDiff, Nat.reduceLT, Nat.reduceBEq, reduceCtorEq, hP, Route.av]); (repeat (refine And.intro (by first | omega | (intros; simp_all; done) | (intros; simp_all; omega)) ?_)))))
      (refine AS_pure (rtimes29 r l hl) rfl rfl rfl rfl rfl ?_; simp only [go_sem, init_env', Nat.reduceEqDiff, Nat.reduceAdd, Nat.reduceMul, reduceIte, Nat.reduceLeDiff, Nat.reduceLT, Nat.reduceBEq, reduceCtorEq, hP, Route.av]; (repeat (refine And.intro (by first | omega | (intros; simp_all; done) | (intros; simp_all; omega)) ?_)); (repeat ((first | refine WV_seq_ ?_ | refine WV_block ?_ | refine WV_ops ?_ | refine WV_skip ?_ | refine WV_exit ?_); (try simp only [go_sem, init_env', Nat.reduceEqDiff, Nat.reduceAdd, Nat.reduceMul, reduceIte, Nat.reduceLeDiff, Nat.reduceLT, Nat.reduceBEq, reduceCtorEq, hP, Route.av]); (repeat (refine And.intro (by first | omega | (intros; simp_all; done) | (intros; simp_all; omega)) ?_)))))
      (refine AS_pure (back30 r l hl) rfl rfl rfl rfl rfl ?_; simp only [go_sem, init_env', Nat.reduceEqDiff, Nat.reduceAdd, Nat.reduceMul, reduceIte, Nat.reduceLeDiff, Nat.reduceLT, Nat.reduceBEq, reduceCtorEq, hP, Route.av]; (repeat (refine And.intro (by first | omega | (intros; simp_all; done) | (intros; simp_all; omega)) ?_)); (repeat ((first | refine WV_seq_ ?_ | refine WV_block ?_ | refine WV_ops ?_ | refine WV_skip ?_ | refine WV_exit ?_); (try simp only [go_sem, init_env', Nat.reduceEqDiff, Nat.reduceAdd, Nat.reduceMul, reduceIte, Nat.reduceLeDiff, Nat.reduceLT, Nat.reduceBEq, reduceCtorEq, hP, Route.av]); (repeat (refine And.intro (by first | omega | (intros; simp_all; done) | (intros; simp_all; omega)) ?_)))))
      (refine AS_pure (rback31 r l hl) rfl rfl rfl rfl rfl ?_; simp only [go_sem, init_env', Nat.reduceEqDiff, Nat.reduceAdd, Nat.reduceMul, reduceIte, Nat.reduceLeDiff, Nat.reduceLT, Nat.reduceBEq, reduceCtorEq, hP, Route.av]; (repeat (refine And.intro (by first | omega | (intros; simp_all; done) | (intros; simp_all; omega)) ?_)); (repeat ((first | refine WV_seq_ ?_ | refine WV_block ?_ | refine WV_ops ?_ | refine WV_skip ?_ | refine WV_exit ?_); (try simp only [go_sem, init_env', Nat.reduceEqDiff, Nat.reduceAdd, Nat.reduceMul, reduceIte, Nat.reduceLeDiff, Nat.reduceLT, Nat.reduceBEq, reduceCtorEq, hP, Route.av]); (repeat (refine And.intro (by first | omega | (intros; simp_all; done) | (intros; simp_all; omega)) ?_)))))
      (refine AS_pure (missed32 r l hl) rfl rfl rfl rfl rfl ?_; simp only [go_sem, init_env', Nat.reduceEqDiff, Nat.reduceAdd, Nat.reduceMul, reduceIte, Nat.reduceLeDiff, Nat.reduceLT, Nat.reduceBEq, reduceCtorEq, hP, Route.av]; (repeat (refine And.intro (by first | omega | (intros; simp_all; done) | (intros; simp_all; omega)) ?_)); (repeat ((first | refine WV_seq_ ?_ | refine WV_block ?_ | refine WV_ops ?_ | refine WV_skip ?_ | refine WV_exit ?_); (try simp only [go_sem, init_env', Nat.reduceEqDiff, Nat.reduceAdd, Nat.reduceMul, reduceIte, Nat.reduceLeDiff, Nat.reduceLT, Nat.reduceBEq, reduceCtorEq, hP, Route.av]); (repeat (refine And.intro (by first | omega | (intros; simp_all; done) | (intros; simp_all; omega)) ?_)))))
      (refine AS_pure (rmissed33 r l hl) rfl rfl rfl rfl rfl ?_; simp only [go_sem, init_env', Nat.reduceEqDiff, Nat.reduceAdd, Nat.reduceMul, reduceIte, Nat.reduceLeDiff, Nat.reduceLT, Nat.reduceBEq, reduceCtorEq, hP, Route.av]; (repeat (refine And.intro (by first | omega | (intros; simp_all; done) | (intros; simp_all; omega)) ?_)); (repeat ((first | refine WV_seq_ ?_ | refine WV_block ?_ | refine WV_ops ?_ | refine WV_skip ?_ | refine WV_exit ?_); (try simp only [go_sem, init_env', Nat.reduceEqDiff, Nat.reduceAdd, Nat.reduceMul, reduceIte, Nat.reduceLeDiff, Nat.reduceLT, Nat.reduceBEq, reduceCtorEq, hP, Route.av]); (repeat (refine And.intro (by first | omega | (intros; simp_all; done) | (intros; simp_all; omega)) ?_)))))
      (refine AS_pure (same34 (timesS r l).1 (timesS r l).1) rfl rfl rfl rfl rfl ?_; simp only [go_sem, init_env', Nat.reduceEqDiff, Nat.reduceAdd, Nat.reduceMul, reduceIte, Nat.reduceLeDiff, Nat.reduceLT, Nat.reduceBEq, reduceCtorEq, hP, Route.av, beq_self_eq_true, decide_true]; (repeat (refine And.intro (by first | omega | (intros; simp_all; done) | (intros; simp_all; omega)) ?_)); (repeat ((first | refine WV_seq_ ?_ | refine WV_block ?_ | refine WV_ops ?_ | refine WV_skip ?_ | refine WV_exit ?_); (try simp only [go_sem, init_env', Nat.reduceEqDiff, Nat.reduceAdd, Nat.reduceMul, reduceIte, Nat.reduceLeDiff, Nat.reduceLT, Nat.reduceBEq, reduceCtorEq, hP, Route.av, beq_self_eq_true, decide_true]); (repeat (refine And.intro (by first | omega | (intros; simp_all; done) | (intros; simp_all; omega)) ?_)))))
      (refine AG_pure (fun hG => samer22 r) rfl (fun hG => by simp only [go_sem, init_env', Nat.reduceEqDiff, Nat.reduceAdd, Nat.reduceMul, reduceIte, Nat.reduceLeDiff, Nat.reduceLT, Nat.reduceBEq, reduceCtorEq, hG]) rfl rfl rfl ?_; simp only [go_sem, init_env', Nat.reduceEqDiff, Nat.reduceAdd, Nat.reduceMul, reduceIte, Nat.reduceLeDiff, Nat.reduceLT, Nat.reduceBEq, reduceCtorEq, hP, Route.av, beq_self_eq_true, decide_true]; (repeat (refine And.intro (by first | omega | (intros; simp_all; done) | (intros; simp_all; omega)) ?_)); (repeat ((first | refine WV_seq_ ?_ | refine WV_block ?_ | refine WV_ops ?_ | refine WV_skip ?_ | refine WV_exit ?_); (try simp only [go_sem, init_env', Nat.reduceEqDiff, Nat.reduceAdd, Nat.reduceMul, reduceIte, Nat.reduceLeDiff, Nat.reduceLT, Nat.reduceBEq, reduceCtorEq, hP, Route.av, beq_self_eq_true, decide_true]); (repeat (refine And.intro (by first | omega | (intros; simp_all; done) | (intros; simp_all; omega)) ?_)))))
      (refine AG_pure (fun hG => same34 l l) rfl (fun hG => by simp only [go_sem, init_env', Nat.reduceEqDiff, Nat.reduceAdd, Nat.reduceMul, reduceIte, Nat.reduceLeDiff, Nat.reduceLT, Nat.reduceBEq, reduceCtorEq, hG]) rfl rfl rfl ?_; simp only [go_sem, init_env', Nat.reduceEqDiff, Nat.reduceAdd, Nat.reduceMul, reduceIte, Nat.reduceLeDiff, Nat.reduceLT, Nat.reduceBEq, reduceCtorEq, hP, Route.av, beq_self_eq_true, decide_true]; (repeat (refine And.intro (by first | omega | (intros; simp_all; done) | (intros; simp_all; omega)) ?_)); (repeat ((first | refine WV_seq_ ?_ | refine WV_block ?_ | refine WV_ops ?_ | refine WV_skip ?_ | refine WV_exit ?_); (try simp only [go_sem, init_env', Nat.reduceEqDiff, Nat.reduceAdd, Nat.reduceMul, reduceIte, Nat.reduceLeDiff, Nat.reduceLT, Nat.reduceBEq, reduceCtorEq, hP, Route.av, beq_self_eq_true, decide_true]); (repeat (refine And.intro (by first | omega | (intros; simp_all; done) | (intros; simp_all; omega)) ?_)))))
      (refine AG_pure (fun hG => works14) rfl (fun hG => by simp only [go_sem, init_env', Nat.reduceEqDiff, Nat.reduceAdd, Nat.reduceMul, reduceIte, Nat.reduceLeDiff, Nat.reduceLT, Nat.reduceBEq, reduceCtorEq, hG]) rfl rfl rfl ?_; simp only [go_sem, init_env', Nat.reduceEqDiff, Nat.reduceAdd, Nat.reduceMul, reduceIte, Nat.reduceLeDiff, Nat.reduceLT, Nat.reduceBEq, reduceCtorEq, hP, Route.av, beq_self_eq_true, decide_true]; (repeat (refine And.intro (by first | omega | (intros; simp_all; done) | (intros; simp_all; omega)) ?_)); (repeat ((first | refine WV_seq_ ?_ | refine WV_block ?_ | refine WV_ops ?_ | refine WV_skip ?_ | refine WV_exit ?_); (try simp only [go_sem, init_env', Nat.reduceEqDiff, Nat.reduceAdd, Nat.reduceMul, reduceIte, Nat.reduceLeDiff, Nat.reduceLT, Nat.reduceBEq, reduceCtorEq, hP, Route.av, beq_self_eq_true, decide_true]); (repeat (refine And.intro (by first | omega | (intros; simp_all; done) | (intros; simp_all; omega)) ?_)))))
      (refine WV_ret ?_; simp only [thenQ, inQ, RetQ, RetOk, resAll, resA]; simp only [go_sem, init_env', Nat.reduceEqDiff, Nat.reduceAdd, Nat.reduceMul, reduceIte, Nat.reduceLeDiff, Nat.reduceLT, Nat.reduceBEq, reduceCtorEq, tupA, AV.port, AV.portL, exists_eq_left', ]; (first | exact AVle.of rfl | refine AVle.of ?_ | skip))
end Go.Proofs.Ytbejgfpaokcnpaa
