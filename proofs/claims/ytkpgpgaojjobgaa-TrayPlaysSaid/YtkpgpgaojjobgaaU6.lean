/-
  Contracts of the layer's functions, of the laws' helpers and of the law; conditions: as each theorem states.
-/
import Derived.Test.YtkpgpgaojjobgaaU5
import Derived.Test.YtkpgpgaojjobgaaU4
set_option linter.unusedVariables false
set_option linter.unusedSimpArgs false
/-
  The specification's events say what the carriage does: plain.
-/
namespace Go.Proofs.Ytkpgpgaojjobgaa
open Go Go.V

def playOf (e : Ev) : List Pr := if 0 ≤ e.side then [⟨e.side, e.from_⟩] else []
def playsE (l : List Ev) : List Pr := l.flatMap playOf
def stepOf (e : Ev) : Int := if e.side = -1 then 1 else 0
def stepsE : List Ev → Int
  | [] => 0
  | e :: l => stepOf e + stepsE l
def endStep (n : Int) (e : Ev) : Int := if 0 ≤ e.side then e.to_ else n
def endE (n : Int) (l : List Ev) : Int := l.foldl endStep n
theorem stepsE_app (a b : List Ev) : stepsE (a ++ b) = stepsE a + stepsE b := by
  induction a with
  | nil => simp [stepsE]
  | cons e a ih => simp only [List.cons_append, stepsE, ih]; omega
theorem playsE_app (a b : List Ev) : playsE (a ++ b) = playsE a ++ playsE b := List.flatMap_append
theorem endE_app (n : Int) (a b : List Ev) : endE n (a ++ b) = endE (endE n a) b := by unfold endE; rw [List.foldl_append]
theorem goE_plays (t : Tray) (s : Cs) : playsE (goE t s) = [] := by unfold goE; split <;> rfl
theorem goE_end (t : Tray) (s : Cs) (n : Int) : endE n (goE t s) = n := by unfold goE; split <;> rfl
theorem goE_steps (t : Tray) (s : Cs) : (s.next t).steps = s.steps + stepsE (goE t s) := by
  unfold goE moves Cs.next Cs.move Cs.mark
  cases s.up
  · by_cases h : 0 < s.at_ <;> simp [h, stepsE, stepOf]
  · by_cases h : s.at_ + 1 < t.n <;> simp [h, stepsE, stepOf]
theorem playE_all (t : Tray) (s : Cs) : (s.play t).plays = s.plays ++ playsE (playE t s) ∧ (s.play t).end_ = endE s.end_ (playE t s) ∧ (s.play t).steps = s.steps + stepsE (playE t s) := by
  unfold playE
  by_cases h : s.pins.getD s.pos false = true
  · obtain ⟨p1, p2, p3, p4, p5, p6⟩ := play_yes (t := t) h
    rw [if_pos h, p3, p5, p6]
    have e0 : (0 : Int) ≤ ((s.pos : Nat) : Int) := by omega
    have e1 : ¬ ((s.pos : Nat) : Int) = -1 := by omega
    refine ⟨by simp [playsE, playOf, e0], by simp [endE, endStep, e0], by simp [stepsE, stepOf, e1]⟩
  · rw [if_neg h, play_no h]
    exact ⟨by simp [playsE], rfl, by simp [stepsE]⟩
theorem idle_all (a b c d : Int) : playsE [⟨a, b, c, d, -2⟩] = [] ∧ stepsE [⟨a, b, c, d, -2⟩] = 0 ∧ ∀ n, endE n [⟨a, b, c, d, -2⟩] = n := ⟨rfl, rfl, fun _ => rfl⟩
theorem iter_ev {t : Tray} (ht : TrayOk t) : ∀ (k : Nat) (s : Cs), CsOk t s → mu t s < k → (iter t k s).plays = s.plays ++ playsE (evR t k s) ∧ (iter t k s).steps = s.steps + stepsE (evR t k s) ∧ (iter t k s).end_ = endE s.end_ (evR t k s)
  | 0, s, _, h => by omega
  | k + 1, s, hs, hm => by
    cases hact : s.act t with
    | none =>
      rw [evR_none hact]
      simp only [iter, hact]
      have h1 : s.press.act1 t = none := hact
      obtain ⟨_, hp⟩ := act1_none h1
      have he : emit1 t s.press = [⟨s.press.now, nextT s.press, s.press.at_, wayI s.press.up, -2⟩] := by unfold emit1; rw [if_pos hp]
      obtain ⟨i1, i2, i3⟩ := idle_all s.press.now (nextT s.press) s.press.at_ (wayI s.press.up)
      rw [he, i1, i2, i3]
      exact ⟨by simp [Cs.press], by simp [Cs.press], rfl⟩
    | some s' =>
      have hs' := act_ok ht hs hact
      have hmu := act_mu hs hact
      obtain ⟨h1, h2, h3⟩ := iter_ev ht k s' hs' (by omega)
      rw [evR_some hact]
      simp only [iter, hact]
      rw [h1, h2, h3, playsE_app, stepsE_app, endE_app]
      rcases act1_cases (show s.press.act1 t = some s' from hact) with ⟨p, q, hq, hp, rfl⟩ | ⟨hp, rfl⟩
      · have he : emit1 t s.press = [⟨s.press.now, nextT s.press, s.press.at_, wayI s.press.up, -2⟩] := by unfold emit1; rw [if_pos hp]
        obtain ⟨i1, i2, i3⟩ := idle_all s.press.now (nextT s.press) s.press.at_ (wayI s.press.up)
        rw [he, i1, i2, i3]
        refine ⟨by simp [Cs.press], ?_, rfl⟩
        show s.steps + _ = _
        omega
      · have he : emit1 t s.press = playE t s.press ++ goE t (s.press.play t) := by unfold emit1; rw [if_neg (by rw [hp]; simp)]
        obtain ⟨k1, k2, k3⟩ := playE_all t s.press
        obtain ⟨n1, n2, n3, n4⟩ := next_keeps t (s.press.play t)
        have n5 := goE_steps t (s.press.play t)
        rw [he, playsE_app, stepsE_app, endE_app, goE_plays, goE_end, List.append_nil, n3, n4, n5, k1, k2, k3]
        refine ⟨by rw [List.append_assoc]; rfl, ?_, rfl⟩
        show s.steps + _ + _ + _ = _
        omega
/-- The plays, the steps, the end. -/
theorem ev_goes {t : Tray} (ht : TrayOk t) : playsE (evS t) = playsS t ∧ stepsE (evS t) = (goesS t).steps ∧ endE 0 (evS t) = (goesS t).end_ := by
  have hmu := start_mu ht (q := sortT t.pres) (by rw [sortT_len]; exact ht.p13)
  obtain ⟨h1, h2, h3⟩ := iter_ev ht 250 _ (start_ok ht (sortT_perm t.pres) (sortT_sorted t.pres)) (by omega)
  refine ⟨?_, ?_, ?_⟩
  · have h1 : playsS t = [] ++ playsE (evS t) := h1
    rw [h1, List.nil_append]
  · have h2 : (goesS t).steps = 0 + stepsE (evS t) := h2
    omega
  · have h3 : (goesS t).end_ = endE 0 (evS t) := h3
    exact h3.symm

/-! ### Where it stands -/
end Go.Proofs.Ytkpgpgaojjobgaa

namespace Go.Proofs.Ytkpgpgaojjobgaa
open Go Go.V
@[reducible] def o65_0 : List Ins := [⟨(some 1), .box 5 (.t 0), none, true⟩,
  ⟨(some 2), .mv (.k (.c (.raw (.slice none 0 0)))), none, true⟩]
@[reducible] def o65_1 : List Ins := [⟨(some 3), .mv (.k (.c (.raw (.slice none 0 0)))), none, true⟩]
@[reducible] def o65_2 : List Ins := [⟨(some 6), .ld false 5 (.t 1), none, true⟩,
  ⟨(some 7), .call (.k (.fn 59 [])) [(.t 6)], none, true⟩,
  ⟨(some 4), .mv (.t 7), none, true⟩]
@[reducible] def o65_3 : List Ins := [⟨(some 5), .mv (.k (.c (.int .i64 0))), none, true⟩]
@[reducible] def o65_4 : List Ins := [⟨(some 8), .mv (.t 5), none, true⟩,
  ⟨(some 9), .mv (.t 4), none, true⟩,
  ⟨(some 10), .len (.t 9), none, true⟩,
  ⟨(some 11), .bin .lss (.t 8) (.t 10), none, true⟩]
@[reducible] def v65_5 : VC := (.cond (.t 11) .skip (.exit 0))
@[reducible] def o65_6 : List Ins := [⟨(some 14), .mv (.t 4), none, true⟩,
  ⟨(some 15), .mv (.t 5), none, true⟩,
  ⟨(some 16), .ia 5 (.t 14) (.t 15), none, true⟩,
  ⟨(some 17), .fa 4 (.t 16), none, true⟩,
  ⟨(some 18), .ld true 1 (.t 17), none, true⟩,
  ⟨(some 19), .bin .geq (.t 18) (.k (.c (.int .i64 0))), none, true⟩]
@[reducible] def o65_7 : List Ins := [⟨(some 20), .mv (.t 3), none, false⟩,
  ⟨(some 21), .mv (.t 4), none, false⟩,
  ⟨(some 22), .mv (.t 5), none, false⟩,
  ⟨(some 23), .ia 5 (.t 21) (.t 22), none, false⟩,
  ⟨(some 24), .fa 4 (.t 23), none, false⟩,
  ⟨(some 25), .ld true 1 (.t 24), none, false⟩,
  ⟨(some 26), .mv (.t 4), none, false⟩,
  ⟨(some 27), .mv (.t 5), none, false⟩,
  ⟨(some 28), .ia 5 (.t 26) (.t 27), none, false⟩,
  ⟨(some 29), .fa 0 (.t 28), none, false⟩,
  ⟨(some 30), .ld true 1 (.t 29), none, false⟩,
  ⟨(some 31), .bld [(.c (.int .i64 0)), (.c (.int .i64 0))] [(0, 1, (.t 25)), (1, 1, (.t 30))], none, false⟩,
  ⟨(some 32), .bsl 41 2 [(.t 31)], none, false⟩,
  ⟨(some 33), .app 41 2 16 (.t 20) (.t 32), none, true⟩,
  ⟨(some 3), .mv (.t 33), none, true⟩]
@[reducible] def v65_8 : VC := (.cond (.t 19) (.ops o65_7) .skip)
@[reducible] def v65_9 : VC := (.seq (.ops o65_6) v65_8)
@[reducible] def o65_10 : List Ins := [⟨(some 12), .mv (.t 5), none, true⟩,
  ⟨(some 13), .bin .add (.t 12) (.k (.c (.int .i64 1))), none, true⟩,
  ⟨(some 5), .mv (.t 13), none, true⟩]
@[reducible] def v65_11 : VC := (.seq (.block 1 v65_9) (.ops o65_10))
@[reducible] def v65_12 : VC := (.seq (.seq (.ops o65_4) v65_5) v65_11)
-- K65_1: changed and kept: [5, 3]
@[reducible] def K65_1 : List Nat := [4]
@[reducible] def v65_13 : VC := (.loop v65_12)
@[reducible] def v65_14 : VC := (.block 0 v65_13)
@[reducible] def o65_15 : List Ins := [⟨(some 34), .mv (.t 3), none, true⟩,
  ⟨(some 2), .mv (.t 34), none, true⟩]
@[reducible] def v65_16 : VC := (.seq (.ops o65_15) .ret)
@[reducible] def v65_17 : VC := (.seq (.seq (.ops o65_3) v65_14) v65_16)
@[reducible] def v65_18 : VC := (.seq (.ops o65_2) v65_17)
@[reducible] def v65_19 : VC := (.seq (.ops o65_1) v65_18)
def ir65 : FC := ⟨1, 35, [.t 2], (.seq (.ops o65_0) v65_19)⟩
@[reducible] def o42_0 : List Ins := [⟨(some 1), .box 5 (.t 0), none, true⟩,
  ⟨(some 2), .mv (.k (.c (.raw (.slice none 0 0)))), none, true⟩,
  ⟨(some 3), .mv (.k (.c (.int .i64 0))), none, true⟩]
@[reducible] def o42_1 : List Ins := [⟨(some 5), .ld false 5 (.t 1), none, true⟩,
  ⟨(some 6), .call (.k (.fn 41 [])) [(.t 5)], none, true⟩,
  ⟨(some 4), .mv (.t 6), none, true⟩]
@[reducible] def o42_2 : List Ins := [⟨(some 7), .mv (.t 4), none, true⟩,
  ⟨(some 8), .bin .neq (.t 7) (.k (.c (.int .i64 0))), none, true⟩]
@[reducible] def o42_3 : List Ins := [⟨(some 9), .mv (.t 4), none, true⟩,
  ⟨(some 2), .mv (.k (.c (.raw (.slice none 0 0)))), none, true⟩,
  ⟨(some 3), .mv (.t 9), none, true⟩]
@[reducible] def v42_4 : VC := (.seq (.ops o42_3) .ret)
@[reducible] def v42_5 : VC := (.cond (.t 8) v42_4 .skip)
@[reducible] def v42_6 : VC := (.seq (.ops o42_2) v42_5)
@[reducible] def o42_7 : List Ins := [⟨(some 10), .ld false 5 (.t 1), none, true⟩,
  ⟨(some 11), .call (.k (.fn 65 [])) [(.t 10)], none, true⟩,
  ⟨(some 2), .mv (.t 11), none, true⟩,
  ⟨(some 3), .mv (.k (.c (.int .i64 0))), none, true⟩]
@[reducible] def v42_8 : VC := (.seq (.ops o42_7) .ret)
@[reducible] def v42_9 : VC := (.seq (.seq (.ops o42_1) v42_6) v42_8)
def ir42 : FC := ⟨1, 12, [.t 2, .t 3], (.seq (.ops o42_0) v42_9)⟩
@[reducible] def o43_0 : List Ins := [⟨(some 1), .box 5 (.t 0), none, true⟩,
  ⟨(some 2), .mv (.k (.c (.int .i64 0))), none, true⟩,
  ⟨(some 3), .mv (.k (.c (.int .i64 0))), none, true⟩]
@[reducible] def o43_1 : List Ins := [⟨(some 8), .ld false 5 (.t 1), none, true⟩,
  ⟨(some 9), .call (.k (.fn 41 [])) [(.t 8)], none, true⟩,
  ⟨(some 4), .mv (.t 9), none, true⟩]
@[reducible] def o43_2 : List Ins := [⟨(some 10), .mv (.t 4), none, true⟩,
  ⟨(some 11), .bin .neq (.t 10) (.k (.c (.int .i64 0))), none, true⟩]
@[reducible] def o43_3 : List Ins := [⟨(some 12), .mv (.t 4), none, true⟩,
  ⟨(some 2), .mv (.k (.c (.int .i64 0))), none, true⟩,
  ⟨(some 3), .mv (.t 12), none, true⟩]
@[reducible] def v43_4 : VC := (.seq (.ops o43_3) .ret)
@[reducible] def v43_5 : VC := (.cond (.t 11) v43_4 .skip)
@[reducible] def v43_6 : VC := (.seq (.ops o43_2) v43_5)
@[reducible] def o43_7 : List Ins := [⟨(some 5), .mv (.k (.c (.int .i64 0))), none, true⟩]
@[reducible] def o43_8 : List Ins := [⟨(some 13), .ld false 5 (.t 1), none, true⟩,
  ⟨(some 14), .call (.k (.fn 59 [])) [(.t 13)], none, true⟩,
  ⟨(some 6), .mv (.t 14), none, true⟩]
@[reducible] def o43_9 : List Ins := [⟨(some 7), .mv (.k (.c (.int .i64 0))), none, true⟩]
@[reducible] def o43_10 : List Ins := [⟨(some 15), .mv (.t 7), none, true⟩,
  ⟨(some 16), .mv (.t 6), none, true⟩,
  ⟨(some 17), .len (.t 16), none, true⟩,
  ⟨(some 18), .bin .lss (.t 15) (.t 17), none, true⟩]
@[reducible] def v43_11 : VC := (.cond (.t 18) .skip (.exit 0))
@[reducible] def o43_12 : List Ins := [⟨(some 21), .mv (.t 6), none, true⟩,
  ⟨(some 22), .mv (.t 7), none, true⟩,
  ⟨(some 23), .ia 5 (.t 21) (.t 22), none, true⟩,
  ⟨(some 24), .fa 4 (.t 23), none, true⟩,
  ⟨(some 25), .ld true 1 (.t 24), none, true⟩,
  ⟨(some 26), .bin .eql (.t 25) (.k (.c (.int .i64 (-1)))), none, true⟩]
@[reducible] def o43_13 : List Ins := [⟨(some 27), .mv (.t 5), none, true⟩,
  ⟨(some 28), .bin .add (.t 27) (.k (.c (.int .i64 1))), none, true⟩,
  ⟨(some 5), .mv (.t 28), none, true⟩]
@[reducible] def v43_14 : VC := (.cond (.t 26) (.ops o43_13) .skip)
@[reducible] def v43_15 : VC := (.seq (.ops o43_12) v43_14)
@[reducible] def o43_16 : List Ins := [⟨(some 19), .mv (.t 7), none, true⟩,
  ⟨(some 20), .bin .add (.t 19) (.k (.c (.int .i64 1))), none, true⟩,
  ⟨(some 7), .mv (.t 20), none, true⟩]
@[reducible] def v43_17 : VC := (.seq (.block 1 v43_15) (.ops o43_16))
@[reducible] def v43_18 : VC := (.seq (.seq (.ops o43_10) v43_11) v43_17)
-- K43_1: changed and kept: [7, 5]
@[reducible] def K43_1 : List Nat := [6]
@[reducible] def v43_19 : VC := (.loop v43_18)
@[reducible] def v43_20 : VC := (.block 0 v43_19)
@[reducible] def o43_21 : List Ins := [⟨(some 29), .mv (.t 5), none, true⟩,
  ⟨(some 2), .mv (.t 29), none, true⟩,
  ⟨(some 3), .mv (.k (.c (.int .i64 0))), none, true⟩]
@[reducible] def v43_22 : VC := (.seq (.ops o43_21) .ret)
@[reducible] def v43_23 : VC := (.seq (.seq (.ops o43_9) v43_20) v43_22)
@[reducible] def v43_24 : VC := (.seq (.ops o43_8) v43_23)
@[reducible] def v43_25 : VC := (.seq (.ops o43_7) v43_24)
@[reducible] def v43_26 : VC := (.seq (.seq (.ops o43_1) v43_6) v43_25)
def ir43 : FC := ⟨1, 30, [.t 2, .t 3], (.seq (.ops o43_0) v43_26)⟩
theorem c65 : compM Try.prog [] 65 = some ir65 := by kernel_rfl
theorem c42 : compM Try.prog [] 42 = some ir42 := by kernel_rfl
theorem c43 : compM Try.prog [] 43 = some ir43 := by kernel_rfl
theorem emit_len (t : Tray) (s : Cs) : (emit1 t s).length ≤ 2 := by
  have h1 : (playE t s).length ≤ 1 := by unfold playE; split <;> simp
  have h2 : (goE t (s.play t)).length ≤ 1 := by unfold goE; split <;> simp
  unfold emit1
  split
  · simp
  · rw [List.length_append]; omega
theorem evR_len (t : Tray) : ∀ (k : Nat) (s : Cs), (evR t k s).length ≤ 2 * k
  | 0, s => Nat.le_refl _
  | k + 1, s => by
    have h1 := emit_len t s.press
    cases h : s.act t with
    | none => rw [evR_none h]; omega
    | some s' => rw [evR_some h, List.length_append]; have := evR_len t k s'; omega
theorem evS_len (t : Tray) : (evS t).length ≤ 500 := evR_len t 250 _
theorem playsE_take {l : List Ev} {k : Nat} (h : k < l.length) : playsE (l.take (k + 1)) = playsE (l.take k) ++ playOf l[k] := by
  rw [List.take_succ_eq_append_getElem h, playsE_app]; simp [playsE]
theorem stepsE_take {l : List Ev} {k : Nat} (h : k < l.length) : stepsE (l.take (k + 1)) = stepsE (l.take k) + stepOf l[k] := by
  rw [List.take_succ_eq_append_getElem h, stepsE_app]; simp [stepsE]
theorem playsE_len (l : List Ev) : (playsE l).length ≤ l.length := by
  induction l with
  | nil => exact Nat.le_refl _
  | cons e l ih =>
    have : (playOf e).length ≤ 1 := by unfold playOf; split <;> simp
    show (playOf e ++ playsE l).length ≤ _
    rw [List.length_append, List.length_cons]; omega
theorem stepsE_bd (l : List Ev) : 0 ≤ stepsE l ∧ stepsE l ≤ (l.length : Int) := by
  induction l with
  | nil => exact ⟨Int.le_refl _, Int.le_refl _⟩
  | cons e l ih =>
    have : 0 ≤ stepOf e ∧ stepOf e ≤ 1 := by unfold stepOf; split <;> omega
    simp only [stepsE, List.length_cons]; omega
set_option maxHeartbeats 8000000 in
theorem plays65 {t : Tray} (ht : TrayOk t) : FSpec Try.prog 65 [t.av] (.c (prsC (playsS t))) := by
  have hmax : maxLen = 9223372036854775807 := rfl
  have hrun := run59 ht
  have hlen := evS_len t
  rw [← (ev_goes ht).1]
  generalize evS t = E at *
  refine FSpec_of c65 (Nat.le_refl _) (by decide) fun C hP hN hC hL => ?_
  simp only [ir65, Tray.av]
  (repeat ((first | refine WV_seq_ ?_ | refine WV_block ?_ | refine WV_ops ?_ | refine WV_skip ?_ | refine WV_exit ?_); (try simp only [go_sem, init_env', Nat.reduceEqDiff, Nat.reduceAdd, Nat.reduceMul, reduceIte, Nat.reduceLeDiff, Nat.reduceLT, Nat.reduceBEq, reduceCtorEq, hP, ]); (repeat (refine And.intro (by first | omega | (intros; simp_all; done) | (intros; simp_all; omega)) ?_))))
  (refine AS_pure (hrun) rfl rfl rfl rfl rfl ?_; simp only [go_sem, init_env', Nat.reduceEqDiff, Nat.reduceAdd, Nat.reduceMul, reduceIte, Nat.reduceLeDiff, Nat.reduceLT, Nat.reduceBEq, reduceCtorEq, hP, Tray.av]; (repeat (refine And.intro (by first | omega | (intros; simp_all; done) | (intros; simp_all; omega)) ?_)); (repeat ((first | refine WV_seq_ ?_ | refine WV_block ?_ | refine WV_ops ?_ | refine WV_skip ?_ | refine WV_exit ?_); (try simp only [go_sem, init_env', Nat.reduceEqDiff, Nat.reduceAdd, Nat.reduceMul, reduceIte, Nat.reduceLeDiff, Nat.reduceLT, Nat.reduceBEq, reduceCtorEq, hP, Tray.av]); (repeat (refine And.intro (by first | omega | (intros; simp_all; done) | (intros; simp_all; omega)) ?_)))))
  refine WV_nilslot 3 903 41 2 (by decide) (by decide) rfl rfl ?_
  simp only [go_sem, init_env', Nat.reduceEqDiff, Nat.reduceAdd, Nat.reduceMul, reduceIte, Nat.reduceLeDiff, Nat.reduceLT, Nat.reduceBEq, reduceCtorEq]
  refine WV_loopK K65_1 [32, 33, 903] (fun k : Nat => k ≤ E.length) (fun k => E.length - k) (fun k => [(5, iv k), (3, .gr 903)]) (fun k => [(903, .grow 41 2 ((playsE (E.take k)).map Pr.cds))]) 0 (Nat.zero_le _) ?_ ?_
  · (refine Sub_of (by simp only [go_sem, init_env', Nat.reduceEqDiff, Nat.reduceAdd, Nat.reduceMul, reduceIte, Nat.reduceLeDiff, Nat.reduceLT, Nat.reduceBEq, reduceCtorEq]; ((repeat' (first | exact EnvLe_e0 _ _ | refine EnvLe_upd ?_ ?_)) <;> ((try simp only [upd_app, e0_app, o0_app, Nat.reduceEqDiff, reduceIte]); first | exact AWk.refl _ _ | exact AWk.int (by omega) | exact AWk.int (by rw [w64 (by omega) (by omega)]; omega) | exact AWk.grow rfl | exact AWk.nil _ | exact AWk.of (by simp [playsE])))) (by simp only [go_sem, init_env', Nat.reduceEqDiff, Nat.reduceAdd, Nat.reduceMul, reduceIte, Nat.reduceLeDiff, Nat.reduceLT, Nat.reduceBEq, reduceCtorEq]; (first | ((repeat' (first | exact ObjLe_o0 _ | exact ObjLe.rfl' _ | refine ObjLe_same ?_ | refine ObjLe_upd ?_ ?_ | refine ObjLe_new rfl ?_)) <;> rfl) | (refine ObjLe_X ?_; (repeat' (first | exact ObjLeX_o0 _ _ | refine ObjLeX_skip rfl ?_ | refine ObjLeX_upd ?_ ?_)) <;> rfl))))
  intro k hk
  simp only [go_sem, init_env', Nat.reduceEqDiff, Nat.reduceAdd, Nat.reduceMul, reduceIte, Nat.reduceLeDiff, Nat.reduceLT, Nat.reduceBEq, reduceCtorEq]
  (repeat ((first | refine WV_seq_ ?_ | refine WV_block ?_ | refine WV_ops ?_ | refine WV_skip ?_ | refine WV_exit ?_); (try simp only [go_sem, init_env', Nat.reduceEqDiff, Nat.reduceAdd, Nat.reduceMul, reduceIte, Nat.reduceLeDiff, Nat.reduceLT, Nat.reduceBEq, reduceCtorEq, hP, evsC, List.length_map]); (repeat (refine And.intro (by first | omega | (intros; simp_all; done) | (intros; simp_all; omega)) ?_))))
  (refine WV_cond rfl (fun h => ?_) (fun h => ?_))
  · have hkl : k < E.length := by simpa using h
    have hI : (k : Int) < (E.length : Int) := by omega
    have hw2 := w64 (n := (k : Int) + 1) (by omega) (by omega)
    have hst := playsE_take hkl
    have hpl := playsE_len (E.take k)
    have htl := List.length_take_le k E
    have g1 : (E.map Ev.cds).getD k [] = _ := map_getD hkl
    simp only [Ev.cds] at g1
    unfold playOf at hst
    generalize E[k] = e at *
    generalize playsE (E.take k) = L at *
    (repeat ((first | refine WV_seq_ ?_ | refine WV_block ?_ | refine WV_ops ?_ | refine WV_skip ?_ | refine WV_exit ?_); (try simp only [go_sem, init_env', Nat.reduceEqDiff, Nat.reduceAdd, Nat.reduceMul, reduceIte, Nat.reduceLeDiff, Nat.reduceLT, Nat.reduceBEq, reduceCtorEq, hP, evsC, g1, hI, List.length_map, Int.natCast_nonneg]); (repeat (refine And.intro (by first | omega | (intros; simp_all; done) | (intros; simp_all; omega)) ?_))))
    by_cases hc : 0 ≤ e.side
    · rw [if_pos hc] at hst
      rw [decide_eq_true hc]
      (refine WV_cond rfl (fun h => ?_) (fun h => ?_))
      rotate_left
      · simp at h
      (refine WV_ops ?_; simp only [go_sem, init_env', Nat.reduceEqDiff, Nat.reduceAdd, Nat.reduceMul, reduceIte, Nat.reduceLeDiff, Nat.reduceLT, Nat.reduceBEq, reduceCtorEq, hP, evsC, g1, hI, List.length_map, Int.natCast_nonneg, prs_two]; (repeat (refine And.intro (by first | omega | (intros; simp_all; done) | (intros; simp_all; omega)) ?_)))
      refine WV_move' 33 903 (by decide) (by decide) rfl ?_
      simp only [go_sem, init_env', Nat.reduceEqDiff, Nat.reduceAdd, Nat.reduceMul, reduceIte, Nat.reduceLeDiff, Nat.reduceLT, Nat.reduceBEq, reduceCtorEq]
      have e9 : L.map Pr.cds ++ [[CD.int .i64 e.side, CD.int .i64 e.from_]] = (L ++ [(⟨e.side, e.from_⟩ : Pr)]).map Pr.cds := by simp [Pr.cds]
      rw [e9, ← hst]
      (repeat ((first | refine WV_seq_ ?_ | refine WV_block ?_ | refine WV_ops ?_ | refine WV_skip ?_ | refine WV_exit ?_); (try simp only [go_sem, init_env', Nat.reduceEqDiff, Nat.reduceAdd, Nat.reduceMul, reduceIte, Nat.reduceLeDiff, Nat.reduceLT, Nat.reduceBEq, reduceCtorEq, hP, hw2]); (repeat (refine And.intro (by first | omega | (intros; simp_all; done) | (intros; simp_all; omega)) ?_))))
      refine ⟨k + 1, by omega, by omega, ?_⟩
      (refine Sub_of (by simp only [go_sem, init_env', Nat.reduceEqDiff, Nat.reduceAdd, Nat.reduceMul, reduceIte, Nat.reduceLeDiff, Nat.reduceLT, Nat.reduceBEq, reduceCtorEq]; ((repeat' (first | exact EnvLe_e0 _ _ | refine EnvLe_upd ?_ ?_)) <;> ((try simp only [upd_app, e0_app, o0_app, Nat.reduceEqDiff, reduceIte]); first | exact AWk.refl _ _ | exact AWk.int (by omega) | exact AWk.int (by rw [w64 (by omega) (by omega)]; omega) | exact AWk.grow rfl | exact AWk.nil _ | exact AWk.of (by simp)))) (by simp only [go_sem, init_env', Nat.reduceEqDiff, Nat.reduceAdd, Nat.reduceMul, reduceIte, Nat.reduceLeDiff, Nat.reduceLT, Nat.reduceBEq, reduceCtorEq]; (first | ((repeat' (first | exact ObjLe_o0 _ | exact ObjLe.rfl' _ | refine ObjLe_same ?_ | refine ObjLe_upd ?_ ?_ | refine ObjLe_new rfl ?_)) <;> rfl) | (refine ObjLe_X ?_; (repeat' (first | exact ObjLeX_o0 _ _ | refine ObjLeX_skip rfl ?_ | refine ObjLeX_upd ?_ ?_)) <;> rfl))))
    · rw [if_neg hc, List.append_nil] at hst
      rw [decide_eq_false hc]
      (refine WV_cond rfl (fun h => ?_) (fun h => ?_))
      · simp at h
      (repeat ((first | refine WV_seq_ ?_ | refine WV_block ?_ | refine WV_ops ?_ | refine WV_skip ?_ | refine WV_exit ?_); (try simp only [go_sem, init_env', Nat.reduceEqDiff, Nat.reduceAdd, Nat.reduceMul, reduceIte, Nat.reduceLeDiff, Nat.reduceLT, Nat.reduceBEq, reduceCtorEq, hP, hw2]); (repeat (refine And.intro (by first | omega | (intros; simp_all; done) | (intros; simp_all; omega)) ?_))))
      refine ⟨k + 1, by omega, by omega, ?_⟩
      rw [hst]
      (refine Sub_of (by simp only [go_sem, init_env', Nat.reduceEqDiff, Nat.reduceAdd, Nat.reduceMul, reduceIte, Nat.reduceLeDiff, Nat.reduceLT, Nat.reduceBEq, reduceCtorEq]; ((repeat' (first | exact EnvLe_e0 _ _ | refine EnvLe_upd ?_ ?_)) <;> ((try simp only [upd_app, e0_app, o0_app, Nat.reduceEqDiff, reduceIte]); first | exact AWk.refl _ _ | exact AWk.int (by omega) | exact AWk.int (by rw [w64 (by omega) (by omega)]; omega) | exact AWk.grow rfl | exact AWk.nil _ | exact AWk.of (by simp)))) (by simp only [go_sem, init_env', Nat.reduceEqDiff, Nat.reduceAdd, Nat.reduceMul, reduceIte, Nat.reduceLeDiff, Nat.reduceLT, Nat.reduceBEq, reduceCtorEq]; (first | ((repeat' (first | exact ObjLe_o0 _ | exact ObjLe.rfl' _ | refine ObjLe_same ?_ | refine ObjLe_upd ?_ ?_ | refine ObjLe_new rfl ?_)) <;> rfl) | (refine ObjLe_X ?_; (repeat' (first | exact ObjLeX_o0 _ _ | refine ObjLeX_skip rfl ?_ | refine ObjLeX_upd ?_ ?_)) <;> rfl))))
  · have h : k = E.length := by simp at h; omega
    subst h
    rw [List.take_length]
    (refine WV_exit ?_; simp only [go_sem, init_env', Nat.reduceEqDiff, Nat.reduceAdd, Nat.reduceMul, reduceIte, Nat.reduceLeDiff, Nat.reduceLT, Nat.reduceBEq, reduceCtorEq])
    (repeat ((first | refine WV_seq_ ?_ | refine WV_block ?_ | refine WV_ops ?_ | refine WV_skip ?_ | refine WV_exit ?_); (try simp only [go_sem, init_env', Nat.reduceEqDiff, Nat.reduceAdd, Nat.reduceMul, reduceIte, Nat.reduceLeDiff, Nat.reduceLT, Nat.reduceBEq, reduceCtorEq, hP, ]); (repeat (refine And.intro (by first | omega | (intros; simp_all; done) | (intros; simp_all; omega)) ?_))))
    (refine WV_ret ?_; simp only [thenQ, inQ, RetQ, RetOk, resAll, resA]; simp only [go_sem, init_env', Nat.reduceEqDiff, Nat.reduceAdd, Nat.reduceMul, reduceIte, Nat.reduceLeDiff, Nat.reduceLT, Nat.reduceBEq, reduceCtorEq, tupA, AV.port, AV.portL, exists_eq_left', prsC]; (first | exact AVle.of rfl | refine AVle.of ?_ | skip))
theorem plays42 (t : Tray) : FSpec Try.prog 42 [t.av] (.tup [.c (prsC (playsR t).1), iv (playsR t).2]) := by
  have hck := rcheck41 t
  unfold playsR
  cases hok : t.ok
  · simp only [hok, Bool.false_eq_true, if_false] at hck ⊢
    refine FSpec_of c42 (Nat.le_refl _) (by decide) fun C hP hN hC hL => ?_
    simp only [ir42, Tray.av]
    (repeat ((first | refine WV_seq_ ?_ | refine WV_block ?_ | refine WV_ops ?_ | refine WV_skip ?_ | refine WV_exit ?_); (try simp only [go_sem, init_env', Nat.reduceEqDiff, Nat.reduceAdd, Nat.reduceMul, reduceIte, Nat.reduceLeDiff, Nat.reduceLT, Nat.reduceBEq, reduceCtorEq, hP, ]); (repeat (refine And.intro (by first | omega | (intros; simp_all; done) | (intros; simp_all; omega)) ?_))))
    (refine AS_pure (hck) rfl rfl rfl rfl rfl ?_; simp only [go_sem, init_env', Nat.reduceEqDiff, Nat.reduceAdd, Nat.reduceMul, reduceIte, Nat.reduceLeDiff, Nat.reduceLT, Nat.reduceBEq, reduceCtorEq, hP, Tray.av]; (repeat (refine And.intro (by first | omega | (intros; simp_all; done) | (intros; simp_all; omega)) ?_)); (repeat ((first | refine WV_seq_ ?_ | refine WV_block ?_ | refine WV_ops ?_ | refine WV_skip ?_ | refine WV_exit ?_); (try simp only [go_sem, init_env', Nat.reduceEqDiff, Nat.reduceAdd, Nat.reduceMul, reduceIte, Nat.reduceLeDiff, Nat.reduceLT, Nat.reduceBEq, reduceCtorEq, hP, Tray.av]); (repeat (refine And.intro (by first | omega | (intros; simp_all; done) | (intros; simp_all; omega)) ?_)))))
    (refine WV_cond rfl (fun h => ?_) (fun h => ?_))
    · (repeat ((first | refine WV_seq_ ?_ | refine WV_block ?_ | refine WV_ops ?_ | refine WV_skip ?_ | refine WV_exit ?_); (try simp only [go_sem, init_env', Nat.reduceEqDiff, Nat.reduceAdd, Nat.reduceMul, reduceIte, Nat.reduceLeDiff, Nat.reduceLT, Nat.reduceBEq, reduceCtorEq, hP, ]); (repeat (refine And.intro (by first | omega | (intros; simp_all; done) | (intros; simp_all; omega)) ?_))))
      (refine WV_ret ?_; simp only [thenQ, inQ, RetQ, RetOk, resAll, resA]; simp only [go_sem, init_env', Nat.reduceEqDiff, Nat.reduceAdd, Nat.reduceMul, reduceIte, Nat.reduceLeDiff, Nat.reduceLT, Nat.reduceBEq, reduceCtorEq, tupA, AV.port, AV.portL, exists_eq_left', ])
      exact AVle.tup (AVles.cons (AVle.nil 2) (AVles.refl _))
    · simp at h
  · simp only [hok, if_true] at hck ⊢
    have hgo := plays65 (Tray.ok_spec hok).1
    refine FSpec_of c42 (Nat.le_refl _) (by decide) fun C hP hN hC hL => ?_
    simp only [ir42, Tray.av]
    (repeat ((first | refine WV_seq_ ?_ | refine WV_block ?_ | refine WV_ops ?_ | refine WV_skip ?_ | refine WV_exit ?_); (try simp only [go_sem, init_env', Nat.reduceEqDiff, Nat.reduceAdd, Nat.reduceMul, reduceIte, Nat.reduceLeDiff, Nat.reduceLT, Nat.reduceBEq, reduceCtorEq, hP, ]); (repeat (refine And.intro (by first | omega | (intros; simp_all; done) | (intros; simp_all; omega)) ?_))))
    (refine AS_pure (hck) rfl rfl rfl rfl rfl ?_; simp only [go_sem, init_env', Nat.reduceEqDiff, Nat.reduceAdd, Nat.reduceMul, reduceIte, Nat.reduceLeDiff, Nat.reduceLT, Nat.reduceBEq, reduceCtorEq, hP, Tray.av]; (repeat (refine And.intro (by first | omega | (intros; simp_all; done) | (intros; simp_all; omega)) ?_)); (repeat ((first | refine WV_seq_ ?_ | refine WV_block ?_ | refine WV_ops ?_ | refine WV_skip ?_ | refine WV_exit ?_); (try simp only [go_sem, init_env', Nat.reduceEqDiff, Nat.reduceAdd, Nat.reduceMul, reduceIte, Nat.reduceLeDiff, Nat.reduceLT, Nat.reduceBEq, reduceCtorEq, hP, Tray.av]); (repeat (refine And.intro (by first | omega | (intros; simp_all; done) | (intros; simp_all; omega)) ?_)))))
    (refine WV_cond rfl (fun h => ?_) (fun h => ?_))
    · simp at h
    · (repeat ((first | refine WV_seq_ ?_ | refine WV_block ?_ | refine WV_ops ?_ | refine WV_skip ?_ | refine WV_exit ?_); (try simp only [go_sem, init_env', Nat.reduceEqDiff, Nat.reduceAdd, Nat.reduceMul, reduceIte, Nat.reduceLeDiff, Nat.reduceLT, Nat.reduceBEq, reduceCtorEq, hP, ]); (repeat (refine And.intro (by first | omega | (intros; simp_all; done) | (intros; simp_all; omega)) ?_))))
      (refine AS_pure (hgo) rfl rfl rfl rfl rfl ?_; simp only [go_sem, init_env', Nat.reduceEqDiff, Nat.reduceAdd, Nat.reduceMul, reduceIte, Nat.reduceLeDiff, Nat.reduceLT, Nat.reduceBEq, reduceCtorEq, hP, Tray.av]; (repeat (refine And.intro (by first | omega | (intros; simp_all; done) | (intros; simp_all; omega)) ?_)); (repeat ((first | refine WV_seq_ ?_ | refine WV_block ?_ | refine WV_ops ?_ | refine WV_skip ?_ | refine WV_exit ?_); (try simp only [go_sem, init_env', Nat.reduceEqDiff, Nat.reduceAdd, Nat.reduceMul, reduceIte, Nat.reduceLeDiff, Nat.reduceLT, Nat.reduceBEq, reduceCtorEq, hP, Tray.av]); (repeat (refine And.intro (by first | omega | (intros; simp_all; done) | (intros; simp_all; omega)) ?_)))))
      (refine WV_ret ?_; simp only [thenQ, inQ, RetQ, RetOk, resAll, resA]; simp only [go_sem, init_env', Nat.reduceEqDiff, Nat.reduceAdd, Nat.reduceMul, reduceIte, Nat.reduceLeDiff, Nat.reduceLT, Nat.reduceBEq, reduceCtorEq, tupA, AV.port, AV.portL, exists_eq_left', ]; (first | exact AVle.of rfl | refine AVle.of ?_ | skip))
theorem steps43 (t : Tray) : FSpec Try.prog 43 [t.av] (.tup [iv (stepsR t).1, iv (stepsR t).2]) := by
  have hck := rcheck41 t
  unfold stepsR
  cases hok : t.ok
  · simp only [hok, Bool.false_eq_true, if_false] at hck ⊢
    refine FSpec_of c43 (Nat.le_refl _) (by decide) fun C hP hN hC hL => ?_
    simp only [ir43, Tray.av]
    (repeat ((first | refine WV_seq_ ?_ | refine WV_block ?_ | refine WV_ops ?_ | refine WV_skip ?_ | refine WV_exit ?_); (try simp only [go_sem, init_env', Nat.reduceEqDiff, Nat.reduceAdd, Nat.reduceMul, reduceIte, Nat.reduceLeDiff, Nat.reduceLT, Nat.reduceBEq, reduceCtorEq, hP, ]); (repeat (refine And.intro (by first | omega | (intros; simp_all; done) | (intros; simp_all; omega)) ?_))))
    (refine AS_pure (hck) rfl rfl rfl rfl rfl ?_; simp only [go_sem, init_env', Nat.reduceEqDiff, Nat.reduceAdd, Nat.reduceMul, reduceIte, Nat.reduceLeDiff, Nat.reduceLT, Nat.reduceBEq, reduceCtorEq, hP, Tray.av]; (repeat (refine And.intro (by first | omega | (intros; simp_all; done) | (intros; simp_all; omega)) ?_)); (repeat ((first | refine WV_seq_ ?_ | refine WV_block ?_ | refine WV_ops ?_ | refine WV_skip ?_ | refine WV_exit ?_); (try simp only [go_sem, init_env', Nat.reduceEqDiff, Nat.reduceAdd, Nat.reduceMul, reduceIte, Nat.reduceLeDiff, Nat.reduceLT, Nat.reduceBEq, reduceCtorEq, hP, Tray.av]); (repeat (refine And.intro (by first | omega | (intros; simp_all; done) | (intros; simp_all; omega)) ?_)))))
    (refine WV_cond rfl (fun h => ?_) (fun h => ?_))
    · (repeat ((first | refine WV_seq_ ?_ | refine WV_block ?_ | refine WV_ops ?_ | refine WV_skip ?_ | refine WV_exit ?_); (try simp only [go_sem, init_env', Nat.reduceEqDiff, Nat.reduceAdd, Nat.reduceMul, reduceIte, Nat.reduceLeDiff, Nat.reduceLT, Nat.reduceBEq, reduceCtorEq, hP, ]); (repeat (refine And.intro (by first | omega | (intros; simp_all; done) | (intros; simp_all; omega)) ?_))))
      (refine WV_ret ?_; simp only [thenQ, inQ, RetQ, RetOk, resAll, resA]; simp only [go_sem, init_env', Nat.reduceEqDiff, Nat.reduceAdd, Nat.reduceMul, reduceIte, Nat.reduceLeDiff, Nat.reduceLT, Nat.reduceBEq, reduceCtorEq, tupA, AV.port, AV.portL, exists_eq_left', ]; (first | exact AVle.of rfl | refine AVle.of ?_ | skip))
    · simp at h
  · simp only [hok, if_true] at hck ⊢
    have ht := (Tray.ok_spec hok).1
    have hrun := run59 ht
    have hlen := evS_len t
    rw [← (ev_goes ht).2.1]
    generalize evS t = E at *
    refine FSpec_of c43 (Nat.le_refl _) (by decide) fun C hP hN hC hL => ?_
    simp only [ir43, Tray.av]
    (repeat ((first | refine WV_seq_ ?_ | refine WV_block ?_ | refine WV_ops ?_ | refine WV_skip ?_ | refine WV_exit ?_); (try simp only [go_sem, init_env', Nat.reduceEqDiff, Nat.reduceAdd, Nat.reduceMul, reduceIte, Nat.reduceLeDiff, Nat.reduceLT, Nat.reduceBEq, reduceCtorEq, hP, ]); (repeat (refine And.intro (by first | omega | (intros; simp_all; done) | (intros; simp_all; omega)) ?_))))
    (refine AS_pure (hck) rfl rfl rfl rfl rfl ?_; simp only [go_sem, init_env', Nat.reduceEqDiff, Nat.reduceAdd, Nat.reduceMul, reduceIte, Nat.reduceLeDiff, Nat.reduceLT, Nat.reduceBEq, reduceCtorEq, hP, Tray.av]; (repeat (refine And.intro (by first | omega | (intros; simp_all; done) | (intros; simp_all; omega)) ?_)); (repeat ((first | refine WV_seq_ ?_ | refine WV_block ?_ | refine WV_ops ?_ | refine WV_skip ?_ | refine WV_exit ?_); (try simp only [go_sem, init_env', Nat.reduceEqDiff, Nat.reduceAdd, Nat.reduceMul, reduceIte, Nat.reduceLeDiff, Nat.reduceLT, Nat.reduceBEq, reduceCtorEq, hP, Tray.av]); (repeat (refine And.intro (by first | omega | (intros; simp_all; done) | (intros; simp_all; omega)) ?_)))))
    (refine WV_cond rfl (fun h => ?_) (fun h => ?_))
    · simp at h
    (repeat ((first | refine WV_seq_ ?_ | refine WV_block ?_ | refine WV_ops ?_ | refine WV_skip ?_ | refine WV_exit ?_); (try simp only [go_sem, init_env', Nat.reduceEqDiff, Nat.reduceAdd, Nat.reduceMul, reduceIte, Nat.reduceLeDiff, Nat.reduceLT, Nat.reduceBEq, reduceCtorEq, hP, ]); (repeat (refine And.intro (by first | omega | (intros; simp_all; done) | (intros; simp_all; omega)) ?_))))
    (refine AS_pure (hrun) rfl rfl rfl rfl rfl ?_; simp only [go_sem, init_env', Nat.reduceEqDiff, Nat.reduceAdd, Nat.reduceMul, reduceIte, Nat.reduceLeDiff, Nat.reduceLT, Nat.reduceBEq, reduceCtorEq, hP, Tray.av]; (repeat (refine And.intro (by first | omega | (intros; simp_all; done) | (intros; simp_all; omega)) ?_)); (repeat ((first | refine WV_seq_ ?_ | refine WV_block ?_ | refine WV_ops ?_ | refine WV_skip ?_ | refine WV_exit ?_); (try simp only [go_sem, init_env', Nat.reduceEqDiff, Nat.reduceAdd, Nat.reduceMul, reduceIte, Nat.reduceLeDiff, Nat.reduceLT, Nat.reduceBEq, reduceCtorEq, hP, Tray.av]); (repeat (refine And.intro (by first | omega | (intros; simp_all; done) | (intros; simp_all; omega)) ?_)))))
    refine WV_loopK K43_1 [] (fun k : Nat => k ≤ E.length) (fun k => E.length - k) (fun k => [(7, iv k), (5, iv (stepsE (E.take k)))]) (fun k => []) 0 (Nat.zero_le _) ?_ ?_
    · (refine Sub_of (by simp only [go_sem, init_env', Nat.reduceEqDiff, Nat.reduceAdd, Nat.reduceMul, reduceIte, Nat.reduceLeDiff, Nat.reduceLT, Nat.reduceBEq, reduceCtorEq]; ((repeat' (first | exact EnvLe_e0 _ _ | refine EnvLe_upd ?_ ?_)) <;> ((try simp only [upd_app, e0_app, o0_app, Nat.reduceEqDiff, reduceIte]); first | exact AWk.refl _ _ | exact AWk.int (by omega) | exact AWk.int (by rw [w64 (by omega) (by omega)]; omega) | exact AWk.grow rfl | exact AWk.nil _ | exact AWk.of (by simp [stepsE])))) (by simp only [go_sem, init_env', Nat.reduceEqDiff, Nat.reduceAdd, Nat.reduceMul, reduceIte, Nat.reduceLeDiff, Nat.reduceLT, Nat.reduceBEq, reduceCtorEq]; (first | ((repeat' (first | exact ObjLe_o0 _ | exact ObjLe.rfl' _ | refine ObjLe_same ?_ | refine ObjLe_upd ?_ ?_ | refine ObjLe_new rfl ?_)) <;> rfl) | (refine ObjLe_X ?_; (repeat' (first | exact ObjLeX_o0 _ _ | refine ObjLeX_skip rfl ?_ | refine ObjLeX_upd ?_ ?_)) <;> rfl))))
    intro k hk
    simp only [go_sem, init_env', Nat.reduceEqDiff, Nat.reduceAdd, Nat.reduceMul, reduceIte, Nat.reduceLeDiff, Nat.reduceLT, Nat.reduceBEq, reduceCtorEq]
    (repeat ((first | refine WV_seq_ ?_ | refine WV_block ?_ | refine WV_ops ?_ | refine WV_skip ?_ | refine WV_exit ?_); (try simp only [go_sem, init_env', Nat.reduceEqDiff, Nat.reduceAdd, Nat.reduceMul, reduceIte, Nat.reduceLeDiff, Nat.reduceLT, Nat.reduceBEq, reduceCtorEq, hP, evsC, List.length_map]); (repeat (refine And.intro (by first | omega | (intros; simp_all; done) | (intros; simp_all; omega)) ?_))))
    (refine WV_cond rfl (fun h => ?_) (fun h => ?_))
    · have hkl : k < E.length := by simpa using h
      have hI : (k : Int) < (E.length : Int) := by omega
      have hw2 := w64 (n := (k : Int) + 1) (by omega) (by omega)
      have hst := stepsE_take hkl
      have hpl := stepsE_bd (E.take k)
      have htl := List.length_take_le k E
      have g1 : (E.map Ev.cds).getD k [] = _ := map_getD hkl
      simp only [Ev.cds] at g1
      unfold stepOf at hst
      generalize E[k] = e at *
      generalize stepsE (E.take k) = n at *
      have hw3 := w64 (n := n + 1) (by omega) (by omega)
      (repeat ((first | refine WV_seq_ ?_ | refine WV_block ?_ | refine WV_ops ?_ | refine WV_skip ?_ | refine WV_exit ?_); (try simp only [go_sem, init_env', Nat.reduceEqDiff, Nat.reduceAdd, Nat.reduceMul, reduceIte, Nat.reduceLeDiff, Nat.reduceLT, Nat.reduceBEq, reduceCtorEq, hP, evsC, g1, hI, List.length_map, Int.natCast_nonneg]); (repeat (refine And.intro (by first | omega | (intros; simp_all; done) | (intros; simp_all; omega)) ?_))))
      by_cases hc : e.side = -1
      · rw [if_pos hc] at hst
        rw [hc]
        (refine WV_cond rfl (fun h => ?_) (fun h => ?_))
        · (repeat ((first | refine WV_seq_ ?_ | refine WV_block ?_ | refine WV_ops ?_ | refine WV_skip ?_ | refine WV_exit ?_); (try simp only [go_sem, init_env', Nat.reduceEqDiff, Nat.reduceAdd, Nat.reduceMul, reduceIte, Nat.reduceLeDiff, Nat.reduceLT, Nat.reduceBEq, reduceCtorEq, hP, hw3, hw2]); (repeat (refine And.intro (by first | omega | (intros; simp_all; done) | (intros; simp_all; omega)) ?_))))
          refine ⟨k + 1, by omega, by omega, ?_⟩
          rw [hst]
          (refine Sub_of (by simp only [go_sem, init_env', Nat.reduceEqDiff, Nat.reduceAdd, Nat.reduceMul, reduceIte, Nat.reduceLeDiff, Nat.reduceLT, Nat.reduceBEq, reduceCtorEq]; ((repeat' (first | exact EnvLe_e0 _ _ | refine EnvLe_upd ?_ ?_)) <;> ((try simp only [upd_app, e0_app, o0_app, Nat.reduceEqDiff, reduceIte]); first | exact AWk.refl _ _ | exact AWk.int (by omega) | exact AWk.int (by rw [w64 (by omega) (by omega)]; omega) | exact AWk.grow rfl | exact AWk.nil _ | exact AWk.of (by simp)))) (by simp only [go_sem, init_env', Nat.reduceEqDiff, Nat.reduceAdd, Nat.reduceMul, reduceIte, Nat.reduceLeDiff, Nat.reduceLT, Nat.reduceBEq, reduceCtorEq]; (first | ((repeat' (first | exact ObjLe_o0 _ | exact ObjLe.rfl' _ | refine ObjLe_same ?_ | refine ObjLe_upd ?_ ?_ | refine ObjLe_new rfl ?_)) <;> rfl) | (refine ObjLe_X ?_; (repeat' (first | exact ObjLeX_o0 _ _ | refine ObjLeX_skip rfl ?_ | refine ObjLeX_upd ?_ ?_)) <;> rfl))))
        · simp at h
      · rw [if_neg hc, Int.add_zero] at hst
        have hb : (e.side == -1) = false := by simpa using hc
        rw [hb]
        (refine WV_cond rfl (fun h => ?_) (fun h => ?_))
        · simp at h
        · (repeat ((first | refine WV_seq_ ?_ | refine WV_block ?_ | refine WV_ops ?_ | refine WV_skip ?_ | refine WV_exit ?_); (try simp only [go_sem, init_env', Nat.reduceEqDiff, Nat.reduceAdd, Nat.reduceMul, reduceIte, Nat.reduceLeDiff, Nat.reduceLT, Nat.reduceBEq, reduceCtorEq, hP, hw2]); (repeat (refine And.intro (by first | omega | (intros; simp_all; done) | (intros; simp_all; omega)) ?_))))
          refine ⟨k + 1, by omega, by omega, ?_⟩
          rw [hst]
          (refine Sub_of (by simp only [go_sem, init_env', Nat.reduceEqDiff, Nat.reduceAdd, Nat.reduceMul, reduceIte, Nat.reduceLeDiff, Nat.reduceLT, Nat.reduceBEq, reduceCtorEq]; ((repeat' (first | exact EnvLe_e0 _ _ | refine EnvLe_upd ?_ ?_)) <;> ((try simp only [upd_app, e0_app, o0_app, Nat.reduceEqDiff, reduceIte]); first | exact AWk.refl _ _ | exact AWk.int (by omega) | exact AWk.int (by rw [w64 (by omega) (by omega)]; omega) | exact AWk.grow rfl | exact AWk.nil _ | exact AWk.of (by simp)))) (by simp only [go_sem, init_env', Nat.reduceEqDiff, Nat.reduceAdd, Nat.reduceMul, reduceIte, Nat.reduceLeDiff, Nat.reduceLT, Nat.reduceBEq, reduceCtorEq]; (first | ((repeat' (first | exact ObjLe_o0 _ | exact ObjLe.rfl' _ | refine ObjLe_same ?_ | refine ObjLe_upd ?_ ?_ | refine ObjLe_new rfl ?_)) <;> rfl) | (refine ObjLe_X ?_; (repeat' (first | exact ObjLeX_o0 _ _ | refine ObjLeX_skip rfl ?_ | refine ObjLeX_upd ?_ ?_)) <;> rfl))))
    · have h : k = E.length := by simp at h; omega
      subst h
      rw [List.take_length]
      (refine WV_exit ?_; simp only [go_sem, init_env', Nat.reduceEqDiff, Nat.reduceAdd, Nat.reduceMul, reduceIte, Nat.reduceLeDiff, Nat.reduceLT, Nat.reduceBEq, reduceCtorEq])
      (repeat ((first | refine WV_seq_ ?_ | refine WV_block ?_ | refine WV_ops ?_ | refine WV_skip ?_ | refine WV_exit ?_); (try simp only [go_sem, init_env', Nat.reduceEqDiff, Nat.reduceAdd, Nat.reduceMul, reduceIte, Nat.reduceLeDiff, Nat.reduceLT, Nat.reduceBEq, reduceCtorEq, hP, ]); (repeat (refine And.intro (by first | omega | (intros; simp_all; done) | (intros; simp_all; omega)) ?_))))
      (refine WV_ret ?_; simp only [thenQ, inQ, RetQ, RetOk, resAll, resA]; simp only [go_sem, init_env', Nat.reduceEqDiff, Nat.reduceAdd, Nat.reduceMul, reduceIte, Nat.reduceLeDiff, Nat.reduceLT, Nat.reduceBEq, reduceCtorEq, tupA, AV.port, AV.portL, exists_eq_left', ]; (first | exact AVle.of rfl | refine AVle.of ?_ | skip))
end Go.Proofs.Ytkpgpgaojjobgaa

namespace Go.Proofs.Ytkpgpgaojjobgaa
open Go Go.V
@[reducible] def o30_0 : List Ins := [⟨(some 2), .box 5 (.t 0), none, true⟩,
  ⟨(some 3), .box 5 (.t 1), none, true⟩,
  ⟨(some 4), .mv (.k (.c (.bool false))), none, true⟩]
@[reducible] def o30_1 : List Ins := [⟨(some 7), .fa 1 (.t 2), none, true⟩,
  ⟨(some 8), .ld true 1 (.t 7), none, true⟩,
  ⟨(some 9), .fa 1 (.t 3), none, true⟩,
  ⟨(some 10), .ld true 1 (.t 9), none, true⟩,
  ⟨(some 11), .bin .neq (.t 8) (.t 10), none, true⟩,
  ⟨(some 12), .mv (.t 11), none, true⟩,
  ⟨(some 13), .fa 2 (.t 2), (some (12, false)), true⟩,
  ⟨(some 14), .ld true 1 (.t 13), (some (12, false)), true⟩,
  ⟨(some 15), .fa 2 (.t 3), (some (12, false)), true⟩,
  ⟨(some 16), .ld true 1 (.t 15), (some (12, false)), true⟩,
  ⟨(some 17), .bin .neq (.t 14) (.t 16), (some (12, false)), true⟩,
  ⟨(some 18), .pick (.t 12) (.k (.c (.bool true))) (.t 17), none, true⟩,
  ⟨(some 19), .mv (.t 18), none, true⟩,
  ⟨(some 20), .fa 3 (.t 2), (some (19, false)), true⟩,
  ⟨(some 21), .ld true 1 (.t 20), (some (19, false)), true⟩,
  ⟨(some 22), .fa 3 (.t 3), (some (19, false)), true⟩,
  ⟨(some 23), .ld true 1 (.t 22), (some (19, false)), true⟩,
  ⟨(some 24), .bin .neq (.t 21) (.t 23), (some (19, false)), true⟩,
  ⟨(some 25), .pick (.t 19) (.k (.c (.bool true))) (.t 24), none, true⟩,
  ⟨(some 26), .mv (.t 25), none, true⟩,
  ⟨(some 27), .fa 0 (.t 2), (some (26, false)), true⟩,
  ⟨(some 28), .ld true 1 (.t 27), (some (26, false)), true⟩,
  ⟨(some 29), .len (.t 28), (some (26, false)), true⟩,
  ⟨(some 30), .fa 0 (.t 3), (some (26, false)), true⟩,
  ⟨(some 31), .ld true 1 (.t 30), (some (26, false)), true⟩,
  ⟨(some 32), .len (.t 31), (some (26, false)), true⟩,
  ⟨(some 33), .bin .neq (.t 29) (.t 32), (some (26, false)), true⟩,
  ⟨(some 34), .pick (.t 26) (.k (.c (.bool true))) (.t 33), none, true⟩,
  ⟨(some 35), .mv (.t 34), none, true⟩,
  ⟨(some 36), .fa 4 (.t 2), (some (35, false)), true⟩,
  ⟨(some 37), .ld true 1 (.t 36), (some (35, false)), true⟩,
  ⟨(some 38), .len (.t 37), (some (35, false)), true⟩,
  ⟨(some 39), .fa 4 (.t 3), (some (35, false)), true⟩,
  ⟨(some 40), .ld true 1 (.t 39), (some (35, false)), true⟩,
  ⟨(some 41), .len (.t 40), (some (35, false)), true⟩,
  ⟨(some 42), .bin .neq (.t 38) (.t 41), (some (35, false)), true⟩,
  ⟨(some 43), .pick (.t 35) (.k (.c (.bool true))) (.t 42), none, true⟩]
@[reducible] def o30_2 : List Ins := [⟨(some 4), .mv (.k (.c (.bool false))), none, true⟩]
@[reducible] def v30_3 : VC := (.seq (.ops o30_2) .ret)
@[reducible] def v30_4 : VC := (.cond (.t 43) v30_3 .skip)
@[reducible] def o30_5 : List Ins := [⟨(some 5), .mv (.k (.c (.int .i64 0))), none, true⟩]
@[reducible] def o30_6 : List Ins := [⟨(some 44), .mv (.t 5), none, true⟩,
  ⟨(some 45), .fa 0 (.t 2), none, true⟩,
  ⟨(some 46), .ld true 1 (.t 45), none, true⟩,
  ⟨(some 47), .len (.t 46), none, true⟩,
  ⟨(some 48), .bin .lss (.t 44) (.t 47), none, true⟩]
@[reducible] def v30_7 : VC := (.cond (.t 48) .skip (.exit 0))
@[reducible] def o30_8 : List Ins := [⟨(some 51), .fa 0 (.t 2), none, false⟩,
  ⟨(some 52), .ld true 1 (.t 51), none, false⟩,
  ⟨(some 53), .mv (.t 5), none, false⟩,
  ⟨(some 54), .ia 2 (.t 52) (.t 53), none, false⟩,
  ⟨(some 55), .ld false 2 (.t 54), none, false⟩,
  ⟨(some 56), .fa 0 (.t 3), none, false⟩,
  ⟨(some 57), .ld true 1 (.t 56), none, false⟩,
  ⟨(some 58), .mv (.t 5), none, false⟩,
  ⟨(some 59), .ia 2 (.t 57) (.t 58), none, false⟩,
  ⟨(some 60), .ld false 2 (.t 59), none, false⟩,
  ⟨(some 61), .seq true [(0, true), (1, true)] (.t 55) (.t 60), none, true⟩]
@[reducible] def o30_9 : List Ins := [⟨(some 4), .mv (.k (.c (.bool false))), none, true⟩]
@[reducible] def v30_10 : VC := (.seq (.ops o30_9) .ret)
@[reducible] def v30_11 : VC := (.cond (.t 61) v30_10 .skip)
@[reducible] def v30_12 : VC := (.seq (.ops o30_8) v30_11)
@[reducible] def o30_13 : List Ins := [⟨(some 49), .mv (.t 5), none, true⟩,
  ⟨(some 50), .bin .add (.t 49) (.k (.c (.int .i64 1))), none, true⟩,
  ⟨(some 5), .mv (.t 50), none, true⟩]
@[reducible] def v30_14 : VC := (.seq (.block 1 v30_12) (.ops o30_13))
@[reducible] def v30_15 : VC := (.seq (.seq (.ops o30_6) v30_7) v30_14)
-- K30_1: changed and kept: [5]
@[reducible] def K30_1 : List Nat := [2, 3]
@[reducible] def v30_16 : VC := (.loop v30_15)
@[reducible] def v30_17 : VC := (.block 0 v30_16)
@[reducible] def o30_18 : List Ins := [⟨(some 6), .mv (.k (.c (.int .i64 0))), none, true⟩]
@[reducible] def o30_19 : List Ins := [⟨(some 62), .mv (.t 6), none, true⟩,
  ⟨(some 63), .fa 4 (.t 2), none, true⟩,
  ⟨(some 64), .ld true 1 (.t 63), none, true⟩,
  ⟨(some 65), .len (.t 64), none, true⟩,
  ⟨(some 66), .bin .lss (.t 62) (.t 65), none, true⟩]
@[reducible] def v30_20 : VC := (.cond (.t 66) .skip (.exit 2))
@[reducible] def o30_21 : List Ins := [⟨(some 69), .fa 4 (.t 2), none, false⟩,
  ⟨(some 70), .ld true 1 (.t 69), none, false⟩,
  ⟨(some 71), .mv (.t 6), none, false⟩,
  ⟨(some 72), .ia 2 (.t 70) (.t 71), none, false⟩,
  ⟨(some 73), .ld false 2 (.t 72), none, false⟩,
  ⟨(some 74), .fa 4 (.t 3), none, false⟩,
  ⟨(some 75), .ld true 1 (.t 74), none, false⟩,
  ⟨(some 76), .mv (.t 6), none, false⟩,
  ⟨(some 77), .ia 2 (.t 75) (.t 76), none, false⟩,
  ⟨(some 78), .ld false 2 (.t 77), none, false⟩,
  ⟨(some 79), .seq true [(0, true), (1, true)] (.t 73) (.t 78), none, true⟩]
@[reducible] def o30_22 : List Ins := [⟨(some 4), .mv (.k (.c (.bool false))), none, true⟩]
@[reducible] def v30_23 : VC := (.seq (.ops o30_22) .ret)
@[reducible] def v30_24 : VC := (.cond (.t 79) v30_23 .skip)
@[reducible] def v30_25 : VC := (.seq (.ops o30_21) v30_24)
@[reducible] def o30_26 : List Ins := [⟨(some 67), .mv (.t 6), none, true⟩,
  ⟨(some 68), .bin .add (.t 67) (.k (.c (.int .i64 1))), none, true⟩,
  ⟨(some 6), .mv (.t 68), none, true⟩]
@[reducible] def v30_27 : VC := (.seq (.block 3 v30_25) (.ops o30_26))
@[reducible] def v30_28 : VC := (.seq (.seq (.ops o30_19) v30_20) v30_27)
-- K30_2: changed and kept: [6]
@[reducible] def K30_2 : List Nat := [2, 3]
@[reducible] def v30_29 : VC := (.loop v30_28)
@[reducible] def v30_30 : VC := (.block 2 v30_29)
@[reducible] def o30_31 : List Ins := [⟨(some 4), .mv (.k (.c (.bool true))), none, true⟩]
@[reducible] def v30_32 : VC := (.seq (.ops o30_31) .ret)
@[reducible] def v30_33 : VC := (.seq (.seq (.ops o30_18) v30_30) v30_32)
@[reducible] def v30_34 : VC := (.seq (.seq (.ops o30_5) v30_17) v30_33)
@[reducible] def v30_35 : VC := (.seq (.seq (.ops o30_1) v30_4) v30_34)
def ir30 : FC := ⟨2, 80, [.t 4], (.seq (.ops o30_0) v30_35)⟩
@[reducible] def o11_0 : List Ins := [⟨(some 1), .box 5 (.t 0), none, true⟩,
  ⟨(some 2), .mv (.k (.c (.bool false))), none, true⟩]
@[reducible] def o11_1 : List Ins := [⟨(some 12), .ld false 5 (.t 1), none, true⟩,
  ⟨(some 13), .call (.k (.fn 28 [])) [(.t 12)], none, true⟩]
@[reducible] def o11_2 : List Ins := [⟨(some 14), .call (.k (.fn 19 [])) [], none, true⟩,
  ⟨(some 2), .mv (.t 14), none, true⟩]
@[reducible] def v11_3 : VC := (.seq (.ops o11_2) .ret)
@[reducible] def v11_4 : VC := (.cond (.t 13) v11_3 .skip)
@[reducible] def o11_5 : List Ins := [⟨(some 15), .ld false 5 (.t 1), none, true⟩,
  ⟨(some 16), .call (.k (.fn 20 [])) [(.t 15)], none, true⟩,
  ⟨(some 3), .alloc [(.c (.raw (.slice none 0 0))), (.c (.int .i64 0)), (.c (.int .i64 0)), (.c (.int .i64 0)), (.c (.raw (.slice none 0 0)))], none, true⟩,
  ⟨none, .st 5 (.t 3) (.t 16), none, true⟩]
@[reducible] def o11_6 : List Ins := [⟨(some 17), .ld false 5 (.t 3), none, false⟩,
  ⟨(some 18), .call (.k (.fn 40 [])) [(.t 17)], none, false⟩,
  ⟨(some 19), .ld false 5 (.t 1), none, false⟩,
  ⟨(some 20), .call (.k (.fn 41 [])) [(.t 19)], none, true⟩,
  ⟨(some 21), .bin .neq (.t 18) (.t 20), none, true⟩]
@[reducible] def o11_7 : List Ins := [⟨(some 2), .mv (.k (.c (.bool false))), none, true⟩]
@[reducible] def v11_8 : VC := (.seq (.ops o11_7) .ret)
@[reducible] def v11_9 : VC := (.cond (.t 21) v11_8 .skip)
@[reducible] def o11_10 : List Ins := [⟨(some 23), .ld false 5 (.t 3), none, true⟩,
  ⟨(some 24), .call (.k (.fn 22 [])) [(.t 23)], none, true⟩,
  ⟨(some 22), .mv (.t 24), none, true⟩,
  ⟨(some 25), .ext (.t 22) 0, none, true⟩,
  ⟨(some 26), .ext (.t 22) 1, none, true⟩,
  ⟨(some 4), .mv (.t 25), none, true⟩,
  ⟨(some 5), .mv (.t 26), none, true⟩]
@[reducible] def o11_11 : List Ins := [⟨(some 28), .ld false 5 (.t 1), none, true⟩,
  ⟨(some 29), .call (.k (.fn 42 [])) [(.t 28)], none, true⟩,
  ⟨(some 27), .mv (.t 29), none, true⟩,
  ⟨(some 30), .ext (.t 27) 0, none, true⟩,
  ⟨(some 31), .ext (.t 27) 1, none, true⟩,
  ⟨(some 6), .mv (.t 30), none, true⟩,
  ⟨(some 7), .mv (.t 31), none, true⟩]
@[reducible] def o11_12 : List Ins := [⟨(some 33), .ld false 5 (.t 3), none, true⟩,
  ⟨(some 34), .call (.k (.fn 35 [])) [(.t 33)], none, true⟩,
  ⟨(some 32), .mv (.t 34), none, true⟩,
  ⟨(some 35), .ext (.t 32) 0, none, true⟩,
  ⟨(some 36), .ext (.t 32) 1, none, true⟩,
  ⟨(some 8), .mv (.t 35), none, true⟩,
  ⟨(some 9), .mv (.t 36), none, true⟩]
@[reducible] def o11_13 : List Ins := [⟨(some 38), .ld false 5 (.t 1), none, true⟩,
  ⟨(some 39), .call (.k (.fn 43 [])) [(.t 38)], none, true⟩,
  ⟨(some 37), .mv (.t 39), none, true⟩,
  ⟨(some 40), .ext (.t 37) 0, none, true⟩,
  ⟨(some 41), .ext (.t 37) 1, none, true⟩,
  ⟨(some 10), .mv (.t 40), none, true⟩,
  ⟨(some 11), .mv (.t 41), none, true⟩]
@[reducible] def o11_14 : List Ins := [⟨(some 42), .mv (.t 4), none, true⟩,
  ⟨(some 43), .mv (.t 6), none, true⟩,
  ⟨(some 44), .call (.k (.fn 34 [])) [(.t 42), (.t 43)], none, true⟩,
  ⟨(some 45), .mv (.t 44), none, true⟩,
  ⟨(some 46), .mv (.t 5), (some (45, true)), true⟩,
  ⟨(some 47), .mv (.t 7), (some (45, true)), true⟩,
  ⟨(some 48), .bin .eql (.t 46) (.t 47), (some (45, true)), true⟩,
  ⟨(some 49), .pick (.t 45) (.t 48) (.k (.c (.bool false))), none, true⟩,
  ⟨(some 50), .mv (.t 49), none, true⟩,
  ⟨(some 51), .mv (.t 8), (some (50, true)), true⟩,
  ⟨(some 52), .mv (.t 10), (some (50, true)), true⟩,
  ⟨(some 53), .bin .eql (.t 51) (.t 52), (some (50, true)), true⟩,
  ⟨(some 54), .pick (.t 50) (.t 53) (.k (.c (.bool false))), none, true⟩,
  ⟨(some 55), .mv (.t 54), none, true⟩,
  ⟨(some 56), .mv (.t 9), (some (55, true)), true⟩,
  ⟨(some 57), .mv (.t 11), (some (55, true)), true⟩,
  ⟨(some 58), .bin .eql (.t 56) (.t 57), (some (55, true)), true⟩,
  ⟨(some 59), .pick (.t 55) (.t 58) (.k (.c (.bool false))), none, true⟩,
  ⟨(some 60), .mv (.t 59), none, true⟩,
  ⟨(some 61), .ld false 5 (.t 3), (some (60, true)), true⟩,
  ⟨(some 62), .ld false 5 (.t 1), (some (60, true)), true⟩,
  ⟨(some 63), .call (.k (.fn 30 [])) [(.t 61), (.t 62)], (some (60, true)), true⟩,
  ⟨(some 64), .pick (.t 60) (.t 63) (.k (.c (.bool false))), none, true⟩,
  ⟨(some 65), .mv (.t 64), none, true⟩,
  ⟨(some 66), .call (.k (.fn 19 [])) [], (some (65, true)), true⟩,
  ⟨(some 67), .pick (.t 65) (.t 66) (.k (.c (.bool false))), none, true⟩,
  ⟨(some 2), .mv (.t 67), none, true⟩]
@[reducible] def v11_15 : VC := (.seq (.ops o11_14) .ret)
@[reducible] def v11_16 : VC := (.seq (.ops o11_13) v11_15)
@[reducible] def v11_17 : VC := (.seq (.ops o11_12) v11_16)
@[reducible] def v11_18 : VC := (.seq (.ops o11_11) v11_17)
@[reducible] def v11_19 : VC := (.seq (.ops o11_10) v11_18)
@[reducible] def v11_20 : VC := (.seq (.seq (.ops o11_6) v11_9) v11_19)
@[reducible] def v11_21 : VC := (.seq (.ops o11_5) v11_20)
@[reducible] def v11_22 : VC := (.seq (.seq (.ops o11_1) v11_4) v11_21)
def ir11 : FC := ⟨1, 68, [.t 2], (.seq (.ops o11_0) v11_22)⟩
@[reducible] def o6_0 : List Ins := [⟨(some 2), .box 5 (.t 0), none, true⟩,
  ⟨(some 4), .mv (.k (.c (.bool false))), none, true⟩]
@[reducible] def o6_1 : List Ins := [⟨(some 10), .ld false 5 (.t 2), none, true⟩,
  ⟨(some 11), .call (.k (.fn 28 [])) [(.t 10)], none, true⟩]
@[reducible] def o6_2 : List Ins := [⟨(some 12), .call (.k (.fn 19 [])) [], none, true⟩,
  ⟨(some 4), .mv (.t 12), none, true⟩]
@[reducible] def v6_3 : VC := (.seq (.ops o6_2) .ret)
@[reducible] def v6_4 : VC := (.cond (.t 11) v6_3 .skip)
@[reducible] def o6_5 : List Ins := [⟨(some 13), .ld false 5 (.t 2), none, true⟩,
  ⟨(some 14), .call (.k (.fn 20 [])) [(.t 13)], none, true⟩,
  ⟨(some 5), .alloc [(.c (.raw (.slice none 0 0))), (.c (.int .i64 0)), (.c (.int .i64 0)), (.c (.int .i64 0)), (.c (.raw (.slice none 0 0)))], none, true⟩,
  ⟨none, .st 5 (.t 5) (.t 14), none, true⟩]
@[reducible] def o6_6 : List Ins := [⟨(some 16), .ld false 5 (.t 5), none, true⟩,
  ⟨(some 17), .mv (.t 1), none, true⟩,
  ⟨(some 18), .call (.k (.fn 21 [])) [(.t 16), (.t 17)], none, true⟩,
  ⟨(some 15), .mv (.t 18), none, true⟩,
  ⟨(some 19), .ext (.t 15) 0, none, true⟩,
  ⟨(some 20), .ext (.t 15) 1, none, true⟩,
  ⟨(some 6), .alloc [(.c (.int .i64 0)), (.c (.int .i64 0)), (.c (.int .i64 0))], none, true⟩,
  ⟨none, .st 3 (.t 6) (.t 19), none, true⟩,
  ⟨(some 7), .mv (.t 20), none, true⟩]
@[reducible] def o6_7 : List Ins := [⟨(some 22), .ld false 5 (.t 2), none, true⟩,
  ⟨(some 23), .mv (.t 1), none, true⟩,
  ⟨(some 24), .call (.k (.fn 29 [])) [(.t 22), (.t 23)], none, true⟩,
  ⟨(some 21), .mv (.t 24), none, true⟩,
  ⟨(some 25), .ext (.t 21) 0, none, true⟩,
  ⟨(some 26), .ext (.t 21) 1, none, true⟩,
  ⟨(some 8), .alloc [(.c (.int .i64 0)), (.c (.int .i64 0)), (.c (.int .i64 0))], none, true⟩,
  ⟨none, .st 3 (.t 8) (.t 25), none, true⟩,
  ⟨(some 9), .mv (.t 26), none, true⟩]
@[reducible] def o6_8 : List Ins := [⟨(some 27), .ld false 3 (.t 6), none, true⟩,
  ⟨(some 28), .ld false 3 (.t 8), none, true⟩,
  ⟨(some 29), .seq false [(0, true), (1, true), (2, true)] (.t 27) (.t 28), none, true⟩,
  ⟨(some 30), .mv (.t 29), none, true⟩,
  ⟨(some 31), .mv (.t 7), (some (30, true)), true⟩,
  ⟨(some 32), .mv (.t 9), (some (30, true)), true⟩,
  ⟨(some 33), .bin .eql (.t 31) (.t 32), (some (30, true)), true⟩,
  ⟨(some 34), .pick (.t 30) (.t 33) (.k (.c (.bool false))), none, true⟩,
  ⟨(some 35), .mv (.t 34), none, true⟩,
  ⟨(some 36), .ld false 5 (.t 5), (some (35, true)), true⟩,
  ⟨(some 37), .ld false 5 (.t 2), (some (35, true)), true⟩,
  ⟨(some 38), .call (.k (.fn 30 [])) [(.t 36), (.t 37)], (some (35, true)), true⟩,
  ⟨(some 39), .pick (.t 35) (.t 38) (.k (.c (.bool false))), none, true⟩,
  ⟨(some 40), .mv (.t 39), none, true⟩,
  ⟨(some 41), .call (.k (.fn 19 [])) [], (some (40, true)), true⟩,
  ⟨(some 42), .pick (.t 40) (.t 41) (.k (.c (.bool false))), none, true⟩,
  ⟨(some 4), .mv (.t 42), none, true⟩]
@[reducible] def v6_9 : VC := (.seq (.ops o6_8) .ret)
@[reducible] def v6_10 : VC := (.seq (.ops o6_7) v6_9)
@[reducible] def v6_11 : VC := (.seq (.ops o6_6) v6_10)
@[reducible] def v6_12 : VC := (.seq (.ops o6_5) v6_11)
@[reducible] def v6_13 : VC := (.seq (.seq (.ops o6_1) v6_4) v6_12)
def ir6 : FC := ⟨2, 43, [.t 4], (.seq (.ops o6_0) v6_13)⟩
@[reducible] def o7_0 : List Ins := [⟨(some 3), .box 5 (.t 0), none, true⟩,
  ⟨(some 6), .mv (.k (.c (.bool false))), none, true⟩]
@[reducible] def o7_1 : List Ins := [⟨(some 12), .ld false 5 (.t 3), none, true⟩,
  ⟨(some 13), .call (.k (.fn 28 [])) [(.t 12)], none, true⟩,
  ⟨(some 14), .mv (.t 13), none, true⟩,
  ⟨(some 15), .mv (.t 2), (some (14, false)), true⟩,
  ⟨(some 16), .bin .gtr (.t 15) (.k (.c (.int .i64 400))), (some (14, false)), true⟩,
  ⟨(some 17), .mv (.t 16), (some (14, false)), true⟩,
  ⟨(some 18), .mv (.t 2), (some (17, true)), true⟩,
  ⟨(some 19), .bin .leq (.t 18) (.k (.c (.int .i64 9999))), (some (17, true)), true⟩,
  ⟨(some 20), .pick (.t 17) (.t 19) (.k (.c (.bool false))), (some (14, false)), true⟩,
  ⟨(some 21), .pick (.t 14) (.k (.c (.bool true))) (.t 20), none, true⟩]
@[reducible] def o7_2 : List Ins := [⟨(some 22), .call (.k (.fn 19 [])) [], none, true⟩,
  ⟨(some 6), .mv (.t 22), none, true⟩]
@[reducible] def v7_3 : VC := (.seq (.ops o7_2) .ret)
@[reducible] def v7_4 : VC := (.cond (.t 21) v7_3 .skip)
@[reducible] def o7_5 : List Ins := [⟨(some 23), .ld false 5 (.t 3), none, true⟩,
  ⟨(some 24), .call (.k (.fn 20 [])) [(.t 23)], none, true⟩,
  ⟨(some 7), .alloc [(.c (.raw (.slice none 0 0))), (.c (.int .i64 0)), (.c (.int .i64 0)), (.c (.int .i64 0)), (.c (.raw (.slice none 0 0)))], none, true⟩,
  ⟨none, .st 5 (.t 7) (.t 24), none, true⟩]
@[reducible] def o7_6 : List Ins := [⟨(some 26), .ld false 5 (.t 7), none, true⟩,
  ⟨(some 27), .mv (.t 1), none, true⟩,
  ⟨(some 28), .mv (.t 2), none, true⟩,
  ⟨(some 29), .call (.k (.fn 26 [])) [(.t 26), (.t 27), (.t 28)], none, true⟩,
  ⟨(some 25), .mv (.t 29), none, true⟩,
  ⟨(some 30), .ext (.t 25) 0, none, true⟩,
  ⟨(some 31), .ext (.t 25) 1, none, true⟩,
  ⟨(some 8), .mv (.t 30), none, true⟩,
  ⟨(some 9), .mv (.t 31), none, true⟩]
@[reducible] def o7_7 : List Ins := [⟨(some 33), .ld false 5 (.t 3), none, true⟩,
  ⟨(some 34), .mv (.t 1), none, true⟩,
  ⟨(some 35), .mv (.t 2), none, true⟩,
  ⟨(some 36), .call (.k (.fn 31 [])) [(.t 33), (.t 34), (.t 35)], none, true⟩,
  ⟨(some 32), .mv (.t 36), none, true⟩,
  ⟨(some 37), .ext (.t 32) 0, none, true⟩,
  ⟨(some 38), .ext (.t 32) 1, none, true⟩,
  ⟨(some 10), .mv (.t 37), none, true⟩,
  ⟨(some 11), .mv (.t 38), none, true⟩]
@[reducible] def o7_8 : List Ins := [⟨(some 39), .mv (.t 8), none, true⟩,
  ⟨(some 40), .mv (.t 10), none, true⟩,
  ⟨(some 41), .bin .eql (.t 39) (.t 40), none, true⟩,
  ⟨(some 42), .mv (.t 41), none, true⟩,
  ⟨(some 43), .mv (.t 9), (some (42, true)), true⟩,
  ⟨(some 44), .mv (.t 11), (some (42, true)), true⟩,
  ⟨(some 45), .bin .eql (.t 43) (.t 44), (some (42, true)), true⟩,
  ⟨(some 46), .pick (.t 42) (.t 45) (.k (.c (.bool false))), none, true⟩,
  ⟨(some 47), .mv (.t 46), none, true⟩,
  ⟨(some 48), .ld false 5 (.t 7), (some (47, true)), true⟩,
  ⟨(some 49), .ld false 5 (.t 3), (some (47, true)), true⟩,
  ⟨(some 50), .call (.k (.fn 30 [])) [(.t 48), (.t 49)], (some (47, true)), true⟩,
  ⟨(some 51), .pick (.t 47) (.t 50) (.k (.c (.bool false))), none, true⟩,
  ⟨(some 52), .mv (.t 51), none, true⟩,
  ⟨(some 53), .call (.k (.fn 19 [])) [], (some (52, true)), true⟩,
  ⟨(some 54), .pick (.t 52) (.t 53) (.k (.c (.bool false))), none, true⟩,
  ⟨(some 6), .mv (.t 54), none, true⟩]
@[reducible] def v7_9 : VC := (.seq (.ops o7_8) .ret)
@[reducible] def v7_10 : VC := (.seq (.ops o7_7) v7_9)
@[reducible] def v7_11 : VC := (.seq (.ops o7_6) v7_10)
@[reducible] def v7_12 : VC := (.seq (.ops o7_5) v7_11)
@[reducible] def v7_13 : VC := (.seq (.seq (.ops o7_1) v7_4) v7_12)
def ir7 : FC := ⟨3, 55, [.t 6], (.seq (.ops o7_0) v7_13)⟩
theorem c30 : compM Try.prog [] 30 = some ir30 := by kernel_rfl
theorem c11 : compM Try.prog [] 11 = some ir11 := by kernel_rfl
theorem c6 : compM Try.prog [] 6 = some ir6 := by kernel_rfl
theorem c7 : compM Try.prog [] 7 = some ir7 := by kernel_rfl



set_option maxRecDepth 20000 in
set_option maxHeartbeats 4000000 in
theorem same30 (t : Tray) (h1 : t.recs.length ≤ 1000) (h2 : t.pres.length ≤ 1000) : FSpec Try.prog 30 [t.av, t.av] (.c (.bool true)) := by
  refine FSpec_of c30 (Nat.le_refl _) (by decide) fun C hP hN hC hL => ?_
  simp only [ir30, Tray.av]
  (repeat ((first | refine WV_seq_ ?_ | refine WV_block ?_ | refine WV_ops ?_ | refine WV_skip ?_ | refine WV_exit ?_); (try simp only [go_sem, init_env', Nat.reduceEqDiff, Nat.reduceAdd, Nat.reduceMul, reduceIte, Nat.reduceLeDiff, Nat.reduceLT, Nat.reduceBEq, reduceCtorEq, hP, recsC, prsC, List.length_map, bne_self_eq_false]); (repeat (refine And.intro (by first | omega | (intros; simp_all; done) | (intros; simp_all; omega)) ?_))))
  (refine WV_cond rfl (fun h => ?_) (fun h => ?_))
  · simp at h
  (repeat ((first | refine WV_seq_ ?_ | refine WV_block ?_ | refine WV_ops ?_ | refine WV_skip ?_ | refine WV_exit ?_); (try simp only [go_sem, init_env', Nat.reduceEqDiff, Nat.reduceAdd, Nat.reduceMul, reduceIte, Nat.reduceLeDiff, Nat.reduceLT, Nat.reduceBEq, reduceCtorEq, hP, ]); (repeat (refine And.intro (by first | omega | (intros; simp_all; done) | (intros; simp_all; omega)) ?_))))
  refine WV_loopK K30_1 [] (fun k : Nat => k ≤ t.recs.length) (fun k => t.recs.length - k) (fun k => [(5, iv k)]) (fun _ => []) 0 (Nat.zero_le _) ?_ ?_
  · (refine Sub_of (by simp only [go_sem, init_env', Nat.reduceEqDiff, Nat.reduceAdd, Nat.reduceMul, reduceIte, Nat.reduceLeDiff, Nat.reduceLT, Nat.reduceBEq, reduceCtorEq]; ((repeat' (first | exact EnvLe_e0 _ _ | refine EnvLe_upd ?_ ?_)) <;> ((try simp only [upd_app, e0_app, o0_app, Nat.reduceEqDiff, reduceIte]); first | exact AWk.refl _ _ | exact AWk.int (by omega) | exact AWk.int (by rw [w64 (by omega) (by omega)]; omega) | exact AWk.grow rfl | exact AWk.nil _ | exact AWk.of (by simp)))) (by simp only [go_sem, init_env', Nat.reduceEqDiff, Nat.reduceAdd, Nat.reduceMul, reduceIte, Nat.reduceLeDiff, Nat.reduceLT, Nat.reduceBEq, reduceCtorEq]; (first | ((repeat' (first | exact ObjLe_o0 _ | exact ObjLe.rfl' _ | refine ObjLe_same ?_ | refine ObjLe_upd ?_ ?_ | refine ObjLe_new rfl ?_)) <;> rfl) | (refine ObjLe_X ?_; (repeat' (first | exact ObjLeX_o0 _ _ | refine ObjLeX_skip rfl ?_ | refine ObjLeX_upd ?_ ?_)) <;> rfl))))
  · intro k hk
    simp only [go_sem, init_env', Nat.reduceEqDiff, Nat.reduceAdd, Nat.reduceMul, reduceIte, Nat.reduceLeDiff, Nat.reduceLT, Nat.reduceBEq, reduceCtorEq]
    (repeat ((first | refine WV_seq_ ?_ | refine WV_block ?_ | refine WV_ops ?_ | refine WV_skip ?_ | refine WV_exit ?_); (try simp only [go_sem, init_env', Nat.reduceEqDiff, Nat.reduceAdd, Nat.reduceMul, reduceIte, Nat.reduceLeDiff, Nat.reduceLT, Nat.reduceBEq, reduceCtorEq, hP, recsC, List.length_map]); (repeat (refine And.intro (by first | omega | (intros; simp_all; done) | (intros; simp_all; omega)) ?_))))
    (refine WV_cond rfl (fun h => ?_) (fun h => ?_))
    · have hkl : k < t.recs.length := by simpa using h
      have hI : (k : Int) < (t.recs.length : Int) := by omega
      have hw2 := w64 (n := (k : Int) + 1) (by omega) (by omega)
      have g1 : (t.recs.map Rec.cds).getD k [] = [.int .i64 t.recs[k].front, .int .i64 t.recs[k].back] := map_getD hkl
      generalize t.recs[k] = X at *
      (repeat ((first | refine WV_seq_ ?_ | refine WV_block ?_ | refine WV_ops ?_ | refine WV_skip ?_ | refine WV_exit ?_); (try simp only [go_sem, init_env', Nat.reduceEqDiff, Nat.reduceAdd, Nat.reduceMul, reduceIte, Nat.reduceLeDiff, Nat.reduceLT, Nat.reduceBEq, reduceCtorEq, hP, g1, recsC, hI, List.length_map, Int.natCast_nonneg, seqGo, beq_self_eq_true]); (repeat (refine And.intro (by first | omega | (intros; simp_all; done) | (intros; simp_all; omega)) ?_))))
      (refine WV_cond rfl (fun h => ?_) (fun h => ?_))
      · simp at h
      (repeat ((first | refine WV_seq_ ?_ | refine WV_block ?_ | refine WV_ops ?_ | refine WV_skip ?_ | refine WV_exit ?_); (try simp only [go_sem, init_env', Nat.reduceEqDiff, Nat.reduceAdd, Nat.reduceMul, reduceIte, Nat.reduceLeDiff, Nat.reduceLT, Nat.reduceBEq, reduceCtorEq, hP, hw2]); (repeat (refine And.intro (by first | omega | (intros; simp_all; done) | (intros; simp_all; omega)) ?_))))
      refine ⟨k + 1, by omega, by omega, ?_⟩
      (refine Sub_of (by simp only [go_sem, init_env', Nat.reduceEqDiff, Nat.reduceAdd, Nat.reduceMul, reduceIte, Nat.reduceLeDiff, Nat.reduceLT, Nat.reduceBEq, reduceCtorEq]; ((repeat' (first | exact EnvLe_e0 _ _ | refine EnvLe_upd ?_ ?_)) <;> ((try simp only [upd_app, e0_app, o0_app, Nat.reduceEqDiff, reduceIte]); first | exact AWk.refl _ _ | exact AWk.int (by omega) | exact AWk.int (by rw [w64 (by omega) (by omega)]; omega) | exact AWk.grow rfl | exact AWk.nil _ | exact AWk.of (by simp)))) (by simp only [go_sem, init_env', Nat.reduceEqDiff, Nat.reduceAdd, Nat.reduceMul, reduceIte, Nat.reduceLeDiff, Nat.reduceLT, Nat.reduceBEq, reduceCtorEq]; (first | ((repeat' (first | exact ObjLe_o0 _ | exact ObjLe.rfl' _ | refine ObjLe_same ?_ | refine ObjLe_upd ?_ ?_ | refine ObjLe_new rfl ?_)) <;> rfl) | (refine ObjLe_X ?_; (repeat' (first | exact ObjLeX_o0 _ _ | refine ObjLeX_skip rfl ?_ | refine ObjLeX_upd ?_ ?_)) <;> rfl))))
    · (refine WV_exit ?_; simp only [go_sem, init_env', Nat.reduceEqDiff, Nat.reduceAdd, Nat.reduceMul, reduceIte, Nat.reduceLeDiff, Nat.reduceLT, Nat.reduceBEq, reduceCtorEq])
      (repeat ((first | refine WV_seq_ ?_ | refine WV_block ?_ | refine WV_ops ?_ | refine WV_skip ?_ | refine WV_exit ?_); (try simp only [go_sem, init_env', Nat.reduceEqDiff, Nat.reduceAdd, Nat.reduceMul, reduceIte, Nat.reduceLeDiff, Nat.reduceLT, Nat.reduceBEq, reduceCtorEq, hP, ]); (repeat (refine And.intro (by first | omega | (intros; simp_all; done) | (intros; simp_all; omega)) ?_))))
      refine WV_loopK K30_2 [] (fun k : Nat => k ≤ t.pres.length) (fun k => t.pres.length - k) (fun k => [(6, iv k)]) (fun _ => []) 0 (Nat.zero_le _) ?_ ?_
      · (refine Sub_of (by simp only [go_sem, init_env', Nat.reduceEqDiff, Nat.reduceAdd, Nat.reduceMul, reduceIte, Nat.reduceLeDiff, Nat.reduceLT, Nat.reduceBEq, reduceCtorEq]; ((repeat' (first | exact EnvLe_e0 _ _ | refine EnvLe_upd ?_ ?_)) <;> ((try simp only [upd_app, e0_app, o0_app, Nat.reduceEqDiff, reduceIte]); first | exact AWk.refl _ _ | exact AWk.int (by omega) | exact AWk.int (by rw [w64 (by omega) (by omega)]; omega) | exact AWk.grow rfl | exact AWk.nil _ | exact AWk.of (by simp)))) (by simp only [go_sem, init_env', Nat.reduceEqDiff, Nat.reduceAdd, Nat.reduceMul, reduceIte, Nat.reduceLeDiff, Nat.reduceLT, Nat.reduceBEq, reduceCtorEq]; (first | ((repeat' (first | exact ObjLe_o0 _ | exact ObjLe.rfl' _ | refine ObjLe_same ?_ | refine ObjLe_upd ?_ ?_ | refine ObjLe_new rfl ?_)) <;> rfl) | (refine ObjLe_X ?_; (repeat' (first | exact ObjLeX_o0 _ _ | refine ObjLeX_skip rfl ?_ | refine ObjLeX_upd ?_ ?_)) <;> rfl))))
      · intro k hk
        simp only [go_sem, init_env', Nat.reduceEqDiff, Nat.reduceAdd, Nat.reduceMul, reduceIte, Nat.reduceLeDiff, Nat.reduceLT, Nat.reduceBEq, reduceCtorEq]
        (repeat ((first | refine WV_seq_ ?_ | refine WV_block ?_ | refine WV_ops ?_ | refine WV_skip ?_ | refine WV_exit ?_); (try simp only [go_sem, init_env', Nat.reduceEqDiff, Nat.reduceAdd, Nat.reduceMul, reduceIte, Nat.reduceLeDiff, Nat.reduceLT, Nat.reduceBEq, reduceCtorEq, hP, prsC, List.length_map]); (repeat (refine And.intro (by first | omega | (intros; simp_all; done) | (intros; simp_all; omega)) ?_))))
        (refine WV_cond rfl (fun h => ?_) (fun h => ?_))
        · have hkl : k < t.pres.length := by simpa using h
          have hI : (k : Int) < (t.pres.length : Int) := by omega
          have hw2 := w64 (n := (k : Int) + 1) (by omega) (by omega)
          have g1 : (t.pres.map Pr.cds).getD k [] = [.int .i64 t.pres[k].side, .int .i64 t.pres[k].time] := map_getD hkl
          generalize t.pres[k] = X at *
          (repeat ((first | refine WV_seq_ ?_ | refine WV_block ?_ | refine WV_ops ?_ | refine WV_skip ?_ | refine WV_exit ?_); (try simp only [go_sem, init_env', Nat.reduceEqDiff, Nat.reduceAdd, Nat.reduceMul, reduceIte, Nat.reduceLeDiff, Nat.reduceLT, Nat.reduceBEq, reduceCtorEq, hP, g1, prsC, hI, List.length_map, Int.natCast_nonneg, seqGo, beq_self_eq_true]); (repeat (refine And.intro (by first | omega | (intros; simp_all; done) | (intros; simp_all; omega)) ?_))))
          (refine WV_cond rfl (fun h => ?_) (fun h => ?_))
          · simp at h
          (repeat ((first | refine WV_seq_ ?_ | refine WV_block ?_ | refine WV_ops ?_ | refine WV_skip ?_ | refine WV_exit ?_); (try simp only [go_sem, init_env', Nat.reduceEqDiff, Nat.reduceAdd, Nat.reduceMul, reduceIte, Nat.reduceLeDiff, Nat.reduceLT, Nat.reduceBEq, reduceCtorEq, hP, hw2]); (repeat (refine And.intro (by first | omega | (intros; simp_all; done) | (intros; simp_all; omega)) ?_))))
          refine ⟨k + 1, by omega, by omega, ?_⟩
          (refine Sub_of (by simp only [go_sem, init_env', Nat.reduceEqDiff, Nat.reduceAdd, Nat.reduceMul, reduceIte, Nat.reduceLeDiff, Nat.reduceLT, Nat.reduceBEq, reduceCtorEq]; ((repeat' (first | exact EnvLe_e0 _ _ | refine EnvLe_upd ?_ ?_)) <;> ((try simp only [upd_app, e0_app, o0_app, Nat.reduceEqDiff, reduceIte]); first | exact AWk.refl _ _ | exact AWk.int (by omega) | exact AWk.int (by rw [w64 (by omega) (by omega)]; omega) | exact AWk.grow rfl | exact AWk.nil _ | exact AWk.of (by simp)))) (by simp only [go_sem, init_env', Nat.reduceEqDiff, Nat.reduceAdd, Nat.reduceMul, reduceIte, Nat.reduceLeDiff, Nat.reduceLT, Nat.reduceBEq, reduceCtorEq]; (first | ((repeat' (first | exact ObjLe_o0 _ | exact ObjLe.rfl' _ | refine ObjLe_same ?_ | refine ObjLe_upd ?_ ?_ | refine ObjLe_new rfl ?_)) <;> rfl) | (refine ObjLe_X ?_; (repeat' (first | exact ObjLeX_o0 _ _ | refine ObjLeX_skip rfl ?_ | refine ObjLeX_upd ?_ ?_)) <;> rfl))))
        · (refine WV_exit ?_; simp only [go_sem, init_env', Nat.reduceEqDiff, Nat.reduceAdd, Nat.reduceMul, reduceIte, Nat.reduceLeDiff, Nat.reduceLT, Nat.reduceBEq, reduceCtorEq])
          (repeat ((first | refine WV_seq_ ?_ | refine WV_block ?_ | refine WV_ops ?_ | refine WV_skip ?_ | refine WV_exit ?_); (try simp only [go_sem, init_env', Nat.reduceEqDiff, Nat.reduceAdd, Nat.reduceMul, reduceIte, Nat.reduceLeDiff, Nat.reduceLT, Nat.reduceBEq, reduceCtorEq, hP, ]); (repeat (refine And.intro (by first | omega | (intros; simp_all; done) | (intros; simp_all; omega)) ?_))))
          (refine WV_ret ?_; simp only [thenQ, inQ, RetQ, RetOk, resAll, resA]; simp only [go_sem, init_env', Nat.reduceEqDiff, Nat.reduceAdd, Nat.reduceMul, reduceIte, Nat.reduceLeDiff, Nat.reduceLT, Nat.reduceBEq, reduceCtorEq, tupA, AV.port, AV.portL, exists_eq_left', ]; (first | exact AVle.of rfl | refine AVle.of ?_ | skip))
theorem far_no {t : Tray} (h : farB t = false) : t.recs.length ≤ 40 ∧ t.pres.length ≤ 40 := by
  unfold farB Tray.n at h
  simp only [Bool.or_eq_false_iff, decide_eq_false_iff_not] at h
  omega
set_option maxRecDepth 20000 in
set_option maxHeartbeats 4000000 in
/-- Check, Plays and Steps are as specified. -/
theorem law11 (t : Tray) : FSpec Try.prog 11 [t.av] (.c (.bool true)) := by
  have hfar := far28 t
  cases hf : farB t
  rotate_left
  · rw [hf] at hfar
    refine FSpec_of c11 (Nat.le_refl _) (by decide) fun C hP hN hC hL => ?_
    simp only [ir11, Tray.av]
    (repeat ((first | refine WV_seq_ ?_ | refine WV_block ?_ | refine WV_ops ?_ | refine WV_skip ?_ | refine WV_exit ?_); (try simp only [go_sem, init_env', Nat.reduceEqDiff, Nat.reduceAdd, Nat.reduceMul, reduceIte, Nat.reduceLeDiff, Nat.reduceLT, Nat.reduceBEq, reduceCtorEq, hP, ]); (repeat (refine And.intro (by first | omega | (intros; simp_all; done) | (intros; simp_all; omega)) ?_))))
    (refine AS_pure (hfar) rfl rfl rfl rfl rfl ?_; simp only [go_sem, init_env', Nat.reduceEqDiff, Nat.reduceAdd, Nat.reduceMul, reduceIte, Nat.reduceLeDiff, Nat.reduceLT, Nat.reduceBEq, reduceCtorEq, hP, Tray.av]; (repeat (refine And.intro (by first | omega | (intros; simp_all; done) | (intros; simp_all; omega)) ?_)); (repeat ((first | refine WV_seq_ ?_ | refine WV_block ?_ | refine WV_ops ?_ | refine WV_skip ?_ | refine WV_exit ?_); (try simp only [go_sem, init_env', Nat.reduceEqDiff, Nat.reduceAdd, Nat.reduceMul, reduceIte, Nat.reduceLeDiff, Nat.reduceLT, Nat.reduceBEq, reduceCtorEq, hP, Tray.av]); (repeat (refine And.intro (by first | omega | (intros; simp_all; done) | (intros; simp_all; omega)) ?_)))))
    (refine WV_cond rfl (fun h => ?_) (fun h => ?_))
    · (repeat ((first | refine WV_seq_ ?_ | refine WV_block ?_ | refine WV_ops ?_ | refine WV_skip ?_ | refine WV_exit ?_); (try simp only [go_sem, init_env', Nat.reduceEqDiff, Nat.reduceAdd, Nat.reduceMul, reduceIte, Nat.reduceLeDiff, Nat.reduceLT, Nat.reduceBEq, reduceCtorEq, hP, ]); (repeat (refine And.intro (by first | omega | (intros; simp_all; done) | (intros; simp_all; omega)) ?_))))
      (refine AS_pure (works19) rfl rfl rfl rfl rfl ?_; simp only [go_sem, init_env', Nat.reduceEqDiff, Nat.reduceAdd, Nat.reduceMul, reduceIte, Nat.reduceLeDiff, Nat.reduceLT, Nat.reduceBEq, reduceCtorEq, hP, ]; (repeat (refine And.intro (by first | omega | (intros; simp_all; done) | (intros; simp_all; omega)) ?_)); (repeat ((first | refine WV_seq_ ?_ | refine WV_block ?_ | refine WV_ops ?_ | refine WV_skip ?_ | refine WV_exit ?_); (try simp only [go_sem, init_env', Nat.reduceEqDiff, Nat.reduceAdd, Nat.reduceMul, reduceIte, Nat.reduceLeDiff, Nat.reduceLT, Nat.reduceBEq, reduceCtorEq, hP, ]); (repeat (refine And.intro (by first | omega | (intros; simp_all; done) | (intros; simp_all; omega)) ?_)))))
      (refine WV_ret ?_; simp only [thenQ, inQ, RetQ, RetOk, resAll, resA]; simp only [go_sem, init_env', Nat.reduceEqDiff, Nat.reduceAdd, Nat.reduceMul, reduceIte, Nat.reduceLeDiff, Nat.reduceLT, Nat.reduceBEq, reduceCtorEq, tupA, AV.port, AV.portL, exists_eq_left', ]; (first | exact AVle.of rfl | refine AVle.of ?_ | skip))
    · simp at h
  rw [hf] at hfar
  obtain ⟨l1, l2⟩ := far_no hf
  have hcop := copy20 t (by omega) (by omega)
  have hck := check40 t
  have hrck := rcheck41 t
  have b1 := plays22 t
  have b2 := plays42 t
  have b3 := steps35 t
  have b4 := steps43 t
  have hlen : (playsR t).1.length ≤ 100000 := by
    unfold playsR
    split
    · rename_i hok; have := plays_len (Tray.ok_spec hok).1; simp only; omega
    · simp
  have bs := sameP34 (playsR t).1 hlen
  have bt := same30 t (by omega) (by omega)
  generalize playsR t = A at *
  generalize stepsR t = B at *
  generalize (if t.ok = true then (0 : Int) else 20) = E0 at *
  refine FSpec_of c11 (Nat.le_refl _) (by decide) fun C hP hN hC hL => ?_
  simp only [ir11, Tray.av]
  (repeat ((first | refine WV_seq_ ?_ | refine WV_block ?_ | refine WV_ops ?_ | refine WV_skip ?_ | refine WV_exit ?_); (try simp only [go_sem, init_env', Nat.reduceEqDiff, Nat.reduceAdd, Nat.reduceMul, reduceIte, Nat.reduceLeDiff, Nat.reduceLT, Nat.reduceBEq, reduceCtorEq, hP, ]); (repeat (refine And.intro (by first | omega | (intros; simp_all; done) | (intros; simp_all; omega)) ?_))))
  (refine AS_pure (hfar) rfl rfl rfl rfl rfl ?_; simp only [go_sem, init_env', Nat.reduceEqDiff, Nat.reduceAdd, Nat.reduceMul, reduceIte, Nat.reduceLeDiff, Nat.reduceLT, Nat.reduceBEq, reduceCtorEq, hP, Tray.av]; (repeat (refine And.intro (by first | omega | (intros; simp_all; done) | (intros; simp_all; omega)) ?_)); (repeat ((first | refine WV_seq_ ?_ | refine WV_block ?_ | refine WV_ops ?_ | refine WV_skip ?_ | refine WV_exit ?_); (try simp only [go_sem, init_env', Nat.reduceEqDiff, Nat.reduceAdd, Nat.reduceMul, reduceIte, Nat.reduceLeDiff, Nat.reduceLT, Nat.reduceBEq, reduceCtorEq, hP, Tray.av]); (repeat (refine And.intro (by first | omega | (intros; simp_all; done) | (intros; simp_all; omega)) ?_)))))
  (refine WV_cond rfl (fun h => ?_) (fun h => ?_))
  · simp at h
  (repeat ((first | refine WV_seq_ ?_ | refine WV_block ?_ | refine WV_ops ?_ | refine WV_skip ?_ | refine WV_exit ?_); (try simp only [go_sem, init_env', Nat.reduceEqDiff, Nat.reduceAdd, Nat.reduceMul, reduceIte, Nat.reduceLeDiff, Nat.reduceLT, Nat.reduceBEq, reduceCtorEq, hP, ]); (repeat (refine And.intro (by first | omega | (intros; simp_all; done) | (intros; simp_all; omega)) ?_))))
  (refine AS_pure (hcop) rfl rfl rfl rfl rfl ?_; simp only [go_sem, init_env', Nat.reduceEqDiff, Nat.reduceAdd, Nat.reduceMul, reduceIte, Nat.reduceLeDiff, Nat.reduceLT, Nat.reduceBEq, reduceCtorEq, hP, Tray.av]; (repeat (refine And.intro (by first | omega | (intros; simp_all; done) | (intros; simp_all; omega)) ?_)); (repeat ((first | refine WV_seq_ ?_ | refine WV_block ?_ | refine WV_ops ?_ | refine WV_skip ?_ | refine WV_exit ?_); (try simp only [go_sem, init_env', Nat.reduceEqDiff, Nat.reduceAdd, Nat.reduceMul, reduceIte, Nat.reduceLeDiff, Nat.reduceLT, Nat.reduceBEq, reduceCtorEq, hP, Tray.av]); (repeat (refine And.intro (by first | omega | (intros; simp_all; done) | (intros; simp_all; omega)) ?_)))))
  (refine ACall_of (hck) rfl rfl rfl rfl rfl ?_; simp only [go_sem, init_env', Nat.reduceEqDiff, Nat.reduceAdd, Nat.reduceMul, reduceIte, Nat.reduceLeDiff, Nat.reduceLT, Nat.reduceBEq, reduceCtorEq, hP, Tray.av]; (repeat (refine And.intro (by first | omega | (intros; simp_all; done) | (intros; simp_all; omega)) ?_)); (repeat ((first | refine WV_seq_ ?_ | refine WV_block ?_ | refine WV_ops ?_ | refine WV_skip ?_ | refine WV_exit ?_); (try simp only [go_sem, init_env', Nat.reduceEqDiff, Nat.reduceAdd, Nat.reduceMul, reduceIte, Nat.reduceLeDiff, Nat.reduceLT, Nat.reduceBEq, reduceCtorEq, hP, Tray.av]); (repeat (refine And.intro (by first | omega | (intros; simp_all; done) | (intros; simp_all; omega)) ?_)))))
  (refine AS_pure (hrck) rfl rfl rfl rfl rfl ?_; simp only [go_sem, init_env', Nat.reduceEqDiff, Nat.reduceAdd, Nat.reduceMul, reduceIte, Nat.reduceLeDiff, Nat.reduceLT, Nat.reduceBEq, reduceCtorEq, hP, Tray.av, bne_self_eq_false]; (repeat (refine And.intro (by first | omega | (intros; simp_all; done) | (intros; simp_all; omega)) ?_)); (repeat ((first | refine WV_seq_ ?_ | refine WV_block ?_ | refine WV_ops ?_ | refine WV_skip ?_ | refine WV_exit ?_); (try simp only [go_sem, init_env', Nat.reduceEqDiff, Nat.reduceAdd, Nat.reduceMul, reduceIte, Nat.reduceLeDiff, Nat.reduceLT, Nat.reduceBEq, reduceCtorEq, hP, Tray.av, bne_self_eq_false]); (repeat (refine And.intro (by first | omega | (intros; simp_all; done) | (intros; simp_all; omega)) ?_)))))
  (refine WV_cond rfl (fun h => ?_) (fun h => ?_))
  · simp at h
  (repeat ((first | refine WV_seq_ ?_ | refine WV_block ?_ | refine WV_ops ?_ | refine WV_skip ?_ | refine WV_exit ?_); (try simp only [go_sem, init_env', Nat.reduceEqDiff, Nat.reduceAdd, Nat.reduceMul, reduceIte, Nat.reduceLeDiff, Nat.reduceLT, Nat.reduceBEq, reduceCtorEq, hP, ]); (repeat (refine And.intro (by first | omega | (intros; simp_all; done) | (intros; simp_all; omega)) ?_))))
  (refine AS_pure (b1) rfl rfl rfl rfl rfl ?_; simp only [go_sem, init_env', Nat.reduceEqDiff, Nat.reduceAdd, Nat.reduceMul, reduceIte, Nat.reduceLeDiff, Nat.reduceLT, Nat.reduceBEq, reduceCtorEq, hP, Tray.av]; (repeat (refine And.intro (by first | omega | (intros; simp_all; done) | (intros; simp_all; omega)) ?_)); (repeat ((first | refine WV_seq_ ?_ | refine WV_block ?_ | refine WV_ops ?_ | refine WV_skip ?_ | refine WV_exit ?_); (try simp only [go_sem, init_env', Nat.reduceEqDiff, Nat.reduceAdd, Nat.reduceMul, reduceIte, Nat.reduceLeDiff, Nat.reduceLT, Nat.reduceBEq, reduceCtorEq, hP, Tray.av]); (repeat (refine And.intro (by first | omega | (intros; simp_all; done) | (intros; simp_all; omega)) ?_)))))
  (refine AS_pure (b2) rfl rfl rfl rfl rfl ?_; simp only [go_sem, init_env', Nat.reduceEqDiff, Nat.reduceAdd, Nat.reduceMul, reduceIte, Nat.reduceLeDiff, Nat.reduceLT, Nat.reduceBEq, reduceCtorEq, hP, Tray.av]; (repeat (refine And.intro (by first | omega | (intros; simp_all; done) | (intros; simp_all; omega)) ?_)); (repeat ((first | refine WV_seq_ ?_ | refine WV_block ?_ | refine WV_ops ?_ | refine WV_skip ?_ | refine WV_exit ?_); (try simp only [go_sem, init_env', Nat.reduceEqDiff, Nat.reduceAdd, Nat.reduceMul, reduceIte, Nat.reduceLeDiff, Nat.reduceLT, Nat.reduceBEq, reduceCtorEq, hP, Tray.av]); (repeat (refine And.intro (by first | omega | (intros; simp_all; done) | (intros; simp_all; omega)) ?_)))))
  (refine AS_pure (b3) rfl rfl rfl rfl rfl ?_; simp only [go_sem, init_env', Nat.reduceEqDiff, Nat.reduceAdd, Nat.reduceMul, reduceIte, Nat.reduceLeDiff, Nat.reduceLT, Nat.reduceBEq, reduceCtorEq, hP, Tray.av]; (repeat (refine And.intro (by first | omega | (intros; simp_all; done) | (intros; simp_all; omega)) ?_)); (repeat ((first | refine WV_seq_ ?_ | refine WV_block ?_ | refine WV_ops ?_ | refine WV_skip ?_ | refine WV_exit ?_); (try simp only [go_sem, init_env', Nat.reduceEqDiff, Nat.reduceAdd, Nat.reduceMul, reduceIte, Nat.reduceLeDiff, Nat.reduceLT, Nat.reduceBEq, reduceCtorEq, hP, Tray.av]); (repeat (refine And.intro (by first | omega | (intros; simp_all; done) | (intros; simp_all; omega)) ?_)))))
  (refine AS_pure (b4) rfl rfl rfl rfl rfl ?_; simp only [go_sem, init_env', Nat.reduceEqDiff, Nat.reduceAdd, Nat.reduceMul, reduceIte, Nat.reduceLeDiff, Nat.reduceLT, Nat.reduceBEq, reduceCtorEq, hP, Tray.av]; (repeat (refine And.intro (by first | omega | (intros; simp_all; done) | (intros; simp_all; omega)) ?_)); (repeat ((first | refine WV_seq_ ?_ | refine WV_block ?_ | refine WV_ops ?_ | refine WV_skip ?_ | refine WV_exit ?_); (try simp only [go_sem, init_env', Nat.reduceEqDiff, Nat.reduceAdd, Nat.reduceMul, reduceIte, Nat.reduceLeDiff, Nat.reduceLT, Nat.reduceBEq, reduceCtorEq, hP, Tray.av]); (repeat (refine And.intro (by first | omega | (intros; simp_all; done) | (intros; simp_all; omega)) ?_)))))
  (refine AS_pure (bs) rfl rfl rfl rfl rfl ?_; simp only [go_sem, init_env', Nat.reduceEqDiff, Nat.reduceAdd, Nat.reduceMul, reduceIte, Nat.reduceLeDiff, Nat.reduceLT, Nat.reduceBEq, reduceCtorEq, hP, beq_self_eq_true]; (repeat (refine And.intro (by first | omega | (intros; simp_all; done) | (intros; simp_all; omega)) ?_)); (repeat ((first | refine WV_seq_ ?_ | refine WV_block ?_ | refine WV_ops ?_ | refine WV_skip ?_ | refine WV_exit ?_); (try simp only [go_sem, init_env', Nat.reduceEqDiff, Nat.reduceAdd, Nat.reduceMul, reduceIte, Nat.reduceLeDiff, Nat.reduceLT, Nat.reduceBEq, reduceCtorEq, hP, beq_self_eq_true]); (repeat (refine And.intro (by first | omega | (intros; simp_all; done) | (intros; simp_all; omega)) ?_)))))
  (refine AG_pure (fun hG => bt) rfl (fun hG => by first | (simp only [go_sem, init_env', Nat.reduceEqDiff, Nat.reduceAdd, Nat.reduceMul, reduceIte, Nat.reduceLeDiff, Nat.reduceLT, Nat.reduceBEq, reduceCtorEq, hG]; done) | (simp only [go_sem, init_env', Nat.reduceEqDiff, Nat.reduceAdd, Nat.reduceMul, reduceIte, Nat.reduceLeDiff, Nat.reduceLT, Nat.reduceBEq, reduceCtorEq]; revert hG; simp; done) | (simp only [go_sem, init_env', Nat.reduceEqDiff, Nat.reduceAdd, Nat.reduceMul, reduceIte, Nat.reduceLeDiff, Nat.reduceLT, Nat.reduceBEq, reduceCtorEq, hG]; simp_all; done) | (revert hG; simp; done) | simp_all) rfl rfl rfl ?_; simp only [go_sem, init_env', Nat.reduceEqDiff, Nat.reduceAdd, Nat.reduceMul, reduceIte, Nat.reduceLeDiff, Nat.reduceLT, Nat.reduceBEq, reduceCtorEq, hP, Tray.av, beq_self_eq_true]; (repeat (refine And.intro (by first | omega | (intros; simp_all; done) | (intros; simp_all; omega)) ?_)); (repeat ((first | refine WV_seq_ ?_ | refine WV_block ?_ | refine WV_ops ?_ | refine WV_skip ?_ | refine WV_exit ?_); (try simp only [go_sem, init_env', Nat.reduceEqDiff, Nat.reduceAdd, Nat.reduceMul, reduceIte, Nat.reduceLeDiff, Nat.reduceLT, Nat.reduceBEq, reduceCtorEq, hP, Tray.av, beq_self_eq_true]); (repeat (refine And.intro (by first | omega | (intros; simp_all; done) | (intros; simp_all; omega)) ?_)))))
  (refine AG_pure (fun hG => works19) rfl (fun hG => by first | (simp only [go_sem, init_env', Nat.reduceEqDiff, Nat.reduceAdd, Nat.reduceMul, reduceIte, Nat.reduceLeDiff, Nat.reduceLT, Nat.reduceBEq, reduceCtorEq, hG]; done) | (simp only [go_sem, init_env', Nat.reduceEqDiff, Nat.reduceAdd, Nat.reduceMul, reduceIte, Nat.reduceLeDiff, Nat.reduceLT, Nat.reduceBEq, reduceCtorEq]; revert hG; simp; done) | (simp only [go_sem, init_env', Nat.reduceEqDiff, Nat.reduceAdd, Nat.reduceMul, reduceIte, Nat.reduceLeDiff, Nat.reduceLT, Nat.reduceBEq, reduceCtorEq, hG]; simp_all; done) | (revert hG; simp; done) | simp_all) rfl rfl rfl ?_; simp only [go_sem, init_env', Nat.reduceEqDiff, Nat.reduceAdd, Nat.reduceMul, reduceIte, Nat.reduceLeDiff, Nat.reduceLT, Nat.reduceBEq, reduceCtorEq, hP, ]; (repeat (refine And.intro (by first | omega | (intros; simp_all; done) | (intros; simp_all; omega)) ?_)); (repeat ((first | refine WV_seq_ ?_ | refine WV_block ?_ | refine WV_ops ?_ | refine WV_skip ?_ | refine WV_exit ?_); (try simp only [go_sem, init_env', Nat.reduceEqDiff, Nat.reduceAdd, Nat.reduceMul, reduceIte, Nat.reduceLeDiff, Nat.reduceLT, Nat.reduceBEq, reduceCtorEq, hP, ]); (repeat (refine And.intro (by first | omega | (intros; simp_all; done) | (intros; simp_all; omega)) ?_)))))
  (refine WV_ret ?_; simp only [thenQ, inQ, RetQ, RetOk, resAll, resA]; simp only [go_sem, init_env', Nat.reduceEqDiff, Nat.reduceAdd, Nat.reduceMul, reduceIte, Nat.reduceLeDiff, Nat.reduceLT, Nat.reduceBEq, reduceCtorEq, tupA, AV.port, AV.portL, exists_eq_left', ]; (first | exact AVle.of rfl | refine AVle.of ?_ | skip))
/-! ### The latest press -/
end Go.Proofs.Ytkpgpgaojjobgaa
