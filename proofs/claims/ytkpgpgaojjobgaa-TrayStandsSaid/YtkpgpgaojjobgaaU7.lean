/-
  Contracts of the layer's functions, of the laws' helpers and of the law; conditions: as each theorem states.
-/
import Derived.Test.YtkpgpgaojjobgaaU6
import Derived.Test.YtkpgpgaojjobgaaU5
set_option linter.unusedVariables false
set_option linter.unusedSimpArgs false
/-
  The specification's events say what the carriage does: plain.
-/
namespace Go.Proofs.Ytkpgpgaojjobgaa
open Go Go.V

/-! ### Where it stands -/
/-- Place, way and side. -/
abbrev Tri := Int × Int × Int
def triE (e : Ev) : Tri := (e.at_, e.way, max (-1) e.side)
def triS (s : Sp) : Tri := (s.at_, s.way, s.side)
def standStep (x : Int) (o : Tri) (e : Ev) : Tri := if e.from_ ≤ x then triE e else o
def standE (x : Int) (o : Tri) (l : List Ev) : Tri := l.foldl (standStep x) o
theorem standE_app (x : Int) (o : Tri) (a b : List Ev) : standE x o (a ++ b) = standE x (standE x o a) b := by unfold standE; rw [List.foldl_append]
theorem standE_late {x : Int} : ∀ (l : List Ev) (o : Tri), (∀ e ∈ l, x < e.from_) → standE x o l = o
  | [], o, _ => rfl
  | e :: l, o, h => by
    have h1 := h e (by simp)
    show standE x (standStep x o e) l = o
    rw [show standStep x o e = o by unfold standStep; rw [if_neg (by omega)]]
    exact standE_late l o fun e he => h e (by simp [he])
theorem emit_from {t : Tray} (ht : TrayOk t) {s : Cs} (hs : CsOk t s) : ∀ e ∈ emit1 t s, s.now ≤ e.from_ := by
  intro e he
  unfold emit1 at he
  split at he
  · simp only [List.mem_singleton] at he; subst he; exact Int.le_refl _
  · rcases List.mem_append.1 he with he | he
    · unfold playE at he
      split at he
      · simp only [List.mem_singleton] at he; subst he; exact Int.le_refl _
      · cases he
    · unfold goE at he
      split at he
      · simp only [List.mem_singleton] at he; subst he; exact (play_now ht hs).1
      · cases he
theorem evR_from {t : Tray} (ht : TrayOk t) : ∀ (k : Nat) (s : Cs), CsOk t s → ∀ e ∈ evR t k s, s.now ≤ e.from_
  | 0, s, _, e, h => by cases h
  | k + 1, s, hs, e, h => by
    cases hact : s.act t with
    | none => rw [evR_none hact] at h; exact emit_from ht hs.press e h
    | some s' =>
      rw [evR_some hact] at h
      rcases List.mem_append.1 h with h | h
      · exact emit_from ht hs.press e h
      · have h1 := evR_from ht k s' (act_ok ht hs hact) e h
        have h2 := (adds_act1 ht hs.press (pressed_press hs) (show s.press.act1 t = some s' from hact)).now
        have h2 : s.now ≤ s'.now := h2
        omega
theorem standG_app' {x : Int} {a : List Sp} (h : ∀ e ∈ a, x < e.from_) : ∀ (l : List Sp) (o : Sp), standG x o (l ++ a) = standG x o l
  | [], o => by
    cases a with
    | nil => rfl
    | cons e a => simp only [List.nil_append, standG]; rw [if_pos (h e (by simp))]
  | s :: l, o => by
    simp only [List.cons_append, standG]
    split
    · rfl
    · exact standG_app' h l s
theorem iter_stand {t : Tray} (ht : TrayOk t) {x : Int} (hx : 0 ≤ x) : ∀ (k : Nat) (s : Cs), CsOk t s → mu t s < k → Stands t s → s.now ≤ x → ∀ (o1 : Tri) (o2 : Sp), standE x o1 (evR t k s) = triS (standG x o2 (iter t k s).spells)
  | 0, s, _, h, _, _, _, _ => by omega
  | k + 1, s, hs, hm, hst, hnow, o1, o2 => by
    have hstp : Stands t s.press := ⟨hst.inv.press ht hs, hst.le, fun o x hx => ⟨(hst.shows o x hx).at_, (hst.shows o x hx).before, (hst.shows o x hx).now⟩⟩
    have hsh := (hstp.shows o2 x hx).now hnow
    have htri : triS (standG x o2 s.press.spells) = ((s.press.at_ : Int), wayI s.press.up, -1) := by
      unfold triS; rw [hsh.1, hsh.2.1, hsh.2.2]
    cases hact : s.act t with
    | none =>
      rw [evR_none hact]
      simp only [iter, hact]
      have h1 : s.press.act1 t = none := hact
      obtain ⟨_, hp⟩ := act1_none h1
      have he : emit1 t s.press = [⟨s.press.now, nextT s.press, s.press.at_, wayI s.press.up, -2⟩] := by unfold emit1; rw [if_pos hp]
      rw [he, htri]
      show standStep x o1 _ = _
      unfold standStep
      rw [if_pos (show s.press.now ≤ x from hnow)]
      rfl
    | some s' =>
      have hs' := act_ok ht hs hact
      have hmu := act_mu hs hact
      have hst' := hstp.act1 ht hs.press (pressed_press hs) (show s.press.act1 t = some s' from hact)
      rw [evR_some hact, standE_app]
      simp only [iter, hact]
      by_cases hxn : s'.now ≤ x
      · exact iter_stand ht hx k s' hs' (by omega) hst' hxn _ o2
      · have hl1 : ∀ e ∈ evR t k s', x < e.from_ := fun e he => by have := evR_from ht k s' hs' e he; omega
        rw [standE_late _ _ hl1]
        obtain ⟨a, ha, ha2⟩ := (adds_iter ht k s' hs').sp
        rw [ha, standG_app' fun e he => by have := ha2 e he; omega]
        rcases act1_cases (show s.press.act1 t = some s' from hact) with ⟨p, q, hq, hp, rfl⟩ | ⟨hp, rfl⟩
        · have he : emit1 t s.press = [⟨s.press.now, nextT s.press, s.press.at_, wayI s.press.up, -2⟩] := by unfold emit1; rw [if_pos hp]
          rw [he]
          show standStep x o1 _ = triS (standG x o2 s.press.spells)
          rw [htri]
          unfold standStep
          rw [if_pos (show s.press.now ≤ x from hnow)]
          rfl
        · have he : emit1 t s.press = playE t s.press ++ goE t (s.press.play t) := by unfold emit1; rw [if_neg (by rw [hp]; simp)]
          have hpos := pos_lt hs.press
          have hsec := secs_ok ht hpos
          obtain ⟨m1, m2, m3, m4, m5⟩ := move_q t (s.press.play t)
          have hmn : ((s.press.play t).next t).now = (s.press.play t).now + if moves t (s.press.play t) then t.step else 0 := by
            unfold moves Cs.next Cs.move Cs.mark
            cases (s.press.play t).up
            · by_cases h : 0 < (s.press.play t).at_ <;> simp [h]
            · by_cases h : (s.press.play t).at_ + 1 < t.n <;> simp [h]
          have esn : ((s.press.play t).next t).spells = (s.press.play t).spells ++ [⟨(((s.press.play t).move t).at_ : Int), wayI ((s.press.play t).move t).up, -1, ((s.press.play t).next t).now⟩] := by
            show ((s.press.play t).move t).spells ++ _ = _
            rw [m4]; rfl
          rw [esn, standG_later (by simp only; omega), he, standE_app]
          have hpa : (s.press.play t).at_ = s.press.at_ := (play_pins t s.press).2.2.1
          have hpu : (s.press.play t).up = s.press.up := (play_pins t s.press).2.2.2
          by_cases hpin : s.press.pins.getD s.press.pos false = true
          · have hpn : (s.press.play t).now = s.press.now + secs t s.press.pos := (play_yes (t := t) hpin).2.2.2.1
            have ep : s.press.play t = (s.press.play1).play2 t := by unfold Cs.play; rw [if_pos hpin]
            have es : (s.press.play t).spells = s.press.spells ++ [⟨s.press.at_, wayI s.press.up, s.press.pos, s.press.now⟩] ++ [⟨s.press.at_, wayI s.press.up, -1, s.press.now + secs t s.press.pos⟩] := by rw [ep]; rfl
            have hpe : playE t s.press = [⟨s.press.now, s.press.now + secs t s.press.pos, s.press.at_, wayI s.press.up, s.press.pos⟩] := by unfold playE; rw [if_pos hpin]
            have h1 : standE x o1 (playE t s.press) = ((s.press.at_ : Int), wayI s.press.up, (s.press.pos : Int)) := by
              rw [hpe]
              show standStep x o1 _ = _
              unfold standStep
              rw [if_pos (show s.press.now ≤ x from hnow)]
              unfold triE
              rw [Int.max_eq_right (by simp only; omega)]
            rw [h1, es]
            have hle : ∀ e ∈ s.press.spells, e.from_ ≤ x := fun e he => by have := hstp.le e he; have hnow : s.press.now ≤ x := hnow; omega
            by_cases hx2 : x < s.press.now + secs t s.press.pos
            · rw [standG_later (by exact hx2), standG_now (show s.press.now ≤ x from hnow) _ _ hle]
              have hg : standE x ((s.press.at_ : Int), wayI s.press.up, (s.press.pos : Int)) (goE t (s.press.play t)) = ((s.press.at_ : Int), wayI s.press.up, (s.press.pos : Int)) := by
                refine standE_late _ _ fun e he => ?_
                unfold goE at he
                split at he
                · simp only [List.mem_singleton] at he; subst he; simp only; omega
                · cases he
              rw [hg]; rfl
            · rw [standG_now (by simp only; omega) _ _ fun e he => by
                rcases List.mem_append.1 he with he | he
                · exact hle e he
                · simp only [List.mem_singleton] at he; subst he; exact hnow]
              cases hmv : moves t (s.press.play t) with
              | false =>
                rw [hmv] at hmn
                simp only [Bool.false_eq_true, if_false] at hmn
                omega
              | true =>
                have hge : goE t (s.press.play t) = [⟨(s.press.play t).now, (s.press.play t).now + t.step, (s.press.play t).at_, wayI (s.press.play t).up, -1⟩] := by unfold goE; rw [hmv]; rfl
                rw [hge]
                show standStep x _ _ = _
                unfold standStep
                rw [if_pos (by simp only; omega)]
                unfold triE triS
                rw [hpa, hpu]
                rfl
          · have ep := play_no (t := t) hpin
            rw [ep] at hmn hxn ⊢
            have hpe : playE t s.press = [] := by unfold playE; rw [if_neg hpin]
            rw [hpe, htri]
            cases hmv : moves t s.press with
            | false =>
              rw [hmv] at hmn
              simp only [Bool.false_eq_true, if_false] at hmn
              have hnow : s.press.now ≤ x := hnow
              omega
            | true =>
              have hge : goE t s.press = [⟨s.press.now, s.press.now + t.step, s.press.at_, wayI s.press.up, -1⟩] := by unfold goE; rw [hmv]; rfl
              rw [hge]
              show standStep x _ _ = _
              unfold standStep
              rw [if_pos (show s.press.now ≤ x from hnow)]
              rfl
/-- Where it stands at a time. -/
theorem ev_stand {t : Tray} (ht : TrayOk t) {x : Int} (hx : 0 ≤ x) (o : Tri) : standE x o (evS t) = triS (standV t x) := by
  have hmu := start_mu ht (q := sortT t.pres) (by rw [sortT_len]; exact ht.p13)
  have h0 := start_ok ht (sortT_perm t.pres) (sortT_sorted t.pres)
  have hst : Stands t ((start t (sortT t.pres)).mark (-1)) := by
    refine ⟨Inv.start (sortT_perm t.pres), fun e he => ?_, fun o x hx => ?_⟩
    · have he : e ∈ [(⟨t.at_.toNat, wayI (t.way == 1), -1, 0⟩ : Sp)] := he
      simp only [List.mem_singleton] at he
      subst he; exact Int.le_refl _
    · have es : ((start t (sortT t.pres)).mark (-1)).spells = [⟨t.at_.toNat, wayI (t.way == 1), -1, 0⟩] := rfl
      have hat := ht.at_
      rw [es]
      have : standG x o [(⟨t.at_.toNat, wayI (t.way == 1), -1, 0⟩ : Sp)] = ⟨t.at_.toNat, wayI (t.way == 1), -1, 0⟩ := by simp only [standG]; rw [if_neg (by omega)]
      rw [this]
      exact ⟨⟨t.at_.toNat, t.way == 1, by omega, rfl, rfl, .inl rfl⟩, fun hc => by have : x < 0 := hc; omega, fun _ => ⟨rfl, rfl, rfl⟩⟩
  exact iter_stand ht hx 250 _ h0 (by omega) hst (by show (0 : Int) ≤ x; exact hx) o _
end Go.Proofs.Ytkpgpgaojjobgaa

namespace Go.Proofs.Ytkpgpgaojjobgaa
open Go Go.V
@[reducible] def o29_0 : List Ins := [⟨(some 2), .box 5 (.t 0), none, true⟩,
  ⟨(some 4), .alloc [(.c (.int .i64 0)), (.c (.int .i64 0)), (.c (.int .i64 0))], none, true⟩,
  ⟨(some 5), .mv (.k (.c (.int .i64 0))), none, true⟩]
@[reducible] def o29_1 : List Ins := [⟨(some 10), .ld false 5 (.t 2), none, true⟩,
  ⟨(some 11), .call (.k (.fn 41 [])) [(.t 10)], none, true⟩,
  ⟨(some 6), .mv (.t 11), none, true⟩]
@[reducible] def o29_2 : List Ins := [⟨(some 12), .mv (.t 6), none, true⟩,
  ⟨(some 13), .bin .neq (.t 12) (.k (.c (.int .i64 0))), none, true⟩]
@[reducible] def o29_3 : List Ins := [⟨(some 14), .bld [(.c (.int .i64 0)), (.c (.int .i64 0)), (.c (.int .i64 0))] [], none, true⟩,
  ⟨(some 15), .mv (.t 6), none, true⟩,
  ⟨none, .st 3 (.t 4) (.t 14), none, true⟩,
  ⟨(some 5), .mv (.t 15), none, true⟩]
@[reducible] def v29_4 : VC := (.seq (.ops o29_3) .ret)
@[reducible] def v29_5 : VC := (.cond (.t 13) v29_4 .skip)
@[reducible] def v29_6 : VC := (.seq (.ops o29_2) v29_5)
@[reducible] def o29_7 : List Ins := [⟨(some 16), .mv (.t 1), none, true⟩,
  ⟨(some 17), .call (.k (.fn 18 [])) [(.t 16)], none, true⟩,
  ⟨(some 18), .un .not (.t 17), none, true⟩]
@[reducible] def o29_8 : List Ins := [⟨(some 19), .bld [(.c (.int .i64 0)), (.c (.int .i64 0)), (.c (.int .i64 0))] [], none, true⟩,
  ⟨none, .st 3 (.t 4) (.t 19), none, true⟩,
  ⟨(some 5), .mv (.k (.c (.int .i64 1))), none, true⟩]
@[reducible] def v29_9 : VC := (.seq (.ops o29_8) .ret)
@[reducible] def v29_10 : VC := (.cond (.t 18) v29_9 .skip)
@[reducible] def o29_11 : List Ins := [⟨(some 7), .alloc [(.c (.int .i64 0)), (.c (.int .i64 0)), (.c (.int .i64 0))], none, true⟩]
@[reducible] def o29_12 : List Ins := [⟨(some 20), .ld false 5 (.t 2), none, true⟩,
  ⟨(some 21), .call (.k (.fn 59 [])) [(.t 20)], none, true⟩,
  ⟨(some 8), .mv (.t 21), none, true⟩]
@[reducible] def o29_13 : List Ins := [⟨(some 9), .mv (.k (.c (.int .i64 0))), none, true⟩]
@[reducible] def o29_14 : List Ins := [⟨(some 22), .mv (.t 9), none, true⟩,
  ⟨(some 23), .mv (.t 8), none, true⟩,
  ⟨(some 24), .len (.t 23), none, true⟩,
  ⟨(some 25), .bin .lss (.t 22) (.t 24), none, true⟩]
@[reducible] def v29_15 : VC := (.cond (.t 25) .skip (.exit 0))
@[reducible] def o29_16 : List Ins := [⟨(some 28), .mv (.t 8), none, true⟩,
  ⟨(some 29), .mv (.t 9), none, true⟩,
  ⟨(some 30), .ia 5 (.t 28) (.t 29), none, true⟩,
  ⟨(some 31), .fa 0 (.t 30), none, true⟩,
  ⟨(some 32), .ld true 1 (.t 31), none, true⟩,
  ⟨(some 33), .mv (.t 1), none, true⟩,
  ⟨(some 34), .bin .leq (.t 32) (.t 33), none, true⟩]
@[reducible] def o29_17 : List Ins := [⟨(some 35), .mv (.t 8), none, false⟩,
  ⟨(some 36), .mv (.t 9), none, false⟩,
  ⟨(some 37), .ia 5 (.t 35) (.t 36), none, false⟩,
  ⟨(some 38), .fa 2 (.t 37), none, false⟩,
  ⟨(some 39), .ld true 1 (.t 38), none, false⟩,
  ⟨(some 40), .mv (.t 8), none, false⟩,
  ⟨(some 41), .mv (.t 9), none, false⟩,
  ⟨(some 42), .ia 5 (.t 40) (.t 41), none, false⟩,
  ⟨(some 43), .fa 3 (.t 42), none, false⟩,
  ⟨(some 44), .ld true 1 (.t 43), none, false⟩,
  ⟨(some 45), .mv (.t 8), none, false⟩,
  ⟨(some 46), .mv (.t 9), none, false⟩,
  ⟨(some 47), .ia 5 (.t 45) (.t 46), none, false⟩,
  ⟨(some 48), .fa 4 (.t 47), none, false⟩,
  ⟨(some 49), .ld true 1 (.t 48), none, false⟩,
  ⟨(some 50), .mm true (.k (.c (.int .i64 (-1)))) (.t 49), none, false⟩,
  ⟨(some 51), .bld [(.c (.int .i64 0)), (.c (.int .i64 0)), (.c (.int .i64 0))] [(0, 1, (.t 39)), (1, 1, (.t 44)), (2, 1, (.t 50))], none, true⟩,
  ⟨none, .st 3 (.t 7) (.t 51), none, true⟩]
@[reducible] def v29_18 : VC := (.cond (.t 34) (.ops o29_17) .skip)
@[reducible] def v29_19 : VC := (.seq (.ops o29_16) v29_18)
@[reducible] def o29_20 : List Ins := [⟨(some 26), .mv (.t 9), none, true⟩,
  ⟨(some 27), .bin .add (.t 26) (.k (.c (.int .i64 1))), none, true⟩,
  ⟨(some 9), .mv (.t 27), none, true⟩]
@[reducible] def v29_21 : VC := (.seq (.block 1 v29_19) (.ops o29_20))
@[reducible] def v29_22 : VC := (.seq (.seq (.ops o29_14) v29_15) v29_21)
-- K29_1: changed and kept: [9]
@[reducible] def K29_1 : List Nat := [1, 4, 7, 8]
@[reducible] def v29_23 : VC := (.loop v29_22)
@[reducible] def v29_24 : VC := (.block 0 v29_23)
@[reducible] def o29_25 : List Ins := [⟨(some 52), .ld false 3 (.t 7), none, true⟩,
  ⟨none, .st 3 (.t 4) (.t 52), none, true⟩,
  ⟨(some 5), .mv (.k (.c (.int .i64 0))), none, true⟩]
@[reducible] def v29_26 : VC := (.seq (.ops o29_25) .ret)
@[reducible] def v29_27 : VC := (.seq (.seq (.ops o29_13) v29_24) v29_26)
@[reducible] def v29_28 : VC := (.seq (.ops o29_12) v29_27)
@[reducible] def v29_29 : VC := (.seq (.ops o29_11) v29_28)
@[reducible] def v29_30 : VC := (.seq (.seq (.ops o29_7) v29_10) v29_29)
@[reducible] def v29_31 : VC := (.seq (.seq (.ops o29_1) v29_6) v29_30)
def ir29 : FC := ⟨2, 53, [.cell 4 false 3, .t 5], (.seq (.ops o29_0) v29_31)⟩
theorem c29 : compM Try.prog [] 29 = some ir29 := by kernel_rfl



theorem emit_len (t : Tray) (s : Cs) : (emit1 t s).length ≤ 2 := by
  have h1 : (playE t s).length ≤ 1 := by unfold playE; split <;> simp
  have h2 : (goE t (s.play t)).length ≤ 1 := by unfold goE; split <;> simp
  unfold emit1
  split
  · simp
  · rw [List.length_append]; omega
theorem evR_len (t : Tray) : ∀ (k : Nat) (s : Cs), (evR t k s).length ≤ 2 * k
  | 0, s => Nat.le_refl _
  | k + 1, s => by
    have h1 := emit_len t s.press
    cases h : s.act t with
    | none => rw [evR_none h]; omega
    | some s' => rw [evR_some h, List.length_append]; have := evR_len t k s'; omega
theorem evS_len (t : Tray) : (evS t).length ≤ 500 := evR_len t 250 _
theorem standE_take {l : List Ev} {k : Nat} (h : k < l.length) (x : Int) (o : Tri) : standE x o (l.take (k + 1)) = standStep x (standE x o (l.take k)) l[k] := by
  rw [List.take_succ_eq_append_getElem h, standE_app]; rfl
theorem stand29 (t : Tray) (x : Int) : FSpec Try.prog 29 [t.av, iv x] (.tup [spAv (standR t x).1, iv (standR t x).2]) := by
  have hck := rcheck41 t
  have htm := ristime18 x
  unfold standR
  cases hok : t.ok
  · simp only [hok, Bool.false_eq_true, if_false] at hck ⊢
    refine FSpec_of c29 (Nat.le_refl _) (by decide) fun C hP hN hC hL => ?_
    simp only [ir29, Tray.av]
    (repeat ((first | refine WV_seq_ ?_ | refine WV_block ?_ | refine WV_ops ?_ | refine WV_skip ?_ | refine WV_exit ?_); (try simp only [go_sem, init_env', Nat.reduceEqDiff, Nat.reduceAdd, Nat.reduceMul, reduceIte, Nat.reduceLeDiff, Nat.reduceLT, Nat.reduceBEq, reduceCtorEq, hP, ]); (repeat (refine And.intro (by first | omega | (intros; simp_all; done) | (intros; simp_all; omega)) ?_))))
    (refine AS_pure (hck) rfl rfl rfl rfl rfl ?_; simp only [go_sem, init_env', Nat.reduceEqDiff, Nat.reduceAdd, Nat.reduceMul, reduceIte, Nat.reduceLeDiff, Nat.reduceLT, Nat.reduceBEq, reduceCtorEq, hP, Tray.av]; (repeat (refine And.intro (by first | omega | (intros; simp_all; done) | (intros; simp_all; omega)) ?_)); (repeat ((first | refine WV_seq_ ?_ | refine WV_block ?_ | refine WV_ops ?_ | refine WV_skip ?_ | refine WV_exit ?_); (try simp only [go_sem, init_env', Nat.reduceEqDiff, Nat.reduceAdd, Nat.reduceMul, reduceIte, Nat.reduceLeDiff, Nat.reduceLT, Nat.reduceBEq, reduceCtorEq, hP, Tray.av]); (repeat (refine And.intro (by first | omega | (intros; simp_all; done) | (intros; simp_all; omega)) ?_)))))
    (refine WV_cond rfl (fun h => ?_) (fun h => ?_))
    · (repeat ((first | refine WV_seq_ ?_ | refine WV_block ?_ | refine WV_ops ?_ | refine WV_skip ?_ | refine WV_exit ?_); (try simp only [go_sem, init_env', Nat.reduceEqDiff, Nat.reduceAdd, Nat.reduceMul, reduceIte, Nat.reduceLeDiff, Nat.reduceLT, Nat.reduceBEq, reduceCtorEq, hP, ]); (repeat (refine And.intro (by first | omega | (intros; simp_all; done) | (intros; simp_all; omega)) ?_))))
      (refine WV_ret ?_; simp only [thenQ, inQ, RetQ, RetOk, resAll, resA]; simp only [go_sem, init_env', Nat.reduceEqDiff, Nat.reduceAdd, Nat.reduceMul, reduceIte, Nat.reduceLeDiff, Nat.reduceLT, Nat.reduceBEq, reduceCtorEq, tupA, AV.port, AV.portL, exists_eq_left', ]; (first | exact AVle.of rfl | refine AVle.of ?_ | skip))
    · simp at h
  simp only [hok, if_true] at hck ⊢
  have ht := (Tray.ok_spec hok).1
  cases htt : isTime x
  · rw [htt] at htm
    simp only [Bool.false_eq_true, if_false]
    refine FSpec_of c29 (Nat.le_refl _) (by decide) fun C hP hN hC hL => ?_
    simp only [ir29, Tray.av]
    (repeat ((first | refine WV_seq_ ?_ | refine WV_block ?_ | refine WV_ops ?_ | refine WV_skip ?_ | refine WV_exit ?_); (try simp only [go_sem, init_env', Nat.reduceEqDiff, Nat.reduceAdd, Nat.reduceMul, reduceIte, Nat.reduceLeDiff, Nat.reduceLT, Nat.reduceBEq, reduceCtorEq, hP, ]); (repeat (refine And.intro (by first | omega | (intros; simp_all; done) | (intros; simp_all; omega)) ?_))))
    (refine AS_pure (hck) rfl rfl rfl rfl rfl ?_; simp only [go_sem, init_env', Nat.reduceEqDiff, Nat.reduceAdd, Nat.reduceMul, reduceIte, Nat.reduceLeDiff, Nat.reduceLT, Nat.reduceBEq, reduceCtorEq, hP, Tray.av]; (repeat (refine And.intro (by first | omega | (intros; simp_all; done) | (intros; simp_all; omega)) ?_)); (repeat ((first | refine WV_seq_ ?_ | refine WV_block ?_ | refine WV_ops ?_ | refine WV_skip ?_ | refine WV_exit ?_); (try simp only [go_sem, init_env', Nat.reduceEqDiff, Nat.reduceAdd, Nat.reduceMul, reduceIte, Nat.reduceLeDiff, Nat.reduceLT, Nat.reduceBEq, reduceCtorEq, hP, Tray.av]); (repeat (refine And.intro (by first | omega | (intros; simp_all; done) | (intros; simp_all; omega)) ?_)))))
    (refine WV_cond rfl (fun h => ?_) (fun h => ?_))
    · simp at h
    (repeat ((first | refine WV_seq_ ?_ | refine WV_block ?_ | refine WV_ops ?_ | refine WV_skip ?_ | refine WV_exit ?_); (try simp only [go_sem, init_env', Nat.reduceEqDiff, Nat.reduceAdd, Nat.reduceMul, reduceIte, Nat.reduceLeDiff, Nat.reduceLT, Nat.reduceBEq, reduceCtorEq, hP, ]); (repeat (refine And.intro (by first | omega | (intros; simp_all; done) | (intros; simp_all; omega)) ?_))))
    (refine AS_pure (htm) rfl rfl rfl rfl rfl ?_; simp only [go_sem, init_env', Nat.reduceEqDiff, Nat.reduceAdd, Nat.reduceMul, reduceIte, Nat.reduceLeDiff, Nat.reduceLT, Nat.reduceBEq, reduceCtorEq, hP, ]; (repeat (refine And.intro (by first | omega | (intros; simp_all; done) | (intros; simp_all; omega)) ?_)); (repeat ((first | refine WV_seq_ ?_ | refine WV_block ?_ | refine WV_ops ?_ | refine WV_skip ?_ | refine WV_exit ?_); (try simp only [go_sem, init_env', Nat.reduceEqDiff, Nat.reduceAdd, Nat.reduceMul, reduceIte, Nat.reduceLeDiff, Nat.reduceLT, Nat.reduceBEq, reduceCtorEq, hP, ]); (repeat (refine And.intro (by first | omega | (intros; simp_all; done) | (intros; simp_all; omega)) ?_)))))
    (refine WV_cond rfl (fun h => ?_) (fun h => ?_))
    · (repeat ((first | refine WV_seq_ ?_ | refine WV_block ?_ | refine WV_ops ?_ | refine WV_skip ?_ | refine WV_exit ?_); (try simp only [go_sem, init_env', Nat.reduceEqDiff, Nat.reduceAdd, Nat.reduceMul, reduceIte, Nat.reduceLeDiff, Nat.reduceLT, Nat.reduceBEq, reduceCtorEq, hP, ]); (repeat (refine And.intro (by first | omega | (intros; simp_all; done) | (intros; simp_all; omega)) ?_))))
      (refine WV_ret ?_; simp only [thenQ, inQ, RetQ, RetOk, resAll, resA]; simp only [go_sem, init_env', Nat.reduceEqDiff, Nat.reduceAdd, Nat.reduceMul, reduceIte, Nat.reduceLeDiff, Nat.reduceLT, Nat.reduceBEq, reduceCtorEq, tupA, AV.port, AV.portL, exists_eq_left', ]; (first | exact AVle.of rfl | refine AVle.of ?_ | skip))
    · simp at h
  rw [htt] at htm
  simp only [if_true]
  have hx : 0 ≤ x ∧ x ≤ 9999 := by simpa [isTime, within] using htt
  have hrun := run59 ht
  have hlen := evS_len t
  have hev := ev_stand ht hx.1 (0, 0, 0)
  have hsp : spAv (standV t x) = .agg [iv (triS (standV t x)).1, iv (triS (standV t x)).2.1, iv (triS (standV t x)).2.2] := rfl
  rw [hsp, ← hev]
  generalize evS t = E at *
  clear hsp hev
  refine FSpec_of c29 (Nat.le_refl _) (by decide) fun C hP hN hC hL => ?_
  simp only [ir29, Tray.av]
  (repeat ((first | refine WV_seq_ ?_ | refine WV_block ?_ | refine WV_ops ?_ | refine WV_skip ?_ | refine WV_exit ?_); (try simp only [go_sem, init_env', Nat.reduceEqDiff, Nat.reduceAdd, Nat.reduceMul, reduceIte, Nat.reduceLeDiff, Nat.reduceLT, Nat.reduceBEq, reduceCtorEq, hP, ]); (repeat (refine And.intro (by first | omega | (intros; simp_all; done) | (intros; simp_all; omega)) ?_))))
  (refine AS_pure (hck) rfl rfl rfl rfl rfl ?_; simp only [go_sem, init_env', Nat.reduceEqDiff, Nat.reduceAdd, Nat.reduceMul, reduceIte, Nat.reduceLeDiff, Nat.reduceLT, Nat.reduceBEq, reduceCtorEq, hP, Tray.av]; (repeat (refine And.intro (by first | omega | (intros; simp_all; done) | (intros; simp_all; omega)) ?_)); (repeat ((first | refine WV_seq_ ?_ | refine WV_block ?_ | refine WV_ops ?_ | refine WV_skip ?_ | refine WV_exit ?_); (try simp only [go_sem, init_env', Nat.reduceEqDiff, Nat.reduceAdd, Nat.reduceMul, reduceIte, Nat.reduceLeDiff, Nat.reduceLT, Nat.reduceBEq, reduceCtorEq, hP, Tray.av]); (repeat (refine And.intro (by first | omega | (intros; simp_all; done) | (intros; simp_all; omega)) ?_)))))
  (refine WV_cond rfl (fun h => ?_) (fun h => ?_))
  · simp at h
  (repeat ((first | refine WV_seq_ ?_ | refine WV_block ?_ | refine WV_ops ?_ | refine WV_skip ?_ | refine WV_exit ?_); (try simp only [go_sem, init_env', Nat.reduceEqDiff, Nat.reduceAdd, Nat.reduceMul, reduceIte, Nat.reduceLeDiff, Nat.reduceLT, Nat.reduceBEq, reduceCtorEq, hP, ]); (repeat (refine And.intro (by first | omega | (intros; simp_all; done) | (intros; simp_all; omega)) ?_))))
  (refine AS_pure (htm) rfl rfl rfl rfl rfl ?_; simp only [go_sem, init_env', Nat.reduceEqDiff, Nat.reduceAdd, Nat.reduceMul, reduceIte, Nat.reduceLeDiff, Nat.reduceLT, Nat.reduceBEq, reduceCtorEq, hP, ]; (repeat (refine And.intro (by first | omega | (intros; simp_all; done) | (intros; simp_all; omega)) ?_)); (repeat ((first | refine WV_seq_ ?_ | refine WV_block ?_ | refine WV_ops ?_ | refine WV_skip ?_ | refine WV_exit ?_); (try simp only [go_sem, init_env', Nat.reduceEqDiff, Nat.reduceAdd, Nat.reduceMul, reduceIte, Nat.reduceLeDiff, Nat.reduceLT, Nat.reduceBEq, reduceCtorEq, hP, ]); (repeat (refine And.intro (by first | omega | (intros; simp_all; done) | (intros; simp_all; omega)) ?_)))))
  (refine WV_cond rfl (fun h => ?_) (fun h => ?_))
  · simp at h
  (repeat ((first | refine WV_seq_ ?_ | refine WV_block ?_ | refine WV_ops ?_ | refine WV_skip ?_ | refine WV_exit ?_); (try simp only [go_sem, init_env', Nat.reduceEqDiff, Nat.reduceAdd, Nat.reduceMul, reduceIte, Nat.reduceLeDiff, Nat.reduceLT, Nat.reduceBEq, reduceCtorEq, hP, ]); (repeat (refine And.intro (by first | omega | (intros; simp_all; done) | (intros; simp_all; omega)) ?_))))
  (refine AS_pure (hrun) rfl rfl rfl rfl rfl ?_; simp only [go_sem, init_env', Nat.reduceEqDiff, Nat.reduceAdd, Nat.reduceMul, reduceIte, Nat.reduceLeDiff, Nat.reduceLT, Nat.reduceBEq, reduceCtorEq, hP, Tray.av]; (repeat (refine And.intro (by first | omega | (intros; simp_all; done) | (intros; simp_all; omega)) ?_)); (repeat ((first | refine WV_seq_ ?_ | refine WV_block ?_ | refine WV_ops ?_ | refine WV_skip ?_ | refine WV_exit ?_); (try simp only [go_sem, init_env', Nat.reduceEqDiff, Nat.reduceAdd, Nat.reduceMul, reduceIte, Nat.reduceLeDiff, Nat.reduceLT, Nat.reduceBEq, reduceCtorEq, hP, Tray.av]); (repeat (refine And.intro (by first | omega | (intros; simp_all; done) | (intros; simp_all; omega)) ?_)))))
  refine WV_loopK K29_1 [7] (fun k : Nat => k ≤ E.length) (fun k => E.length - k) (fun k => [(9, iv k)]) (fun k => [(7, .box [iv (standE x (0, 0, 0) (E.take k)).1, iv (standE x (0, 0, 0) (E.take k)).2.1, iv (standE x (0, 0, 0) (E.take k)).2.2])]) 0 (Nat.zero_le _) ?_ ?_
  · (refine Sub_of (by simp only [go_sem, init_env', Nat.reduceEqDiff, Nat.reduceAdd, Nat.reduceMul, reduceIte, Nat.reduceLeDiff, Nat.reduceLT, Nat.reduceBEq, reduceCtorEq]; ((repeat' (first | exact EnvLe_e0 _ _ | refine EnvLe_upd ?_ ?_)) <;> ((try simp only [upd_app, e0_app, o0_app, Nat.reduceEqDiff, reduceIte]); first | exact AWk.refl _ _ | exact AWk.int (by omega) | exact AWk.int (by rw [w64 (by omega) (by omega)]; omega) | exact AWk.grow rfl | exact AWk.nil _ | exact AWk.of (by simp)))) (by simp only [go_sem, init_env', Nat.reduceEqDiff, Nat.reduceAdd, Nat.reduceMul, reduceIte, Nat.reduceLeDiff, Nat.reduceLT, Nat.reduceBEq, reduceCtorEq]; (first | ((repeat' (first | exact ObjLe_o0 _ | exact ObjLe.rfl' _ | refine ObjLe_same ?_ | refine ObjLe_upd ?_ ?_ | refine ObjLe_new rfl ?_)) <;> rfl) | (refine ObjLe_X ?_; (repeat' (first | exact ObjLeX_o0 _ _ | refine ObjLeX_skip rfl ?_ | refine ObjLeX_upd ?_ ?_)) <;> rfl))))
  intro k hk
  simp only [go_sem, init_env', Nat.reduceEqDiff, Nat.reduceAdd, Nat.reduceMul, reduceIte, Nat.reduceLeDiff, Nat.reduceLT, Nat.reduceBEq, reduceCtorEq]
  (repeat ((first | refine WV_seq_ ?_ | refine WV_block ?_ | refine WV_ops ?_ | refine WV_skip ?_ | refine WV_exit ?_); (try simp only [go_sem, init_env', Nat.reduceEqDiff, Nat.reduceAdd, Nat.reduceMul, reduceIte, Nat.reduceLeDiff, Nat.reduceLT, Nat.reduceBEq, reduceCtorEq, hP, evsC, List.length_map]); (repeat (refine And.intro (by first | omega | (intros; simp_all; done) | (intros; simp_all; omega)) ?_))))
  (refine WV_cond rfl (fun h => ?_) (fun h => ?_))
  · have hkl : k < E.length := by simpa using h
    have hI : (k : Int) < (E.length : Int) := by omega
    have hw2 := w64 (n := (k : Int) + 1) (by omega) (by omega)
    have hst := standE_take hkl x (0, 0, 0)
    have g1 : (E.map Ev.cds).getD k [] = _ := map_getD hkl
    simp only [Ev.cds] at g1
    unfold standStep triE at hst
    generalize E[k] = e at *
    generalize standE x (0, 0, 0) (E.take k) = n at *
    (repeat ((first | refine WV_seq_ ?_ | refine WV_block ?_ | refine WV_ops ?_ | refine WV_skip ?_ | refine WV_exit ?_); (try simp only [go_sem, init_env', Nat.reduceEqDiff, Nat.reduceAdd, Nat.reduceMul, reduceIte, Nat.reduceLeDiff, Nat.reduceLT, Nat.reduceBEq, reduceCtorEq, hP, evsC, g1, hI, List.length_map, Int.natCast_nonneg]); (repeat (refine And.intro (by first | omega | (intros; simp_all; done) | (intros; simp_all; omega)) ?_))))
    by_cases hc : e.from_ ≤ x
    · rw [if_pos hc] at hst
      rw [decide_eq_true hc]
      (refine WV_cond rfl (fun h => ?_) (fun h => ?_))
      · (repeat ((first | refine WV_seq_ ?_ | refine WV_block ?_ | refine WV_ops ?_ | refine WV_skip ?_ | refine WV_exit ?_); (try simp only [go_sem, init_env', Nat.reduceEqDiff, Nat.reduceAdd, Nat.reduceMul, reduceIte, Nat.reduceLeDiff, Nat.reduceLT, Nat.reduceBEq, reduceCtorEq, hP, evsC, g1, hI, List.length_map, Int.natCast_nonneg, hw2]); (repeat (refine And.intro (by first | omega | (intros; simp_all; done) | (intros; simp_all; omega)) ?_))))
        refine ⟨k + 1, by omega, by omega, ?_⟩
        rw [hst]
        (refine Sub_of (by simp only [go_sem, init_env', Nat.reduceEqDiff, Nat.reduceAdd, Nat.reduceMul, reduceIte, Nat.reduceLeDiff, Nat.reduceLT, Nat.reduceBEq, reduceCtorEq]; ((repeat' (first | exact EnvLe_e0 _ _ | refine EnvLe_upd ?_ ?_)) <;> ((try simp only [upd_app, e0_app, o0_app, Nat.reduceEqDiff, reduceIte]); first | exact AWk.refl _ _ | exact AWk.int (by omega) | exact AWk.int (by rw [w64 (by omega) (by omega)]; omega) | exact AWk.grow rfl | exact AWk.nil _ | exact AWk.of (by simp)))) (by simp only [go_sem, init_env', Nat.reduceEqDiff, Nat.reduceAdd, Nat.reduceMul, reduceIte, Nat.reduceLeDiff, Nat.reduceLT, Nat.reduceBEq, reduceCtorEq]; (first | ((repeat' (first | exact ObjLe_o0 _ | exact ObjLe.rfl' _ | refine ObjLe_same ?_ | refine ObjLe_upd ?_ ?_ | refine ObjLe_new rfl ?_)) <;> rfl) | (refine ObjLe_X ?_; (repeat' (first | exact ObjLeX_o0 _ _ | refine ObjLeX_skip rfl ?_ | refine ObjLeX_upd ?_ ?_)) <;> rfl))))
      · simp at h
    · rw [if_neg hc] at hst
      rw [decide_eq_false hc]
      (refine WV_cond rfl (fun h => ?_) (fun h => ?_))
      · simp at h
      · (repeat ((first | refine WV_seq_ ?_ | refine WV_block ?_ | refine WV_ops ?_ | refine WV_skip ?_ | refine WV_exit ?_); (try simp only [go_sem, init_env', Nat.reduceEqDiff, Nat.reduceAdd, Nat.reduceMul, reduceIte, Nat.reduceLeDiff, Nat.reduceLT, Nat.reduceBEq, reduceCtorEq, hP, hw2]); (repeat (refine And.intro (by first | omega | (intros; simp_all; done) | (intros; simp_all; omega)) ?_))))
        refine ⟨k + 1, by omega, by omega, ?_⟩
        rw [hst]
        (refine Sub_of (by simp only [go_sem, init_env', Nat.reduceEqDiff, Nat.reduceAdd, Nat.reduceMul, reduceIte, Nat.reduceLeDiff, Nat.reduceLT, Nat.reduceBEq, reduceCtorEq]; ((repeat' (first | exact EnvLe_e0 _ _ | refine EnvLe_upd ?_ ?_)) <;> ((try simp only [upd_app, e0_app, o0_app, Nat.reduceEqDiff, reduceIte]); first | exact AWk.refl _ _ | exact AWk.int (by omega) | exact AWk.int (by rw [w64 (by omega) (by omega)]; omega) | exact AWk.grow rfl | exact AWk.nil _ | exact AWk.of (by simp)))) (by simp only [go_sem, init_env', Nat.reduceEqDiff, Nat.reduceAdd, Nat.reduceMul, reduceIte, Nat.reduceLeDiff, Nat.reduceLT, Nat.reduceBEq, reduceCtorEq]; (first | ((repeat' (first | exact ObjLe_o0 _ | exact ObjLe.rfl' _ | refine ObjLe_same ?_ | refine ObjLe_upd ?_ ?_ | refine ObjLe_new rfl ?_)) <;> rfl) | (refine ObjLe_X ?_; (repeat' (first | exact ObjLeX_o0 _ _ | refine ObjLeX_skip rfl ?_ | refine ObjLeX_upd ?_ ?_)) <;> rfl))))
  · have h : k = E.length := by simp at h; omega
    subst h
    rw [List.take_length]
    (refine WV_exit ?_; simp only [go_sem, init_env', Nat.reduceEqDiff, Nat.reduceAdd, Nat.reduceMul, reduceIte, Nat.reduceLeDiff, Nat.reduceLT, Nat.reduceBEq, reduceCtorEq])
    (repeat ((first | refine WV_seq_ ?_ | refine WV_block ?_ | refine WV_ops ?_ | refine WV_skip ?_ | refine WV_exit ?_); (try simp only [go_sem, init_env', Nat.reduceEqDiff, Nat.reduceAdd, Nat.reduceMul, reduceIte, Nat.reduceLeDiff, Nat.reduceLT, Nat.reduceBEq, reduceCtorEq, hP, ]); (repeat (refine And.intro (by first | omega | (intros; simp_all; done) | (intros; simp_all; omega)) ?_))))
    (refine WV_ret ?_; simp only [thenQ, inQ, RetQ, RetOk, resAll, resA]; simp only [go_sem, init_env', Nat.reduceEqDiff, Nat.reduceAdd, Nat.reduceMul, reduceIte, Nat.reduceLeDiff, Nat.reduceLT, Nat.reduceBEq, reduceCtorEq, tupA, AV.port, AV.portL, exists_eq_left', ]; (first | exact AVle.of rfl | refine AVle.of ?_ | skip))
end Go.Proofs.Ytkpgpgaojjobgaa

namespace Go.Proofs.Ytkpgpgaojjobgaa
open Go Go.V
@[reducible] def o30_0 : List Ins := [⟨(some 2), .box 5 (.t 0), none, true⟩,
  ⟨(some 3), .box 5 (.t 1), none, true⟩,
  ⟨(some 4), .mv (.k (.c (.bool false))), none, true⟩]
@[reducible] def o30_1 : List Ins := [⟨(some 7), .fa 1 (.t 2), none, true⟩,
  ⟨(some 8), .ld true 1 (.t 7), none, true⟩,
  ⟨(some 9), .fa 1 (.t 3), none, true⟩,
  ⟨(some 10), .ld true 1 (.t 9), none, true⟩,
  ⟨(some 11), .bin .neq (.t 8) (.t 10), none, true⟩,
  ⟨(some 12), .mv (.t 11), none, true⟩,
  ⟨(some 13), .fa 2 (.t 2), (some (12, false)), true⟩,
  ⟨(some 14), .ld true 1 (.t 13), (some (12, false)), true⟩,
  ⟨(some 15), .fa 2 (.t 3), (some (12, false)), true⟩,
  ⟨(some 16), .ld true 1 (.t 15), (some (12, false)), true⟩,
  ⟨(some 17), .bin .neq (.t 14) (.t 16), (some (12, false)), true⟩,
  ⟨(some 18), .pick (.t 12) (.k (.c (.bool true))) (.t 17), none, true⟩,
  ⟨(some 19), .mv (.t 18), none, true⟩,
  ⟨(some 20), .fa 3 (.t 2), (some (19, false)), true⟩,
  ⟨(some 21), .ld true 1 (.t 20), (some (19, false)), true⟩,
  ⟨(some 22), .fa 3 (.t 3), (some (19, false)), true⟩,
  ⟨(some 23), .ld true 1 (.t 22), (some (19, false)), true⟩,
  ⟨(some 24), .bin .neq (.t 21) (.t 23), (some (19, false)), true⟩,
  ⟨(some 25), .pick (.t 19) (.k (.c (.bool true))) (.t 24), none, true⟩,
  ⟨(some 26), .mv (.t 25), none, true⟩,
  ⟨(some 27), .fa 0 (.t 2), (some (26, false)), true⟩,
  ⟨(some 28), .ld true 1 (.t 27), (some (26, false)), true⟩,
  ⟨(some 29), .len (.t 28), (some (26, false)), true⟩,
  ⟨(some 30), .fa 0 (.t 3), (some (26, false)), true⟩,
  ⟨(some 31), .ld true 1 (.t 30), (some (26, false)), true⟩,
  ⟨(some 32), .len (.t 31), (some (26, false)), true⟩,
  ⟨(some 33), .bin .neq (.t 29) (.t 32), (some (26, false)), true⟩,
  ⟨(some 34), .pick (.t 26) (.k (.c (.bool true))) (.t 33), none, true⟩,
  ⟨(some 35), .mv (.t 34), none, true⟩,
  ⟨(some 36), .fa 4 (.t 2), (some (35, false)), true⟩,
  ⟨(some 37), .ld true 1 (.t 36), (some (35, false)), true⟩,
  ⟨(some 38), .len (.t 37), (some (35, false)), true⟩,
  ⟨(some 39), .fa 4 (.t 3), (some (35, false)), true⟩,
  ⟨(some 40), .ld true 1 (.t 39), (some (35, false)), true⟩,
  ⟨(some 41), .len (.t 40), (some (35, false)), true⟩,
  ⟨(some 42), .bin .neq (.t 38) (.t 41), (some (35, false)), true⟩,
  ⟨(some 43), .pick (.t 35) (.k (.c (.bool true))) (.t 42), none, true⟩]
@[reducible] def o30_2 : List Ins := [⟨(some 4), .mv (.k (.c (.bool false))), none, true⟩]
@[reducible] def v30_3 : VC := (.seq (.ops o30_2) .ret)
@[reducible] def v30_4 : VC := (.cond (.t 43) v30_3 .skip)
@[reducible] def o30_5 : List Ins := [⟨(some 5), .mv (.k (.c (.int .i64 0))), none, true⟩]
@[reducible] def o30_6 : List Ins := [⟨(some 44), .mv (.t 5), none, true⟩,
  ⟨(some 45), .fa 0 (.t 2), none, true⟩,
  ⟨(some 46), .ld true 1 (.t 45), none, true⟩,
  ⟨(some 47), .len (.t 46), none, true⟩,
  ⟨(some 48), .bin .lss (.t 44) (.t 47), none, true⟩]
@[reducible] def v30_7 : VC := (.cond (.t 48) .skip (.exit 0))
@[reducible] def o30_8 : List Ins := [⟨(some 51), .fa 0 (.t 2), none, false⟩,
  ⟨(some 52), .ld true 1 (.t 51), none, false⟩,
  ⟨(some 53), .mv (.t 5), none, false⟩,
  ⟨(some 54), .ia 2 (.t 52) (.t 53), none, false⟩,
  ⟨(some 55), .ld false 2 (.t 54), none, false⟩,
  ⟨(some 56), .fa 0 (.t 3), none, false⟩,
  ⟨(some 57), .ld true 1 (.t 56), none, false⟩,
  ⟨(some 58), .mv (.t 5), none, false⟩,
  ⟨(some 59), .ia 2 (.t 57) (.t 58), none, false⟩,
  ⟨(some 60), .ld false 2 (.t 59), none, false⟩,
  ⟨(some 61), .seq true [(0, true), (1, true)] (.t 55) (.t 60), none, true⟩]
@[reducible] def o30_9 : List Ins := [⟨(some 4), .mv (.k (.c (.bool false))), none, true⟩]
@[reducible] def v30_10 : VC := (.seq (.ops o30_9) .ret)
@[reducible] def v30_11 : VC := (.cond (.t 61) v30_10 .skip)
@[reducible] def v30_12 : VC := (.seq (.ops o30_8) v30_11)
@[reducible] def o30_13 : List Ins := [⟨(some 49), .mv (.t 5), none, true⟩,
  ⟨(some 50), .bin .add (.t 49) (.k (.c (.int .i64 1))), none, true⟩,
  ⟨(some 5), .mv (.t 50), none, true⟩]
@[reducible] def v30_14 : VC := (.seq (.block 1 v30_12) (.ops o30_13))
@[reducible] def v30_15 : VC := (.seq (.seq (.ops o30_6) v30_7) v30_14)
-- K30_1: changed and kept: [5]
@[reducible] def K30_1 : List Nat := [2, 3]
@[reducible] def v30_16 : VC := (.loop v30_15)
@[reducible] def v30_17 : VC := (.block 0 v30_16)
@[reducible] def o30_18 : List Ins := [⟨(some 6), .mv (.k (.c (.int .i64 0))), none, true⟩]
@[reducible] def o30_19 : List Ins := [⟨(some 62), .mv (.t 6), none, true⟩,
  ⟨(some 63), .fa 4 (.t 2), none, true⟩,
  ⟨(some 64), .ld true 1 (.t 63), none, true⟩,
  ⟨(some 65), .len (.t 64), none, true⟩,
  ⟨(some 66), .bin .lss (.t 62) (.t 65), none, true⟩]
@[reducible] def v30_20 : VC := (.cond (.t 66) .skip (.exit 2))
@[reducible] def o30_21 : List Ins := [⟨(some 69), .fa 4 (.t 2), none, false⟩,
  ⟨(some 70), .ld true 1 (.t 69), none, false⟩,
  ⟨(some 71), .mv (.t 6), none, false⟩,
  ⟨(some 72), .ia 2 (.t 70) (.t 71), none, false⟩,
  ⟨(some 73), .ld false 2 (.t 72), none, false⟩,
  ⟨(some 74), .fa 4 (.t 3), none, false⟩,
  ⟨(some 75), .ld true 1 (.t 74), none, false⟩,
  ⟨(some 76), .mv (.t 6), none, false⟩,
  ⟨(some 77), .ia 2 (.t 75) (.t 76), none, false⟩,
  ⟨(some 78), .ld false 2 (.t 77), none, false⟩,
  ⟨(some 79), .seq true [(0, true), (1, true)] (.t 73) (.t 78), none, true⟩]
@[reducible] def o30_22 : List Ins := [⟨(some 4), .mv (.k (.c (.bool false))), none, true⟩]
@[reducible] def v30_23 : VC := (.seq (.ops o30_22) .ret)
@[reducible] def v30_24 : VC := (.cond (.t 79) v30_23 .skip)
@[reducible] def v30_25 : VC := (.seq (.ops o30_21) v30_24)
@[reducible] def o30_26 : List Ins := [⟨(some 67), .mv (.t 6), none, true⟩,
  ⟨(some 68), .bin .add (.t 67) (.k (.c (.int .i64 1))), none, true⟩,
  ⟨(some 6), .mv (.t 68), none, true⟩]
@[reducible] def v30_27 : VC := (.seq (.block 3 v30_25) (.ops o30_26))
@[reducible] def v30_28 : VC := (.seq (.seq (.ops o30_19) v30_20) v30_27)
-- K30_2: changed and kept: [6]
@[reducible] def K30_2 : List Nat := [2, 3]
@[reducible] def v30_29 : VC := (.loop v30_28)
@[reducible] def v30_30 : VC := (.block 2 v30_29)
@[reducible] def o30_31 : List Ins := [⟨(some 4), .mv (.k (.c (.bool true))), none, true⟩]
@[reducible] def v30_32 : VC := (.seq (.ops o30_31) .ret)
@[reducible] def v30_33 : VC := (.seq (.seq (.ops o30_18) v30_30) v30_32)
@[reducible] def v30_34 : VC := (.seq (.seq (.ops o30_5) v30_17) v30_33)
@[reducible] def v30_35 : VC := (.seq (.seq (.ops o30_1) v30_4) v30_34)
def ir30 : FC := ⟨2, 80, [.t 4], (.seq (.ops o30_0) v30_35)⟩
@[reducible] def o6_0 : List Ins := [⟨(some 2), .box 5 (.t 0), none, true⟩,
  ⟨(some 4), .mv (.k (.c (.bool false))), none, true⟩]
@[reducible] def o6_1 : List Ins := [⟨(some 10), .ld false 5 (.t 2), none, true⟩,
  ⟨(some 11), .call (.k (.fn 28 [])) [(.t 10)], none, true⟩]
@[reducible] def o6_2 : List Ins := [⟨(some 12), .call (.k (.fn 19 [])) [], none, true⟩,
  ⟨(some 4), .mv (.t 12), none, true⟩]
@[reducible] def v6_3 : VC := (.seq (.ops o6_2) .ret)
@[reducible] def v6_4 : VC := (.cond (.t 11) v6_3 .skip)
@[reducible] def o6_5 : List Ins := [⟨(some 13), .ld false 5 (.t 2), none, true⟩,
  ⟨(some 14), .call (.k (.fn 20 [])) [(.t 13)], none, true⟩,
  ⟨(some 5), .alloc [(.c (.raw (.slice none 0 0))), (.c (.int .i64 0)), (.c (.int .i64 0)), (.c (.int .i64 0)), (.c (.raw (.slice none 0 0)))], none, true⟩,
  ⟨none, .st 5 (.t 5) (.t 14), none, true⟩]
@[reducible] def o6_6 : List Ins := [⟨(some 16), .ld false 5 (.t 5), none, true⟩,
  ⟨(some 17), .mv (.t 1), none, true⟩,
  ⟨(some 18), .call (.k (.fn 21 [])) [(.t 16), (.t 17)], none, true⟩,
  ⟨(some 15), .mv (.t 18), none, true⟩,
  ⟨(some 19), .ext (.t 15) 0, none, true⟩,
  ⟨(some 20), .ext (.t 15) 1, none, true⟩,
  ⟨(some 6), .alloc [(.c (.int .i64 0)), (.c (.int .i64 0)), (.c (.int .i64 0))], none, true⟩,
  ⟨none, .st 3 (.t 6) (.t 19), none, true⟩,
  ⟨(some 7), .mv (.t 20), none, true⟩]
@[reducible] def o6_7 : List Ins := [⟨(some 22), .ld false 5 (.t 2), none, true⟩,
  ⟨(some 23), .mv (.t 1), none, true⟩,
  ⟨(some 24), .call (.k (.fn 29 [])) [(.t 22), (.t 23)], none, true⟩,
  ⟨(some 21), .mv (.t 24), none, true⟩,
  ⟨(some 25), .ext (.t 21) 0, none, true⟩,
  ⟨(some 26), .ext (.t 21) 1, none, true⟩,
  ⟨(some 8), .alloc [(.c (.int .i64 0)), (.c (.int .i64 0)), (.c (.int .i64 0))], none, true⟩,
  ⟨none, .st 3 (.t 8) (.t 25), none, true⟩,
  ⟨(some 9), .mv (.t 26), none, true⟩]
@[reducible] def o6_8 : List Ins := [⟨(some 27), .ld false 3 (.t 6), none, true⟩,
  ⟨(some 28), .ld false 3 (.t 8), none, true⟩,
  ⟨(some 29), .seq false [(0, true), (1, true), (2, true)] (.t 27) (.t 28), none, true⟩,
  ⟨(some 30), .mv (.t 29), none, true⟩,
  ⟨(some 31), .mv (.t 7), (some (30, true)), true⟩,
  ⟨(some 32), .mv (.t 9), (some (30, true)), true⟩,
  ⟨(some 33), .bin .eql (.t 31) (.t 32), (some (30, true)), true⟩,
  ⟨(some 34), .pick (.t 30) (.t 33) (.k (.c (.bool false))), none, true⟩,
  ⟨(some 35), .mv (.t 34), none, true⟩,
  ⟨(some 36), .ld false 5 (.t 5), (some (35, true)), true⟩,
  ⟨(some 37), .ld false 5 (.t 2), (some (35, true)), true⟩,
  ⟨(some 38), .call (.k (.fn 30 [])) [(.t 36), (.t 37)], (some (35, true)), true⟩,
  ⟨(some 39), .pick (.t 35) (.t 38) (.k (.c (.bool false))), none, true⟩,
  ⟨(some 40), .mv (.t 39), none, true⟩,
  ⟨(some 41), .call (.k (.fn 19 [])) [], (some (40, true)), true⟩,
  ⟨(some 42), .pick (.t 40) (.t 41) (.k (.c (.bool false))), none, true⟩,
  ⟨(some 4), .mv (.t 42), none, true⟩]
@[reducible] def v6_9 : VC := (.seq (.ops o6_8) .ret)
@[reducible] def v6_10 : VC := (.seq (.ops o6_7) v6_9)
@[reducible] def v6_11 : VC := (.seq (.ops o6_6) v6_10)
@[reducible] def v6_12 : VC := (.seq (.ops o6_5) v6_11)
@[reducible] def v6_13 : VC := (.seq (.seq (.ops o6_1) v6_4) v6_12)
def ir6 : FC := ⟨2, 43, [.t 4], (.seq (.ops o6_0) v6_13)⟩
@[reducible] def o7_0 : List Ins := [⟨(some 3), .box 5 (.t 0), none, true⟩,
  ⟨(some 6), .mv (.k (.c (.bool false))), none, true⟩]
@[reducible] def o7_1 : List Ins := [⟨(some 12), .ld false 5 (.t 3), none, true⟩,
  ⟨(some 13), .call (.k (.fn 28 [])) [(.t 12)], none, true⟩,
  ⟨(some 14), .mv (.t 13), none, true⟩,
  ⟨(some 15), .mv (.t 2), (some (14, false)), true⟩,
  ⟨(some 16), .bin .gtr (.t 15) (.k (.c (.int .i64 400))), (some (14, false)), true⟩,
  ⟨(some 17), .mv (.t 16), (some (14, false)), true⟩,
  ⟨(some 18), .mv (.t 2), (some (17, true)), true⟩,
  ⟨(some 19), .bin .leq (.t 18) (.k (.c (.int .i64 9999))), (some (17, true)), true⟩,
  ⟨(some 20), .pick (.t 17) (.t 19) (.k (.c (.bool false))), (some (14, false)), true⟩,
  ⟨(some 21), .pick (.t 14) (.k (.c (.bool true))) (.t 20), none, true⟩]
@[reducible] def o7_2 : List Ins := [⟨(some 22), .call (.k (.fn 19 [])) [], none, true⟩,
  ⟨(some 6), .mv (.t 22), none, true⟩]
@[reducible] def v7_3 : VC := (.seq (.ops o7_2) .ret)
@[reducible] def v7_4 : VC := (.cond (.t 21) v7_3 .skip)
@[reducible] def o7_5 : List Ins := [⟨(some 23), .ld false 5 (.t 3), none, true⟩,
  ⟨(some 24), .call (.k (.fn 20 [])) [(.t 23)], none, true⟩,
  ⟨(some 7), .alloc [(.c (.raw (.slice none 0 0))), (.c (.int .i64 0)), (.c (.int .i64 0)), (.c (.int .i64 0)), (.c (.raw (.slice none 0 0)))], none, true⟩,
  ⟨none, .st 5 (.t 7) (.t 24), none, true⟩]
@[reducible] def o7_6 : List Ins := [⟨(some 26), .ld false 5 (.t 7), none, true⟩,
  ⟨(some 27), .mv (.t 1), none, true⟩,
  ⟨(some 28), .mv (.t 2), none, true⟩,
  ⟨(some 29), .call (.k (.fn 26 [])) [(.t 26), (.t 27), (.t 28)], none, true⟩,
  ⟨(some 25), .mv (.t 29), none, true⟩,
  ⟨(some 30), .ext (.t 25) 0, none, true⟩,
  ⟨(some 31), .ext (.t 25) 1, none, true⟩,
  ⟨(some 8), .mv (.t 30), none, true⟩,
  ⟨(some 9), .mv (.t 31), none, true⟩]
@[reducible] def o7_7 : List Ins := [⟨(some 33), .ld false 5 (.t 3), none, true⟩,
  ⟨(some 34), .mv (.t 1), none, true⟩,
  ⟨(some 35), .mv (.t 2), none, true⟩,
  ⟨(some 36), .call (.k (.fn 31 [])) [(.t 33), (.t 34), (.t 35)], none, true⟩,
  ⟨(some 32), .mv (.t 36), none, true⟩,
  ⟨(some 37), .ext (.t 32) 0, none, true⟩,
  ⟨(some 38), .ext (.t 32) 1, none, true⟩,
  ⟨(some 10), .mv (.t 37), none, true⟩,
  ⟨(some 11), .mv (.t 38), none, true⟩]
@[reducible] def o7_8 : List Ins := [⟨(some 39), .mv (.t 8), none, true⟩,
  ⟨(some 40), .mv (.t 10), none, true⟩,
  ⟨(some 41), .bin .eql (.t 39) (.t 40), none, true⟩,
  ⟨(some 42), .mv (.t 41), none, true⟩,
  ⟨(some 43), .mv (.t 9), (some (42, true)), true⟩,
  ⟨(some 44), .mv (.t 11), (some (42, true)), true⟩,
  ⟨(some 45), .bin .eql (.t 43) (.t 44), (some (42, true)), true⟩,
  ⟨(some 46), .pick (.t 42) (.t 45) (.k (.c (.bool false))), none, true⟩,
  ⟨(some 47), .mv (.t 46), none, true⟩,
  ⟨(some 48), .ld false 5 (.t 7), (some (47, true)), true⟩,
  ⟨(some 49), .ld false 5 (.t 3), (some (47, true)), true⟩,
  ⟨(some 50), .call (.k (.fn 30 [])) [(.t 48), (.t 49)], (some (47, true)), true⟩,
  ⟨(some 51), .pick (.t 47) (.t 50) (.k (.c (.bool false))), none, true⟩,
  ⟨(some 52), .mv (.t 51), none, true⟩,
  ⟨(some 53), .call (.k (.fn 19 [])) [], (some (52, true)), true⟩,
  ⟨(some 54), .pick (.t 52) (.t 53) (.k (.c (.bool false))), none, true⟩,
  ⟨(some 6), .mv (.t 54), none, true⟩]
@[reducible] def v7_9 : VC := (.seq (.ops o7_8) .ret)
@[reducible] def v7_10 : VC := (.seq (.ops o7_7) v7_9)
@[reducible] def v7_11 : VC := (.seq (.ops o7_6) v7_10)
@[reducible] def v7_12 : VC := (.seq (.ops o7_5) v7_11)
@[reducible] def v7_13 : VC := (.seq (.seq (.ops o7_1) v7_4) v7_12)
def ir7 : FC := ⟨3, 55, [.t 6], (.seq (.ops o7_0) v7_13)⟩
theorem c30 : compM Try.prog [] 30 = some ir30 := by kernel_rfl
theorem c6 : compM Try.prog [] 6 = some ir6 := by kernel_rfl
theorem c7 : compM Try.prog [] 7 = some ir7 := by kernel_rfl



set_option maxRecDepth 20000 in
set_option maxHeartbeats 4000000 in
theorem same30 (t : Tray) (h1 : t.recs.length ≤ 1000) (h2 : t.pres.length ≤ 1000) : FSpec Try.prog 30 [t.av, t.av] (.c (.bool true)) := by
  refine FSpec_of c30 (Nat.le_refl _) (by decide) fun C hP hN hC hL => ?_
  simp only [ir30, Tray.av]
  (repeat ((first | refine WV_seq_ ?_ | refine WV_block ?_ | refine WV_ops ?_ | refine WV_skip ?_ | refine WV_exit ?_); (try simp only [go_sem, init_env', Nat.reduceEqDiff, Nat.reduceAdd, Nat.reduceMul, reduceIte, Nat.reduceLeDiff, Nat.reduceLT, Nat.reduceBEq, reduceCtorEq, hP, recsC, prsC, List.length_map, bne_self_eq_false]); (repeat (refine And.intro (by first | omega | (intros; simp_all; done) | (intros; simp_all; omega)) ?_))))
  (refine WV_cond rfl (fun h => ?_) (fun h => ?_))
  · simp at h
  (repeat ((first | refine WV_seq_ ?_ | refine WV_block ?_ | refine WV_ops ?_ | refine WV_skip ?_ | refine WV_exit ?_); (try simp only [go_sem, init_env', Nat.reduceEqDiff, Nat.reduceAdd, Nat.reduceMul, reduceIte, Nat.reduceLeDiff, Nat.reduceLT, Nat.reduceBEq, reduceCtorEq, hP, ]); (repeat (refine And.intro (by first | omega | (intros; simp_all; done) | (intros; simp_all; omega)) ?_))))
  refine WV_loopK K30_1 [] (fun k : Nat => k ≤ t.recs.length) (fun k => t.recs.length - k) (fun k => [(5, iv k)]) (fun _ => []) 0 (Nat.zero_le _) ?_ ?_
  · (refine Sub_of (by simp only [go_sem, init_env', Nat.reduceEqDiff, Nat.reduceAdd, Nat.reduceMul, reduceIte, Nat.reduceLeDiff, Nat.reduceLT, Nat.reduceBEq, reduceCtorEq]; ((repeat' (first | exact EnvLe_e0 _ _ | refine EnvLe_upd ?_ ?_)) <;> ((try simp only [upd_app, e0_app, o0_app, Nat.reduceEqDiff, reduceIte]); first | exact AWk.refl _ _ | exact AWk.int (by omega) | exact AWk.int (by rw [w64 (by omega) (by omega)]; omega) | exact AWk.grow rfl | exact AWk.nil _ | exact AWk.of (by simp)))) (by simp only [go_sem, init_env', Nat.reduceEqDiff, Nat.reduceAdd, Nat.reduceMul, reduceIte, Nat.reduceLeDiff, Nat.reduceLT, Nat.reduceBEq, reduceCtorEq]; (first | ((repeat' (first | exact ObjLe_o0 _ | exact ObjLe.rfl' _ | refine ObjLe_same ?_ | refine ObjLe_upd ?_ ?_ | refine ObjLe_new rfl ?_)) <;> rfl) | (refine ObjLe_X ?_; (repeat' (first | exact ObjLeX_o0 _ _ | refine ObjLeX_skip rfl ?_ | refine ObjLeX_upd ?_ ?_)) <;> rfl))))
  · intro k hk
    simp only [go_sem, init_env', Nat.reduceEqDiff, Nat.reduceAdd, Nat.reduceMul, reduceIte, Nat.reduceLeDiff, Nat.reduceLT, Nat.reduceBEq, reduceCtorEq]
    (repeat ((first | refine WV_seq_ ?_ | refine WV_block ?_ | refine WV_ops ?_ | refine WV_skip ?_ | refine WV_exit ?_); (try simp only [go_sem, init_env', Nat.reduceEqDiff, Nat.reduceAdd, Nat.reduceMul, reduceIte, Nat.reduceLeDiff, Nat.reduceLT, Nat.reduceBEq, reduceCtorEq, hP, recsC, List.length_map]); (repeat (refine And.intro (by first | omega | (intros; simp_all; done) | (intros; simp_all; omega)) ?_))))
    (refine WV_cond rfl (fun h => ?_) (fun h => ?_))
    · have hkl : k < t.recs.length := by simpa using h
      have hI : (k : Int) < (t.recs.length : Int) := by omega
      have hw2 := w64 (n := (k : Int) + 1) (by omega) (by omega)
      have g1 : (t.recs.map Rec.cds).getD k [] = [.int .i64 t.recs[k].front, .int .i64 t.recs[k].back] := map_getD hkl
      generalize t.recs[k] = X at *
      (repeat ((first | refine WV_seq_ ?_ | refine WV_block ?_ | refine WV_ops ?_ | refine WV_skip ?_ | refine WV_exit ?_); (try simp only [go_sem, init_env', Nat.reduceEqDiff, Nat.reduceAdd, Nat.reduceMul, reduceIte, Nat.reduceLeDiff, Nat.reduceLT, Nat.reduceBEq, reduceCtorEq, hP, g1, recsC, hI, List.length_map, Int.natCast_nonneg, seqGo, beq_self_eq_true]); (repeat (refine And.intro (by first | omega | (intros; simp_all; done) | (intros; simp_all; omega)) ?_))))
      (refine WV_cond rfl (fun h => ?_) (fun h => ?_))
      · simp at h
      (repeat ((first | refine WV_seq_ ?_ | refine WV_block ?_ | refine WV_ops ?_ | refine WV_skip ?_ | refine WV_exit ?_); (try simp only [go_sem, init_env', Nat.reduceEqDiff, Nat.reduceAdd, Nat.reduceMul, reduceIte, Nat.reduceLeDiff, Nat.reduceLT, Nat.reduceBEq, reduceCtorEq, hP, hw2]); (repeat (refine And.intro (by first | omega | (intros; simp_all; done) | (intros; simp_all; omega)) ?_))))
      refine ⟨k + 1, by omega, by omega, ?_⟩
      (refine Sub_of (by simp only [go_sem, init_env', Nat.reduceEqDiff, Nat.reduceAdd, Nat.reduceMul, reduceIte, Nat.reduceLeDiff, Nat.reduceLT, Nat.reduceBEq, reduceCtorEq]; ((repeat' (first | exact EnvLe_e0 _ _ | refine EnvLe_upd ?_ ?_)) <;> ((try simp only [upd_app, e0_app, o0_app, Nat.reduceEqDiff, reduceIte]); first | exact AWk.refl _ _ | exact AWk.int (by omega) | exact AWk.int (by rw [w64 (by omega) (by omega)]; omega) | exact AWk.grow rfl | exact AWk.nil _ | exact AWk.of (by simp)))) (by simp only [go_sem, init_env', Nat.reduceEqDiff, Nat.reduceAdd, Nat.reduceMul, reduceIte, Nat.reduceLeDiff, Nat.reduceLT, Nat.reduceBEq, reduceCtorEq]; (first | ((repeat' (first | exact ObjLe_o0 _ | exact ObjLe.rfl' _ | refine ObjLe_same ?_ | refine ObjLe_upd ?_ ?_ | refine ObjLe_new rfl ?_)) <;> rfl) | (refine ObjLe_X ?_; (repeat' (first | exact ObjLeX_o0 _ _ | refine ObjLeX_skip rfl ?_ | refine ObjLeX_upd ?_ ?_)) <;> rfl))))
    · (refine WV_exit ?_; simp only [go_sem, init_env', Nat.reduceEqDiff, Nat.reduceAdd, Nat.reduceMul, reduceIte, Nat.reduceLeDiff, Nat.reduceLT, Nat.reduceBEq, reduceCtorEq])
      (repeat ((first | refine WV_seq_ ?_ | refine WV_block ?_ | refine WV_ops ?_ | refine WV_skip ?_ | refine WV_exit ?_); (try simp only [go_sem, init_env', Nat.reduceEqDiff, Nat.reduceAdd, Nat.reduceMul, reduceIte, Nat.reduceLeDiff, Nat.reduceLT, Nat.reduceBEq, reduceCtorEq, hP, ]); (repeat (refine And.intro (by first | omega | (intros; simp_all; done) | (intros; simp_all; omega)) ?_))))
      refine WV_loopK K30_2 [] (fun k : Nat => k ≤ t.pres.length) (fun k => t.pres.length - k) (fun k => [(6, iv k)]) (fun _ => []) 0 (Nat.zero_le _) ?_ ?_
      · (refine Sub_of (by simp only [go_sem, init_env', Nat.reduceEqDiff, Nat.reduceAdd, Nat.reduceMul, reduceIte, Nat.reduceLeDiff, Nat.reduceLT, Nat.reduceBEq, reduceCtorEq]; ((repeat' (first | exact EnvLe_e0 _ _ | refine EnvLe_upd ?_ ?_)) <;> ((try simp only [upd_app, e0_app, o0_app, Nat.reduceEqDiff, reduceIte]); first | exact AWk.refl _ _ | exact AWk.int (by omega) | exact AWk.int (by rw [w64 (by omega) (by omega)]; omega) | exact AWk.grow rfl | exact AWk.nil _ | exact AWk.of (by simp)))) (by simp only [go_sem, init_env', Nat.reduceEqDiff, Nat.reduceAdd, Nat.reduceMul, reduceIte, Nat.reduceLeDiff, Nat.reduceLT, Nat.reduceBEq, reduceCtorEq]; (first | ((repeat' (first | exact ObjLe_o0 _ | exact ObjLe.rfl' _ | refine ObjLe_same ?_ | refine ObjLe_upd ?_ ?_ | refine ObjLe_new rfl ?_)) <;> rfl) | (refine ObjLe_X ?_; (repeat' (first | exact ObjLeX_o0 _ _ | refine ObjLeX_skip rfl ?_ | refine ObjLeX_upd ?_ ?_)) <;> rfl))))
      · intro k hk
        simp only [go_sem, init_env', Nat.reduceEqDiff, Nat.reduceAdd, Nat.reduceMul, reduceIte, Nat.reduceLeDiff, Nat.reduceLT, Nat.reduceBEq, reduceCtorEq]
        (repeat ((first | refine WV_seq_ ?_ | refine WV_block ?_ | refine WV_ops ?_ | refine WV_skip ?_ | refine WV_exit ?_); (try simp only [go_sem, init_env', Nat.reduceEqDiff, Nat.reduceAdd, Nat.reduceMul, reduceIte, Nat.reduceLeDiff, Nat.reduceLT, Nat.reduceBEq, reduceCtorEq, hP, prsC, List.length_map]); (repeat (refine And.intro (by first | omega | (intros; simp_all; done) | (intros; simp_all; omega)) ?_))))
        (refine WV_cond rfl (fun h => ?_) (fun h => ?_))
        · have hkl : k < t.pres.length := by simpa using h
          have hI : (k : Int) < (t.pres.length : Int) := by omega
          have hw2 := w64 (n := (k : Int) + 1) (by omega) (by omega)
          have g1 : (t.pres.map Pr.cds).getD k [] = [.int .i64 t.pres[k].side, .int .i64 t.pres[k].time] := map_getD hkl
          generalize t.pres[k] = X at *
          (repeat ((first | refine WV_seq_ ?_ | refine WV_block ?_ | refine WV_ops ?_ | refine WV_skip ?_ | refine WV_exit ?_); (try simp only [go_sem, init_env', Nat.reduceEqDiff, Nat.reduceAdd, Nat.reduceMul, reduceIte, Nat.reduceLeDiff, Nat.reduceLT, Nat.reduceBEq, reduceCtorEq, hP, g1, prsC, hI, List.length_map, Int.natCast_nonneg, seqGo, beq_self_eq_true]); (repeat (refine And.intro (by first | omega | (intros; simp_all; done) | (intros; simp_all; omega)) ?_))))
          (refine WV_cond rfl (fun h => ?_) (fun h => ?_))
          · simp at h
          (repeat ((first | refine WV_seq_ ?_ | refine WV_block ?_ | refine WV_ops ?_ | refine WV_skip ?_ | refine WV_exit ?_); (try simp only [go_sem, init_env', Nat.reduceEqDiff, Nat.reduceAdd, Nat.reduceMul, reduceIte, Nat.reduceLeDiff, Nat.reduceLT, Nat.reduceBEq, reduceCtorEq, hP, hw2]); (repeat (refine And.intro (by first | omega | (intros; simp_all; done) | (intros; simp_all; omega)) ?_))))
          refine ⟨k + 1, by omega, by omega, ?_⟩
          (refine Sub_of (by simp only [go_sem, init_env', Nat.reduceEqDiff, Nat.reduceAdd, Nat.reduceMul, reduceIte, Nat.reduceLeDiff, Nat.reduceLT, Nat.reduceBEq, reduceCtorEq]; ((repeat' (first | exact EnvLe_e0 _ _ | refine EnvLe_upd ?_ ?_)) <;> ((try simp only [upd_app, e0_app, o0_app, Nat.reduceEqDiff, reduceIte]); first | exact AWk.refl _ _ | exact AWk.int (by omega) | exact AWk.int (by rw [w64 (by omega) (by omega)]; omega) | exact AWk.grow rfl | exact AWk.nil _ | exact AWk.of (by simp)))) (by simp only [go_sem, init_env', Nat.reduceEqDiff, Nat.reduceAdd, Nat.reduceMul, reduceIte, Nat.reduceLeDiff, Nat.reduceLT, Nat.reduceBEq, reduceCtorEq]; (first | ((repeat' (first | exact ObjLe_o0 _ | exact ObjLe.rfl' _ | refine ObjLe_same ?_ | refine ObjLe_upd ?_ ?_ | refine ObjLe_new rfl ?_)) <;> rfl) | (refine ObjLe_X ?_; (repeat' (first | exact ObjLeX_o0 _ _ | refine ObjLeX_skip rfl ?_ | refine ObjLeX_upd ?_ ?_)) <;> rfl))))
        · (refine WV_exit ?_; simp only [go_sem, init_env', Nat.reduceEqDiff, Nat.reduceAdd, Nat.reduceMul, reduceIte, Nat.reduceLeDiff, Nat.reduceLT, Nat.reduceBEq, reduceCtorEq])
          (repeat ((first | refine WV_seq_ ?_ | refine WV_block ?_ | refine WV_ops ?_ | refine WV_skip ?_ | refine WV_exit ?_); (try simp only [go_sem, init_env', Nat.reduceEqDiff, Nat.reduceAdd, Nat.reduceMul, reduceIte, Nat.reduceLeDiff, Nat.reduceLT, Nat.reduceBEq, reduceCtorEq, hP, ]); (repeat (refine And.intro (by first | omega | (intros; simp_all; done) | (intros; simp_all; omega)) ?_))))
          (refine WV_ret ?_; simp only [thenQ, inQ, RetQ, RetOk, resAll, resA]; simp only [go_sem, init_env', Nat.reduceEqDiff, Nat.reduceAdd, Nat.reduceMul, reduceIte, Nat.reduceLeDiff, Nat.reduceLT, Nat.reduceBEq, reduceCtorEq, tupA, AV.port, AV.portL, exists_eq_left', ]; (first | exact AVle.of rfl | refine AVle.of ?_ | skip))
theorem far_no {t : Tray} (h : farB t = false) : t.recs.length ≤ 40 ∧ t.pres.length ≤ 40 := by
  unfold farB Tray.n at h
  simp only [Bool.or_eq_false_iff, decide_eq_false_iff_not] at h
  omega
set_option maxRecDepth 20000 in
set_option maxHeartbeats 4000000 in
/-- Stand is as specified. -/
theorem law6 (t : Tray) (x : Int) : FSpec Try.prog 6 [t.av, iv x] (.c (.bool true)) := by
  have hfar := far28 t
  cases hf : farB t
  rotate_left
  · rw [hf] at hfar
    refine FSpec_of c6 (Nat.le_refl _) (by decide) fun C hP hN hC hL => ?_
    simp only [ir6, Tray.av]
    (repeat ((first | refine WV_seq_ ?_ | refine WV_block ?_ | refine WV_ops ?_ | refine WV_skip ?_ | refine WV_exit ?_); (try simp only [go_sem, init_env', Nat.reduceEqDiff, Nat.reduceAdd, Nat.reduceMul, reduceIte, Nat.reduceLeDiff, Nat.reduceLT, Nat.reduceBEq, reduceCtorEq, hP, ]); (repeat (refine And.intro (by first | omega | (intros; simp_all; done) | (intros; simp_all; omega)) ?_))))
    (refine AS_pure (hfar) rfl rfl rfl rfl rfl ?_; simp only [go_sem, init_env', Nat.reduceEqDiff, Nat.reduceAdd, Nat.reduceMul, reduceIte, Nat.reduceLeDiff, Nat.reduceLT, Nat.reduceBEq, reduceCtorEq, hP, Tray.av]; (repeat (refine And.intro (by first | omega | (intros; simp_all; done) | (intros; simp_all; omega)) ?_)); (repeat ((first | refine WV_seq_ ?_ | refine WV_block ?_ | refine WV_ops ?_ | refine WV_skip ?_ | refine WV_exit ?_); (try simp only [go_sem, init_env', Nat.reduceEqDiff, Nat.reduceAdd, Nat.reduceMul, reduceIte, Nat.reduceLeDiff, Nat.reduceLT, Nat.reduceBEq, reduceCtorEq, hP, Tray.av]); (repeat (refine And.intro (by first | omega | (intros; simp_all; done) | (intros; simp_all; omega)) ?_)))))
    (refine WV_cond rfl (fun h => ?_) (fun h => ?_))
    · (repeat ((first | refine WV_seq_ ?_ | refine WV_block ?_ | refine WV_ops ?_ | refine WV_skip ?_ | refine WV_exit ?_); (try simp only [go_sem, init_env', Nat.reduceEqDiff, Nat.reduceAdd, Nat.reduceMul, reduceIte, Nat.reduceLeDiff, Nat.reduceLT, Nat.reduceBEq, reduceCtorEq, hP, ]); (repeat (refine And.intro (by first | omega | (intros; simp_all; done) | (intros; simp_all; omega)) ?_))))
      (refine AS_pure (works19) rfl rfl rfl rfl rfl ?_; simp only [go_sem, init_env', Nat.reduceEqDiff, Nat.reduceAdd, Nat.reduceMul, reduceIte, Nat.reduceLeDiff, Nat.reduceLT, Nat.reduceBEq, reduceCtorEq, hP, ]; (repeat (refine And.intro (by first | omega | (intros; simp_all; done) | (intros; simp_all; omega)) ?_)); (repeat ((first | refine WV_seq_ ?_ | refine WV_block ?_ | refine WV_ops ?_ | refine WV_skip ?_ | refine WV_exit ?_); (try simp only [go_sem, init_env', Nat.reduceEqDiff, Nat.reduceAdd, Nat.reduceMul, reduceIte, Nat.reduceLeDiff, Nat.reduceLT, Nat.reduceBEq, reduceCtorEq, hP, ]); (repeat (refine And.intro (by first | omega | (intros; simp_all; done) | (intros; simp_all; omega)) ?_)))))
      (refine WV_ret ?_; simp only [thenQ, inQ, RetQ, RetOk, resAll, resA]; simp only [go_sem, init_env', Nat.reduceEqDiff, Nat.reduceAdd, Nat.reduceMul, reduceIte, Nat.reduceLeDiff, Nat.reduceLT, Nat.reduceBEq, reduceCtorEq, tupA, AV.port, AV.portL, exists_eq_left', ]; (first | exact AVle.of rfl | refine AVle.of ?_ | skip))
    · simp at h
  rw [hf] at hfar
  obtain ⟨l1, l2⟩ := far_no hf
  have hcop := copy20 t (by omega) (by omega)
  have b1 := stand21 t x
  have b2 := stand29 t x
  have bt := same30 t (by omega) (by omega)
  generalize standR t x = A at *
  simp only [spAv] at b1 b2
  refine FSpec_of c6 (Nat.le_refl _) (by decide) fun C hP hN hC hL => ?_
  simp only [ir6, Tray.av]
  (repeat ((first | refine WV_seq_ ?_ | refine WV_block ?_ | refine WV_ops ?_ | refine WV_skip ?_ | refine WV_exit ?_); (try simp only [go_sem, init_env', Nat.reduceEqDiff, Nat.reduceAdd, Nat.reduceMul, reduceIte, Nat.reduceLeDiff, Nat.reduceLT, Nat.reduceBEq, reduceCtorEq, hP, ]); (repeat (refine And.intro (by first | omega | (intros; simp_all; done) | (intros; simp_all; omega)) ?_))))
  (refine AS_pure (hfar) rfl rfl rfl rfl rfl ?_; simp only [go_sem, init_env', Nat.reduceEqDiff, Nat.reduceAdd, Nat.reduceMul, reduceIte, Nat.reduceLeDiff, Nat.reduceLT, Nat.reduceBEq, reduceCtorEq, hP, Tray.av]; (repeat (refine And.intro (by first | omega | (intros; simp_all; done) | (intros; simp_all; omega)) ?_)); (repeat ((first | refine WV_seq_ ?_ | refine WV_block ?_ | refine WV_ops ?_ | refine WV_skip ?_ | refine WV_exit ?_); (try simp only [go_sem, init_env', Nat.reduceEqDiff, Nat.reduceAdd, Nat.reduceMul, reduceIte, Nat.reduceLeDiff, Nat.reduceLT, Nat.reduceBEq, reduceCtorEq, hP, Tray.av]); (repeat (refine And.intro (by first | omega | (intros; simp_all; done) | (intros; simp_all; omega)) ?_)))))
  (refine WV_cond rfl (fun h => ?_) (fun h => ?_))
  · simp at h
  (repeat ((first | refine WV_seq_ ?_ | refine WV_block ?_ | refine WV_ops ?_ | refine WV_skip ?_ | refine WV_exit ?_); (try simp only [go_sem, init_env', Nat.reduceEqDiff, Nat.reduceAdd, Nat.reduceMul, reduceIte, Nat.reduceLeDiff, Nat.reduceLT, Nat.reduceBEq, reduceCtorEq, hP, ]); (repeat (refine And.intro (by first | omega | (intros; simp_all; done) | (intros; simp_all; omega)) ?_))))
  (refine AS_pure (hcop) rfl rfl rfl rfl rfl ?_; simp only [go_sem, init_env', Nat.reduceEqDiff, Nat.reduceAdd, Nat.reduceMul, reduceIte, Nat.reduceLeDiff, Nat.reduceLT, Nat.reduceBEq, reduceCtorEq, hP, Tray.av]; (repeat (refine And.intro (by first | omega | (intros; simp_all; done) | (intros; simp_all; omega)) ?_)); (repeat ((first | refine WV_seq_ ?_ | refine WV_block ?_ | refine WV_ops ?_ | refine WV_skip ?_ | refine WV_exit ?_); (try simp only [go_sem, init_env', Nat.reduceEqDiff, Nat.reduceAdd, Nat.reduceMul, reduceIte, Nat.reduceLeDiff, Nat.reduceLT, Nat.reduceBEq, reduceCtorEq, hP, Tray.av]); (repeat (refine And.intro (by first | omega | (intros; simp_all; done) | (intros; simp_all; omega)) ?_)))))
  (refine AS_pure (b1) rfl rfl rfl rfl rfl ?_; simp only [go_sem, init_env', Nat.reduceEqDiff, Nat.reduceAdd, Nat.reduceMul, reduceIte, Nat.reduceLeDiff, Nat.reduceLT, Nat.reduceBEq, reduceCtorEq, hP, Tray.av]; (repeat (refine And.intro (by first | omega | (intros; simp_all; done) | (intros; simp_all; omega)) ?_)); (repeat ((first | refine WV_seq_ ?_ | refine WV_block ?_ | refine WV_ops ?_ | refine WV_skip ?_ | refine WV_exit ?_); (try simp only [go_sem, init_env', Nat.reduceEqDiff, Nat.reduceAdd, Nat.reduceMul, reduceIte, Nat.reduceLeDiff, Nat.reduceLT, Nat.reduceBEq, reduceCtorEq, hP, Tray.av]); (repeat (refine And.intro (by first | omega | (intros; simp_all; done) | (intros; simp_all; omega)) ?_)))))
  (refine AS_pure (b2) rfl rfl rfl rfl rfl ?_; simp only [go_sem, init_env', Nat.reduceEqDiff, Nat.reduceAdd, Nat.reduceMul, reduceIte, Nat.reduceLeDiff, Nat.reduceLT, Nat.reduceBEq, reduceCtorEq, hP, Tray.av, seqGo, beq_self_eq_true]; (repeat (refine And.intro (by first | omega | (intros; simp_all; done) | (intros; simp_all; omega)) ?_)); (repeat ((first | refine WV_seq_ ?_ | refine WV_block ?_ | refine WV_ops ?_ | refine WV_skip ?_ | refine WV_exit ?_); (try simp only [go_sem, init_env', Nat.reduceEqDiff, Nat.reduceAdd, Nat.reduceMul, reduceIte, Nat.reduceLeDiff, Nat.reduceLT, Nat.reduceBEq, reduceCtorEq, hP, Tray.av, seqGo, beq_self_eq_true]); (repeat (refine And.intro (by first | omega | (intros; simp_all; done) | (intros; simp_all; omega)) ?_)))))
  (refine AG_pure (fun hG => bt) rfl (fun hG => by first | (simp only [go_sem, init_env', Nat.reduceEqDiff, Nat.reduceAdd, Nat.reduceMul, reduceIte, Nat.reduceLeDiff, Nat.reduceLT, Nat.reduceBEq, reduceCtorEq, hG]; done) | (simp only [go_sem, init_env', Nat.reduceEqDiff, Nat.reduceAdd, Nat.reduceMul, reduceIte, Nat.reduceLeDiff, Nat.reduceLT, Nat.reduceBEq, reduceCtorEq]; revert hG; simp; done) | (simp only [go_sem, init_env', Nat.reduceEqDiff, Nat.reduceAdd, Nat.reduceMul, reduceIte, Nat.reduceLeDiff, Nat.reduceLT, Nat.reduceBEq, reduceCtorEq, hG]; simp_all; done) | (revert hG; simp; done) | simp_all) rfl rfl rfl ?_; simp only [go_sem, init_env', Nat.reduceEqDiff, Nat.reduceAdd, Nat.reduceMul, reduceIte, Nat.reduceLeDiff, Nat.reduceLT, Nat.reduceBEq, reduceCtorEq, hP, Tray.av, seqGo, beq_self_eq_true]; (repeat (refine And.intro (by first | omega | (intros; simp_all; done) | (intros; simp_all; omega)) ?_)); (repeat ((first | refine WV_seq_ ?_ | refine WV_block ?_ | refine WV_ops ?_ | refine WV_skip ?_ | refine WV_exit ?_); (try simp only [go_sem, init_env', Nat.reduceEqDiff, Nat.reduceAdd, Nat.reduceMul, reduceIte, Nat.reduceLeDiff, Nat.reduceLT, Nat.reduceBEq, reduceCtorEq, hP, Tray.av, seqGo, beq_self_eq_true]); (repeat (refine And.intro (by first | omega | (intros; simp_all; done) | (intros; simp_all; omega)) ?_)))))
  (refine AG_pure (fun hG => works19) rfl (fun hG => by first | (simp only [go_sem, init_env', Nat.reduceEqDiff, Nat.reduceAdd, Nat.reduceMul, reduceIte, Nat.reduceLeDiff, Nat.reduceLT, Nat.reduceBEq, reduceCtorEq, hG]; done) | (simp only [go_sem, init_env', Nat.reduceEqDiff, Nat.reduceAdd, Nat.reduceMul, reduceIte, Nat.reduceLeDiff, Nat.reduceLT, Nat.reduceBEq, reduceCtorEq]; revert hG; simp; done) | (simp only [go_sem, init_env', Nat.reduceEqDiff, Nat.reduceAdd, Nat.reduceMul, reduceIte, Nat.reduceLeDiff, Nat.reduceLT, Nat.reduceBEq, reduceCtorEq, hG]; simp_all; done) | (revert hG; simp; done) | simp_all) rfl rfl rfl ?_; simp only [go_sem, init_env', Nat.reduceEqDiff, Nat.reduceAdd, Nat.reduceMul, reduceIte, Nat.reduceLeDiff, Nat.reduceLT, Nat.reduceBEq, reduceCtorEq, hP, ]; (repeat (refine And.intro (by first | omega | (intros; simp_all; done) | (intros; simp_all; omega)) ?_)); (repeat ((first | refine WV_seq_ ?_ | refine WV_block ?_ | refine WV_ops ?_ | refine WV_skip ?_ | refine WV_exit ?_); (try simp only [go_sem, init_env', Nat.reduceEqDiff, Nat.reduceAdd, Nat.reduceMul, reduceIte, Nat.reduceLeDiff, Nat.reduceLT, Nat.reduceBEq, reduceCtorEq, hP, ]); (repeat (refine And.intro (by first | omega | (intros; simp_all; done) | (intros; simp_all; omega)) ?_)))))
  (refine WV_ret ?_; simp only [thenQ, inQ, RetQ, RetOk, resAll, resA]; simp only [go_sem, init_env', Nat.reduceEqDiff, Nat.reduceAdd, Nat.reduceMul, reduceIte, Nat.reduceLeDiff, Nat.reduceLT, Nat.reduceBEq, reduceCtorEq, tupA, AV.port, AV.portL, exists_eq_left', ]; (first | exact AVle.of rfl | refine AVle.of ?_ | skip))

/-! ### The latest press -/
end Go.Proofs.Ytkpgpgaojjobgaa
