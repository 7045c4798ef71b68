/-
  Contracts of the layer's functions, of the laws' helpers and of the law; conditions: as each theorem states.
-/
import Derived.Test.YtkpgpgaojjobgaaU3
import Derived.Test.YtkpgpgaojjobgaaV2
set_option linter.unusedVariables false
set_option linter.unusedSimpArgs false
namespace Go.Proofs.Ytkpgpgaojjobgaa
open Go Go.V
namespace W
@[reducible] def o54_0 : List Ins := [⟨(some 1), .box 5 (.t 0), none, true⟩,
  ⟨(some 2), .alloc [(.c (.raw (.slice none 0 0))), (.c (.raw (.slice none 0 0))), (.c (.int .i64 0)), (.c (.int .i64 0))], none, true⟩]
@[reducible] def o54_1 : List Ins := [⟨(some 4), .ld false 5 (.t 1), none, false⟩,
  ⟨(some 5), .fa 4 (.t 1), none, false⟩,
  ⟨(some 6), .ld true 1 (.t 5), none, false⟩,
  ⟨(some 8), .fa 0 (.t 1), none, false⟩,
  ⟨(some 9), .ld true 1 (.t 8), none, false⟩,
  ⟨(some 10), .len (.t 9), none, false⟩,
  ⟨(some 11), .bin .mul (.k (.c (.int .i64 2))) (.t 10), none, false⟩,
  ⟨(some 12), .mks 4 1 1 [(.c (.bool false))] (.t 11) (.t 11), none, false⟩,
  ⟨(some 13), .fa 1 (.t 1), none, false⟩,
  ⟨(some 14), .ld true 1 (.t 13), none, false⟩,
  ⟨(some 15), .fa 2 (.t 1), none, false⟩,
  ⟨(some 16), .ld true 1 (.t 15), none, false⟩,
  ⟨(some 17), .bld [(.c (.int .i64 0)), (.c (.int .i64 0)), (.c (.int .i64 0))] [(0, 1, (.t 14)), (1, 1, (.t 16)), (2, 1, (.k (.c (.int .i64 (-1)))))], none, false⟩,
  ⟨(some 7), .calln (.k (.fn 56 [])) [(.t 6)], none, true⟩,
  ⟨(some 18), .bld [(.c (.raw (.slice none 0 0))), (.c (.int .i64 0)), (.c (.int .i64 0)), (.c (.int .i64 0)), (.c (.raw (.slice none 0 0))), (.c (.raw (.slice none 0 0))), (.c (.raw (.slice none 0 0))), (.c (.int .i64 0)), (.c (.int .i64 0)), (.c (.int .i64 0)), (.c (.int .i64 0)), (.c (.raw (.slice none 0 0))), (.c (.raw (.slice none 0 0))), (.c (.int .i64 0)), (.c (.int .i64 0))] [(0, 5, (.t 4)), (5, 1, (.t 7)), (6, 1, (.t 12)), (8, 3, (.t 17))], none, true⟩,
  ⟨(some 19), .box 15 (.t 18), none, true⟩,
  ⟨(some 3), .mv (.t 19), none, true⟩]
@[reducible] def o54_2 : List Ins := [⟨(some 20), .mv (.t 3), none, true⟩,
  ⟨(some 21), .nilc (.t 20), none, true⟩,
  ⟨(some 22), .fa 5 (.t 21), none, true⟩,
  ⟨(some 23), .ld true 1 (.t 22), none, true⟩,
  ⟨(some 24), .call (.k (.fn 69 [])) [(.t 23), (.k (.fn 70 []))], none, true⟩]
@[reducible] def o54_3 : List Ins := [⟨(some 25), .mv (.t 3), none, true⟩,
  ⟨(some 26), .call (.k (.fn 71 [])) [(.t 25), (.k (.c (.int .i64 (-1))))], none, true⟩]
@[reducible] def o54_4 : List Ins := [⟨(some 27), .mv (.t 3), none, true⟩,
  ⟨(some 28), .call (.k (.fn 72 [])) [(.t 27)], none, true⟩]
@[reducible] def v54_5 : VC := (.cond (.t 28) .skip (.exit 0))
@[reducible] def v54_6 : VC := (.block 1 .skip)
@[reducible] def v54_7 : VC := (.seq (.seq (.ops o54_4) v54_5) v54_6)
-- K54_1: changed and kept: []
@[reducible] def K54_1 : List Nat := [2, 3]
@[reducible] def v54_8 : VC := (.loop v54_7)
@[reducible] def o54_9 : List Ins := [⟨(some 29), .mv (.t 3), none, true⟩,
  ⟨(some 30), .nilc (.t 29), none, true⟩,
  ⟨(some 31), .fa 11 (.t 30), none, true⟩,
  ⟨(some 32), .ld false 4 (.t 31), none, true⟩,
  ⟨none, .st 4 (.t 2) (.t 32), none, true⟩]
@[reducible] def v54_10 : VC := (.seq (.ops o54_9) .ret)
@[reducible] def v54_11 : VC := (.seq (.block 0 v54_8) v54_10)
@[reducible] def v54_12 : VC := (.seq (.ops o54_3) v54_11)
@[reducible] def v54_13 : VC := (.seq (.ops o54_2) v54_12)
@[reducible] def v54_14 : VC := (.seq (.ops o54_1) v54_13)
def ir54 : FC := ⟨1, 33, [.cell 2 false 4], (.seq (.ops o54_0) v54_14)⟩
theorem c54 : compM Try.prog [300007] 54 = some ir54 := by kernel_rfl

end W
@[reducible] def o54_0 : List Ins := [⟨(some 1), .box 5 (.t 0), none, true⟩,
  ⟨(some 2), .alloc [(.c (.raw (.slice none 0 0))), (.c (.raw (.slice none 0 0))), (.c (.int .i64 0)), (.c (.int .i64 0))], none, true⟩]
@[reducible] def o54_1 : List Ins := [⟨(some 4), .ld false 5 (.t 1), none, false⟩,
  ⟨(some 5), .fa 4 (.t 1), none, false⟩,
  ⟨(some 6), .ld true 1 (.t 5), none, false⟩,
  ⟨(some 8), .fa 0 (.t 1), none, false⟩,
  ⟨(some 9), .ld true 1 (.t 8), none, false⟩,
  ⟨(some 10), .len (.t 9), none, false⟩,
  ⟨(some 11), .bin .mul (.k (.c (.int .i64 2))) (.t 10), none, false⟩,
  ⟨(some 12), .mks 4 1 1 [(.c (.bool false))] (.t 11) (.t 11), none, false⟩,
  ⟨(some 7), .call (.k (.fn 56 [])) [(.t 6)], none, false⟩,
  ⟨(some 13), .fa 1 (.t 1), none, false⟩,
  ⟨(some 14), .ld true 1 (.t 13), none, false⟩,
  ⟨(some 15), .fa 2 (.t 1), none, false⟩,
  ⟨(some 16), .ld true 1 (.t 15), none, false⟩,
  ⟨(some 17), .bld [(.c (.int .i64 0)), (.c (.int .i64 0)), (.c (.int .i64 0))] [(0, 1, (.t 14)), (1, 1, (.t 16)), (2, 1, (.k (.c (.int .i64 (-1)))))], none, false⟩,
  ⟨(some 18), .bld [(.c (.raw (.slice none 0 0))), (.c (.int .i64 0)), (.c (.int .i64 0)), (.c (.int .i64 0)), (.c (.raw (.slice none 0 0))), (.c (.raw (.slice none 0 0))), (.c (.raw (.slice none 0 0))), (.c (.int .i64 0)), (.c (.int .i64 0)), (.c (.int .i64 0)), (.c (.int .i64 0)), (.c (.raw (.slice none 0 0))), (.c (.raw (.slice none 0 0))), (.c (.int .i64 0)), (.c (.int .i64 0))] [(0, 5, (.t 4)), (5, 1, (.t 7)), (6, 1, (.t 12)), (8, 3, (.t 17))], none, true⟩,
  ⟨(some 19), .box 15 (.t 18), none, true⟩,
  ⟨(some 3), .mv (.t 19), none, true⟩]
@[reducible] def o54_2 : List Ins := [⟨(some 20), .mv (.t 3), none, true⟩,
  ⟨(some 21), .nilc (.t 20), none, true⟩,
  ⟨(some 22), .fa 5 (.t 21), none, true⟩,
  ⟨(some 23), .ld true 1 (.t 22), none, true⟩,
  ⟨(some 24), .call (.k (.fn 69 [])) [(.t 23), (.k (.fn 70 []))], none, true⟩]
@[reducible] def o54_3 : List Ins := [⟨(some 25), .mv (.t 3), none, true⟩,
  ⟨(some 26), .call (.k (.fn 71 [])) [(.t 25), (.k (.c (.int .i64 (-1))))], none, true⟩]
@[reducible] def o54_4 : List Ins := [⟨(some 27), .mv (.t 3), none, true⟩,
  ⟨(some 28), .call (.k (.fn 72 [])) [(.t 27)], none, true⟩]
@[reducible] def v54_5 : VC := (.cond (.t 28) .skip (.exit 0))
@[reducible] def v54_6 : VC := (.block 1 .skip)
@[reducible] def v54_7 : VC := (.seq (.seq (.ops o54_4) v54_5) v54_6)
-- K54_1: changed and kept: []
@[reducible] def K54_1 : List Nat := [2, 3]
@[reducible] def v54_8 : VC := (.loop v54_7)
@[reducible] def o54_9 : List Ins := [⟨(some 29), .mv (.t 3), none, true⟩,
  ⟨(some 30), .nilc (.t 29), none, true⟩,
  ⟨(some 31), .fa 11 (.t 30), none, true⟩,
  ⟨(some 32), .ld false 4 (.t 31), none, true⟩,
  ⟨none, .st 4 (.t 2) (.t 32), none, true⟩]
@[reducible] def v54_10 : VC := (.seq (.ops o54_9) .ret)
@[reducible] def v54_11 : VC := (.seq (.block 0 v54_8) v54_10)
@[reducible] def v54_12 : VC := (.seq (.ops o54_3) v54_11)
@[reducible] def v54_13 : VC := (.seq (.ops o54_2) v54_12)
@[reducible] def v54_14 : VC := (.seq (.ops o54_1) v54_13)
def ir54 : FC := ⟨1, 33, [.cell 2 false 4], (.seq (.ops o54_0) v54_14)⟩
theorem c54 : compM Try.prog [] 54 = some ir54 := by kernel_rfl



def spsC (l : List Sp) : CD := .sl 4 (l.map Sp.cds)
/-- What a run hands back. -/
def Cs.run (s : Cs) : AV := .agg [.c (spsC s.spells), .c (prsC s.plays), iv s.steps, iv s.end_]
def carD (t : Tray) (s : Cs) : List AV := [.c (recsC t.recs), iv t.at_, iv t.way, iv t.step, .c (prsC t.pres), .c (prsC s.q), .vw 1 12 0 (2 * t.n) (2 * t.n), iv s.now, iv s.at_, iv (wayI s.up), iv s.side, .gr 81, .gr 82, iv s.steps, iv s.end_]
def zero4 : List AV := [.c (.raw (.slice none 0 0)), .c (.raw (.slice none 0 0)), .c (.int .i64 0), .c (.int .i64 0)]

set_option maxRecDepth 20000 in
set_option maxHeartbeats 16000000 in
theorem tail54 {C : Ctx} (hP : C.P = Try.prog) {t : Tray} (ht : TrayOk t) {q : List Pr} (hq : q.Perm t.pres) (hqs : q.Pairwise fun a b => a.time ≤ b.time) :
    WV C v54_12 (RetQ [.cell 2 false 4] (goesWith t q).run) ⟨upd (upd e0 2 (.bp 2 0)) 3 (.bp 19 0), upd (upd (upd (upd (upd o0 2 (.box zero4)) 12 (.box (cellsG bcd (start t q).pins 0))) 19 (.box (carD t (start t q)))) 81 (.grow 73 4 [])) 82 (.grow 41 2 [])⟩ := by
  have hm0 := mark71 t (start t q) (-1) (by simp [start])
  have hs0 := start_ok ht hq hqs
  have hql : q.length ≤ 13 := by rw [hq.length_eq]; exact ht.p13
  have hmu := start_mu ht hql
  have hgw : goesWith t q = iter t 250 ((start t q).mark (-1)) := rfl
  have b1 : ((start t q).mark (-1)).spells.length = 1 := rfl
  have b2 : ((start t q).mark (-1)).plays.length = 0 := rfl
  have b3 : ((start t q).mark (-1)).now = 0 := rfl
  have b4 : ((start t q).mark (-1)).steps = 0 := rfl
  have b5 : ((start t q).mark (-1)).q.length ≤ 13 := hql
  have hsp : (start t q).spells = [] := rfl
  have hpl : (start t q).plays = [] := rfl
  rw [hgw]
  simp only [carD, zero4]
  (repeat ((first | refine WV_seq_ ?_ | refine WV_block ?_ | refine WV_ops ?_ | refine WV_skip ?_ | refine WV_exit ?_); (try simp only [go_sem, init_env', Nat.reduceEqDiff, Nat.reduceAdd, Nat.reduceMul, reduceIte, Nat.reduceLeDiff, Nat.reduceLT, Nat.reduceBEq, reduceCtorEq, hP, ]); (repeat refine qI ?_)))
  (refine AS_lend [19, 12, 81, 82] (hm0) rfl rfl rfl (by decide) rfl (by simp only [go_sem, init_env', Nat.reduceEqDiff, Nat.reduceAdd, Nat.reduceMul, reduceIte, Nat.reduceLeDiff, Nat.reduceLT, Nat.reduceBEq, reduceCtorEq, obsLend, Ob.lend, AV.lend, AV.lendL, carO, carC, hsp, hpl, List.map_nil]) ?_)
  rintro r l' ⟨rfl, rfl⟩
  generalize (start t q).mark (-1) = s0 at *
  (refine ⟨_, _, rfl, (by simp only [carO, carC, obsBack, Ob.back, AV.back, AV.backL, back_cellsG, ]; rfl), ?_⟩; simp only [go_sem, init_env', Nat.reduceEqDiff, Nat.reduceAdd, Nat.reduceMul, reduceIte, Nat.reduceLeDiff, Nat.reduceLT, Nat.reduceBEq, reduceCtorEq, hP, ownBack, ])
  (repeat ((first | refine WV_seq_ ?_ | refine WV_block ?_ | refine WV_ops ?_ | refine WV_skip ?_ | refine WV_exit ?_); (try simp only [go_sem, init_env', Nat.reduceEqDiff, Nat.reduceAdd, Nat.reduceMul, reduceIte, Nat.reduceLeDiff, Nat.reduceLT, Nat.reduceBEq, reduceCtorEq, hP, ]); (repeat refine qI ?_)))
  refine WV_loopK K54_1 [12, 19, 81, 82] (fun p : Nat × Cs => CsOk t p.2 ∧ iter t 250 s0 = iter t (250 - p.1) p.2 ∧ mu t p.2 + p.1 ≤ 200 ∧ p.2.now ≤ 10000 + 1059 * (p.1 : Int) ∧ p.2.spells.length ≤ 1 + 3 * p.1 ∧ p.2.plays.length ≤ p.1 ∧ (0 ≤ p.2.steps ∧ p.2.steps ≤ (p.1 : Int)) ∧ p.2.q.length ≤ 13) (fun p => mu t p.2) (fun _ => [])
    (fun p => [(12, .box (cellsG bcd p.2.pins 0)), (19, .box (carD t p.2)), (81, .grow 73 4 (p.2.spells.map Sp.cds)), (82, .grow 41 2 (p.2.plays.map Pr.cds))]) (0, s0) ⟨hs0, rfl, by simpa using hmu, by rw [b3]; simp, by rw [b1]; simp, by rw [b2]; simp, by rw [b4]; simp, b5⟩ ?_ ?_
  · simp only [carD]
    exact Sub_au
  · rintro ⟨k, s⟩ ⟨i1, i2, i3, i4, i5, i6, i7, i8⟩
    simp only at i1 i2 i3 i4 i5 i6 i7 i8
    have hact := act72 ht i1 (by omega) (by omega) (by omega) (by omega) (by omega)
    simp only [go_sem, init_env', Nat.reduceEqDiff, Nat.reduceAdd, Nat.reduceMul, reduceIte, Nat.reduceLeDiff, Nat.reduceLT, Nat.reduceBEq, reduceCtorEq, carD]
    (repeat ((first | refine WV_seq_ ?_ | refine WV_block ?_ | refine WV_ops ?_ | refine WV_skip ?_ | refine WV_exit ?_); (try simp only [go_sem, init_env', Nat.reduceEqDiff, Nat.reduceAdd, Nat.reduceMul, reduceIte, Nat.reduceLeDiff, Nat.reduceLT, Nat.reduceBEq, reduceCtorEq, hP, ]); (repeat refine qI ?_)))
    (refine AS_lend [19, 12, 81, 82] (hact) rfl rfl rfl (by decide) rfl (by simp only [go_sem, init_env', Nat.reduceEqDiff, Nat.reduceAdd, Nat.reduceMul, reduceIte, Nat.reduceLeDiff, Nat.reduceLT, Nat.reduceBEq, reduceCtorEq, obsLend, Ob.lend, AV.lend, AV.lendL, carO, carC, ]) ?_)
    rintro r l' (⟨ha, rfl, rfl⟩ | ⟨s', ha, rfl, rfl⟩)
    · have hend : iter t (250 - k) s = s.press := by
        obtain ⟨m, hm⟩ : ∃ m, 250 - k = m + 1 := ⟨249 - k, by omega⟩
        rw [hm]; simp only [iter, ha]
      rw [hend] at i2
      rw [i2]
      generalize s.press = s2 at *
      (refine ⟨_, _, rfl, (by simp only [carO, carC, obsBack, Ob.back, AV.back, AV.backL, back_cellsG, ]; rfl), ?_⟩; simp only [go_sem, init_env', Nat.reduceEqDiff, Nat.reduceAdd, Nat.reduceMul, reduceIte, Nat.reduceLeDiff, Nat.reduceLT, Nat.reduceBEq, reduceCtorEq, hP, ownBack, ])
      (repeat ((first | refine WV_seq_ ?_ | refine WV_block ?_ | refine WV_ops ?_ | refine WV_skip ?_ | refine WV_exit ?_); (try simp only [go_sem, init_env', Nat.reduceEqDiff, Nat.reduceAdd, Nat.reduceMul, reduceIte, Nat.reduceLeDiff, Nat.reduceLT, Nat.reduceBEq, reduceCtorEq, hP, ]); (repeat refine qI ?_)))
      (refine WV_cond rfl (fun h => ?_) (fun h => ?_))
      · simp at h
      · (refine WV_exit ?_; simp only [go_sem, init_env', Nat.reduceEqDiff, Nat.reduceAdd, Nat.reduceMul, reduceIte, Nat.reduceLeDiff, Nat.reduceLT, Nat.reduceBEq, reduceCtorEq])
        (repeat ((first | refine WV_seq_ ?_ | refine WV_block ?_ | refine WV_ops ?_ | refine WV_skip ?_ | refine WV_exit ?_); (try simp only [go_sem, init_env', Nat.reduceEqDiff, Nat.reduceAdd, Nat.reduceMul, reduceIte, Nat.reduceLeDiff, Nat.reduceLT, Nat.reduceBEq, reduceCtorEq, hP, ]); (repeat refine qI ?_)))
        (refine WV_ret ?_; simp only [thenQ, inQ, RetQ, RetOk, resAll, resA]; simp only [go_sem, init_env', Nat.reduceEqDiff, Nat.reduceAdd, Nat.reduceMul, reduceIte, Nat.reduceLeDiff, Nat.reduceLT, Nat.reduceBEq, reduceCtorEq, tupA, AV.port, AV.portL, exists_eq_left', ]; (first | exact AVle.of rfl | refine AVle.of ?_ | skip))
    · have hend : iter t (250 - k) s = iter t (250 - (k + 1)) s' := by
        obtain ⟨m, hm⟩ : ∃ m, 250 - k = m + 1 := ⟨249 - k, by omega⟩
        rw [hm, show 250 - (k + 1) = m from by omega]; simp only [iter, ha]
      have hg := act_grown ht i1 ha
      have hmu' := act_mu i1 ha
      have hok' := act_ok ht i1 ha
      (refine ⟨_, _, rfl, (by simp only [carO, carC, obsBack, Ob.back, AV.back, AV.backL, back_cellsG, ]; rfl), ?_⟩; simp only [go_sem, init_env', Nat.reduceEqDiff, Nat.reduceAdd, Nat.reduceMul, reduceIte, Nat.reduceLeDiff, Nat.reduceLT, Nat.reduceBEq, reduceCtorEq, hP, ownBack, ])
      (repeat ((first | refine WV_seq_ ?_ | refine WV_block ?_ | refine WV_ops ?_ | refine WV_skip ?_ | refine WV_exit ?_); (try simp only [go_sem, init_env', Nat.reduceEqDiff, Nat.reduceAdd, Nat.reduceMul, reduceIte, Nat.reduceLeDiff, Nat.reduceLT, Nat.reduceBEq, reduceCtorEq, hP, ]); (repeat refine qI ?_)))
      (refine WV_cond rfl (fun h => ?_) (fun h => ?_))
      · (repeat ((first | refine WV_seq_ ?_ | refine WV_block ?_ | refine WV_ops ?_ | refine WV_skip ?_ | refine WV_exit ?_); (try simp only [go_sem, init_env', Nat.reduceEqDiff, Nat.reduceAdd, Nat.reduceMul, reduceIte, Nat.reduceLeDiff, Nat.reduceLT, Nat.reduceBEq, reduceCtorEq, hP, ]); (repeat refine qI ?_)))
        refine ⟨(k + 1, s'), ⟨hok', by rw [i2, hend], by simp only; omega, ?_, ?_, ?_, ?_, ?_⟩, by simp only; omega, ?_⟩
        · rcases hg.now with h | h <;> (simp only; omega)
        · have := hg.spells; simp only; omega
        · have := hg.plays; simp only; omega
        · have := hg.steps; simp only; omega
        · have := hg.q; simp only; omega
        · simp only [carD]
          exact Sub_au
      · simp at h

/-! ### Nothing to sort -/
theorem bools_zero (n : Nat) : (List.replicate n [bv false]).flatten = cellsG bcd (List.replicate n false) 0 := by
  have : ∀ n, (List.replicate n [bv false]).flatten = (flatG bcd (List.replicate n false)).map .c := by
    intro n
    induction n with
    | zero => rfl
    | succ n ih =>
      simp only [List.replicate_succ, List.flatten_cons, ih, flatG_cons]
      rfl
  rw [this]
  simp [cellsG]
theorem ins87e : FSpec Try.prog 87 [.c (prsC []), iv 0, iv 0, .fn 70 []] (.tup []) := by
  have w0 : IntKind.i64.wrap (0 + 1) = 1 := by decide
  refine FSpec_of c87 (Nat.le_refl _) (by decide) fun C hP hN hC hL => ?_
  simp only [ir87, prsC, List.map_nil]
  (repeat ((first | refine WV_seq_ ?_ | refine WV_block ?_ | refine WV_ops ?_ | refine WV_skip ?_ | refine WV_exit ?_); (try simp only [go_sem, init_env', Nat.reduceEqDiff, Nat.reduceAdd, Nat.reduceMul, reduceIte, Nat.reduceLeDiff, Nat.reduceLT, Nat.reduceBEq, reduceCtorEq, hP, w0]); (repeat refine qI ?_)))
  refine WV_loopK K87_1 [] (fun _ : Unit => True) (fun _ => 0) (fun _ => [(8, iv 1)]) (fun _ => []) () trivial ?_ ?_
  · exact Sub_au
  · rintro - -
    simp only [go_sem, init_env', Nat.reduceEqDiff, Nat.reduceAdd, Nat.reduceMul, reduceIte, Nat.reduceLeDiff, Nat.reduceLT, Nat.reduceBEq, reduceCtorEq]
    (repeat ((first | refine WV_seq_ ?_ | refine WV_block ?_ | refine WV_ops ?_ | refine WV_skip ?_ | refine WV_exit ?_); (try simp only [go_sem, init_env', Nat.reduceEqDiff, Nat.reduceAdd, Nat.reduceMul, reduceIte, Nat.reduceLeDiff, Nat.reduceLT, Nat.reduceBEq, reduceCtorEq, hP, ]); (repeat refine qI ?_)))
    (refine WV_cond rfl (fun h => ?_) (fun h => ?_))
    · simp at h
    · (refine WV_exit ?_; simp only [go_sem, init_env', Nat.reduceEqDiff, Nat.reduceAdd, Nat.reduceMul, reduceIte, Nat.reduceLeDiff, Nat.reduceLT, Nat.reduceBEq, reduceCtorEq])
      exact ⟨trivial, _, rfl, AVle.of rfl⟩
theorem stable80e : FSpec Try.prog 80 [.c (prsC []), iv 0, .fn 70 []] (.tup []) := by
  refine FSpec_of c80 (Nat.le_refl _) (by decide) fun C hP hN hC hL => ?_
  simp only [ir80, prsC, List.map_nil]
  (repeat ((first | refine WV_seq_ ?_ | refine WV_block ?_ | refine WV_ops ?_ | refine WV_skip ?_ | refine WV_exit ?_); (try simp only [go_sem, init_env', Nat.reduceEqDiff, Nat.reduceAdd, Nat.reduceMul, reduceIte, Nat.reduceLeDiff, Nat.reduceLT, Nat.reduceBEq, reduceCtorEq, hP, ]); (repeat refine qI ?_)))
  refine WV_loopK K80_1 [] (fun _ : Unit => True) (fun _ => 0) (fun _ => [(7, iv 0), (8, iv 20)]) (fun _ => []) () trivial ?_ ?_
  · exact Sub_au
  · rintro - -
    simp only [go_sem, init_env', Nat.reduceEqDiff, Nat.reduceAdd, Nat.reduceMul, reduceIte, Nat.reduceLeDiff, Nat.reduceLT, Nat.reduceBEq, reduceCtorEq]
    (repeat ((first | refine WV_seq_ ?_ | refine WV_block ?_ | refine WV_ops ?_ | refine WV_skip ?_ | refine WV_exit ?_); (try simp only [go_sem, init_env', Nat.reduceEqDiff, Nat.reduceAdd, Nat.reduceMul, reduceIte, Nat.reduceLeDiff, Nat.reduceLT, Nat.reduceBEq, reduceCtorEq, hP, ]); (repeat refine qI ?_)))
    (refine WV_cond rfl (fun h => ?_) (fun h => ?_))
    · simp at h
    · (refine WV_exit ?_; simp only [go_sem, init_env', Nat.reduceEqDiff, Nat.reduceAdd, Nat.reduceMul, reduceIte, Nat.reduceLeDiff, Nat.reduceLT, Nat.reduceBEq, reduceCtorEq])
      (repeat ((first | refine WV_seq_ ?_ | refine WV_block ?_ | refine WV_ops ?_ | refine WV_skip ?_ | refine WV_exit ?_); (try simp only [go_sem, init_env', Nat.reduceEqDiff, Nat.reduceAdd, Nat.reduceMul, reduceIte, Nat.reduceLeDiff, Nat.reduceLT, Nat.reduceBEq, reduceCtorEq, hP, ]); (repeat refine qI ?_)))
      (refine AS_pure (ins87e) rfl rfl rfl rfl rfl ?_; simp only [go_sem, init_env', Nat.reduceEqDiff, Nat.reduceAdd, Nat.reduceMul, reduceIte, Nat.reduceLeDiff, Nat.reduceLT, Nat.reduceBEq, reduceCtorEq, hP, ]; (repeat refine qI ?_); (repeat ((first | refine WV_seq_ ?_ | refine WV_block ?_ | refine WV_ops ?_ | refine WV_skip ?_ | refine WV_exit ?_); (try simp only [go_sem, init_env', Nat.reduceEqDiff, Nat.reduceAdd, Nat.reduceMul, reduceIte, Nat.reduceLeDiff, Nat.reduceLT, Nat.reduceBEq, reduceCtorEq, hP, ]); (repeat refine qI ?_))))
      refine WV_loopK K80_2 [] (fun _ : Unit => True) (fun _ => 0) (fun _ => [(6, iv 20)]) (fun _ => []) () trivial ?_ ?_
      · exact Sub_au
      · rintro - -
        simp only [go_sem, init_env', Nat.reduceEqDiff, Nat.reduceAdd, Nat.reduceMul, reduceIte, Nat.reduceLeDiff, Nat.reduceLT, Nat.reduceBEq, reduceCtorEq]
        (repeat ((first | refine WV_seq_ ?_ | refine WV_block ?_ | refine WV_ops ?_ | refine WV_skip ?_ | refine WV_exit ?_); (try simp only [go_sem, init_env', Nat.reduceEqDiff, Nat.reduceAdd, Nat.reduceMul, reduceIte, Nat.reduceLeDiff, Nat.reduceLT, Nat.reduceBEq, reduceCtorEq, hP, ]); (repeat refine qI ?_)))
        (refine WV_cond rfl (fun h => ?_) (fun h => ?_))
        · simp at h
        · (refine WV_exit ?_; simp only [go_sem, init_env', Nat.reduceEqDiff, Nat.reduceAdd, Nat.reduceMul, reduceIte, Nat.reduceLeDiff, Nat.reduceLT, Nat.reduceBEq, reduceCtorEq])
          exact ⟨trivial, _, rfl, AVle.of rfl⟩
theorem sort69e : FSpec Try.prog 69 [.c (prsC []), .fn 70 []] (.tup []) := by
  refine FSpec_of c69 (Nat.le_refl _) (by decide) fun C hP hN hC hL => ?_
  simp only [ir69, prsC, List.map_nil]
  (repeat ((first | refine WV_seq_ ?_ | refine WV_block ?_ | refine WV_ops ?_ | refine WV_skip ?_ | refine WV_exit ?_); (try simp only [go_sem, init_env', Nat.reduceEqDiff, Nat.reduceAdd, Nat.reduceMul, reduceIte, Nat.reduceLeDiff, Nat.reduceLT, Nat.reduceBEq, reduceCtorEq, hP, List.length_nil, Int.natCast_zero]); (repeat refine qI ?_)))
  (refine AS_pure (stable80e) rfl rfl rfl rfl rfl ?_; simp only [go_sem, init_env', Nat.reduceEqDiff, Nat.reduceAdd, Nat.reduceMul, reduceIte, Nat.reduceLeDiff, Nat.reduceLT, Nat.reduceBEq, reduceCtorEq, hP, ]; (repeat refine qI ?_); (repeat ((first | refine WV_seq_ ?_ | refine WV_block ?_ | refine WV_ops ?_ | refine WV_skip ?_ | refine WV_exit ?_); (try simp only [go_sem, init_env', Nat.reduceEqDiff, Nat.reduceAdd, Nat.reduceMul, reduceIte, Nat.reduceLeDiff, Nat.reduceLT, Nat.reduceBEq, reduceCtorEq, hP, ]); (repeat refine qI ?_))))
  exact ⟨_, rfl, AVle.of rfl⟩

set_option maxRecDepth 20000 in
set_option maxHeartbeats 16000000 in
theorem goes54e {t : Tray} (ht : TrayOk t) (hp : t.pres = []) : FSpec Try.prog 54 [t.av] (goesS t).run := by
  have hn6 := ht.n6
  have hnl : t.recs.length = t.n := rfl
  have hat := ht.at_
  have hmax : maxLen = 9223372036854775807 := rfl
  have w1 := w64 (n := 2 * (t.n : Int)) (by omega) (by omega)
  have ew : (2 * (t.n : Int)).toNat = 2 * t.n := by omega
  have hway : wayI (t.way == 1) = t.way := by rcases ht.way with h | h <;> rw [h] <;> rfl
  have hg : goesS t = goesWith t [] := by unfold goesS; rw [hp]; rfl
  have hcl := clone56 ([] : List Pr) (by simp)
  refine FSpec_of c54 (Nat.le_refl _) (by decide) fun C hP hN hC hL => ?_
  have htl := tail54 hP ht (q := []) (by rw [hp]) List.Pairwise.nil
  rw [← hg] at htl
  simp only [ir54, Tray.av, hp]
  have hat2 : (((t.at_.toNat : Nat) : Int)) = t.at_ := by omega
  simp only [carD, zero4, start, hway, hp, hat2, List.map_nil] at htl
  (repeat ((first | refine WV_seq_ ?_ | refine WV_block ?_ | refine WV_ops ?_ | refine WV_skip ?_ | refine WV_exit ?_); (try simp only [go_sem, init_env', Nat.reduceEqDiff, Nat.reduceAdd, Nat.reduceMul, reduceIte, Nat.reduceLeDiff, Nat.reduceLT, Nat.reduceBEq, reduceCtorEq, hP, recsC, List.length_map, hnl, w1, ew, bools_zero]); (repeat refine qI ?_)))
  refine ACall_of hcl rfl rfl rfl rfl rfl ?_
  simp only [go_sem, init_env', Nat.reduceEqDiff, Nat.reduceAdd, Nat.reduceMul, reduceIte, Nat.reduceLeDiff, Nat.reduceLT, Nat.reduceBEq, reduceCtorEq, hP]
  (repeat refine qI ?_)
  refine WV_nilbox 19 11 81 73 4 (by decide) (by decide) (by decide) rfl rfl rfl ?_
  simp only [go_sem, init_env', Nat.reduceEqDiff, Nat.reduceAdd, Nat.reduceMul, reduceIte, Nat.reduceLeDiff, Nat.reduceLT, Nat.reduceBEq, reduceCtorEq]
  refine WV_nilbox 19 12 82 41 2 (by decide) (by decide) (by decide) rfl rfl rfl ?_
  simp only [go_sem, init_env', Nat.reduceEqDiff, Nat.reduceAdd, Nat.reduceMul, reduceIte, Nat.reduceLeDiff, Nat.reduceLT, Nat.reduceBEq, reduceCtorEq]
  (repeat ((first | refine WV_seq_ ?_ | refine WV_block ?_ | refine WV_ops ?_ | refine WV_skip ?_ | refine WV_exit ?_); (try simp only [go_sem, init_env', Nat.reduceEqDiff, Nat.reduceAdd, Nat.reduceMul, reduceIte, Nat.reduceLeDiff, Nat.reduceLT, Nat.reduceBEq, reduceCtorEq, hP, prsC, List.map_nil]); (repeat refine qI ?_)))
  refine AS_pure sort69e rfl rfl rfl rfl rfl ?_
  simp only [go_sem, init_env', Nat.reduceEqDiff, Nat.reduceAdd, Nat.reduceMul, reduceIte, Nat.reduceLeDiff, Nat.reduceLT, Nat.reduceBEq, reduceCtorEq, hP]
  (repeat refine qI ?_)
  exact WV_sub (Sub_of (by simp only [go_sem, init_env', Nat.reduceEqDiff, Nat.reduceAdd, Nat.reduceMul, reduceIte, Nat.reduceLeDiff, Nat.reduceLT, Nat.reduceBEq, reduceCtorEq]; ((repeat' (first | exact EnvLe_e0 _ _ | refine EnvLe_upd ?_ ?_)) <;> ((try simp only [upd_app, e0_app, o0_app, Nat.reduceEqDiff, reduceIte]); first | exact AWk.refl _ _ | exact AWk.int (by omega) | exact AWk.int (by rw [w64 (by omega) (by omega)]; omega) | exact AWk.grow rfl | exact AWk.nil _ | exact AWk.of (by simp)))) (by simp only [go_sem, init_env', Nat.reduceEqDiff, Nat.reduceAdd, Nat.reduceMul, reduceIte, Nat.reduceLeDiff, Nat.reduceLT, Nat.reduceBEq, reduceCtorEq]; ((repeat' (first | exact ObjLe_o0 _ | exact ObjLe.rfl' _ | refine ObjLe_same ?_ | refine ObjLe_upd ?_ ?_ | refine ObjLe_new rfl ?_)) <;> rfl))) htl

theorem prs_grp (l : List Pr) : grp 2 l.length ((flatG Pr.cds l).take (l.length * 2)) = l.map Pr.cds := grp_cellsG pr_two l
theorem prs_fit (l : List Pr) : (l.length * 2 ≤ (flatG Pr.cds l).length) = True := by rw [flatG_len pr_two]; simp

set_option maxRecDepth 20000 in
set_option maxHeartbeats 16000000 in
theorem goes54n {t : Tray} (ht : TrayOk t) (hp : t.pres ≠ []) : FSpec Try.prog 54 [t.av] (goesS t).run := by
  have hn6 := ht.n6
  have hnl : t.recs.length = t.n := rfl
  have hat := ht.at_
  have hmax : maxLen = 9223372036854775807 := rfl
  have w1 := w64 (n := 2 * (t.n : Int)) (by omega) (by omega)
  have ew : (2 * (t.n : Int)).toNat = 2 * t.n := by omega
  have hway : wayI (t.way == 1) = t.way := by rcases ht.way with h | h <;> rw [h] <;> rfl
  have hpl : 0 < t.pres.length := List.length_pos_iff.2 hp
  have h13 := ht.p13
  have hg : goesS t = goesWith t (sortT t.pres) := rfl
  refine FSpec_of W.c54 (Nat.le_refl _) (by decide) fun C hP hN hC hL => ?_
  have htl := tail54 hP ht (q := sortT t.pres) (sortT_perm t.pres) (sortT_sorted t.pres)
  rw [← hg] at htl
  simp only [W.ir54, Tray.av]
  have hat2 : (((t.at_.toNat : Nat) : Int)) = t.at_ := by omega
  simp only [carD, zero4, start, hway, hat2, List.map_nil] at htl
  (repeat ((first | refine WV_seq_ ?_ | refine WV_block ?_ | refine WV_ops ?_ | refine WV_skip ?_ | refine WV_exit ?_); (try simp only [go_sem, init_env', Nat.reduceEqDiff, Nat.reduceAdd, Nat.reduceMul, reduceIte, Nat.reduceLeDiff, Nat.reduceLT, Nat.reduceBEq, reduceCtorEq, hP, recsC, List.length_map, hnl, w1, ew, bools_zero]); (repeat refine qI ?_)))
  refine AM_new (cloneN56 t.pres (by omega) hp) (by decide) rfl rfl rfl rfl rfl ?_
  rintro res os ⟨cap, j, h1, h2, h3, rfl, rfl⟩
  refine ⟨_, .vw 2 7 0 t.pres.length cap, .box (cellsG Pr.cds t.pres j), rfl, rfl, by simp only [Ob.back, back_cellsG]; rfl, ?_⟩
  simp only [go_sem, init_env', Nat.reduceEqDiff, Nat.reduceAdd, Nat.reduceMul, reduceIte, Nat.reduceLeDiff, Nat.reduceLT, Nat.reduceBEq, reduceCtorEq, hP]
  (repeat refine qI ?_)
  refine WV_nilbox 19 11 81 73 4 (by decide) (by decide) (by decide) rfl rfl rfl ?_
  simp only [go_sem, init_env', Nat.reduceEqDiff, Nat.reduceAdd, Nat.reduceMul, reduceIte, Nat.reduceLeDiff, Nat.reduceLT, Nat.reduceBEq, reduceCtorEq]
  refine WV_nilbox 19 12 82 41 2 (by decide) (by decide) (by decide) rfl rfl rfl ?_
  simp only [go_sem, init_env', Nat.reduceEqDiff, Nat.reduceAdd, Nat.reduceMul, reduceIte, Nat.reduceLeDiff, Nat.reduceLT, Nat.reduceBEq, reduceCtorEq]
  (repeat ((first | refine WV_seq_ ?_ | refine WV_block ?_ | refine WV_ops ?_ | refine WV_skip ?_ | refine WV_exit ?_); (try simp only [go_sem, init_env', Nat.reduceEqDiff, Nat.reduceAdd, Nat.reduceMul, reduceIte, Nat.reduceLeDiff, Nat.reduceLT, Nat.reduceBEq, reduceCtorEq, hP, ]); (repeat refine qI ?_)))
  refine AS_lend [7] (sort69 (jk := j) hpl (by omega) rfl (fun p hp => (ht.pres p hp).2)) rfl rfl rfl (by decide) rfl (by simp only [go_sem, init_env', Nat.reduceEqDiff, Nat.reduceAdd, Nat.reduceMul, reduceIte, Nat.reduceLeDiff, Nat.reduceLT, Nat.reduceBEq, reduceCtorEq, obsLend, Ob.lend, AV.lend, AV.lendL]) ?_
  rintro r l' ⟨rfl, l, hl, rfl⟩
  refine ⟨_, _, rfl, (by simp only [obsBack, Ob.back, back_cellsG]; rfl), ?_⟩
  simp only [go_sem, init_env', Nat.reduceEqDiff, Nat.reduceAdd, Nat.reduceMul, reduceIte, Nat.reduceLeDiff, Nat.reduceLT, Nat.reduceBEq, reduceCtorEq, hP, ownBack]
  have hso : arr t.pres l = sortT t.pres := by rw [ordered_eq hl]; rfl
  rw [hso]
  have hSl := sortT_len t.pres
  have hgr := prs_grp (sortT t.pres)
  have hfl := prs_fit (sortT t.pres)
  rw [hSl] at hgr hfl
  refine WV_freezeJ 7 (ds := flatG Pr.cds (sortT t.pres)) (junk := List.replicate j .non) rfl ?_
  simp only [go_sem, init_env', Nat.reduceEqDiff, Nat.reduceAdd, Nat.reduceMul, reduceIte, Nat.reduceLeDiff, Nat.reduceLT, Nat.reduceBEq, reduceCtorEq, hfl, hgr]
  exact WV_sub (Sub_of (by simp only [go_sem, init_env', Nat.reduceEqDiff, Nat.reduceAdd, Nat.reduceMul, reduceIte, Nat.reduceLeDiff, Nat.reduceLT, Nat.reduceBEq, reduceCtorEq]; ((repeat' (first | exact EnvLe_e0 _ _ | refine EnvLe_upd ?_ ?_)) <;> ((try simp only [upd_app, e0_app, o0_app, Nat.reduceEqDiff, reduceIte]); first | exact AWk.refl _ _ | exact AWk.int (by omega) | exact AWk.int (by rw [w64 (by omega) (by omega)]; omega) | exact AWk.grow rfl | exact AWk.nil _ | exact AWk.of (by simp)))) (by simp only [go_sem, init_env', Nat.reduceEqDiff, Nat.reduceAdd, Nat.reduceMul, reduceIte, Nat.reduceLeDiff, Nat.reduceLT, Nat.reduceBEq, reduceCtorEq]; ((repeat' (first | exact ObjLe_o0 _ | exact ObjLe.rfl' _ | refine ObjLe_same ?_ | refine ObjLe_upd ?_ ?_ | refine ObjLe_new rfl ?_)) <;> rfl))) htl
theorem goes54 {t : Tray} (ht : TrayOk t) : FSpec Try.prog 54 [t.av] (goesS t).run := by
  by_cases hp : t.pres = []
  · exact goes54e ht hp
  · exact goes54n ht hp
end Go.Proofs.Ytkpgpgaojjobgaa

/-
  What is true of a run: each press is served, the plays do not overlap: plain.
-/
namespace Go.Proofs.Ytkpgpgaojjobgaa
open Go Go.V

def Pressed (s : Cs) : Prop := ∀ p ∈ s.q, s.now < p.time
theorem pressed_press {t : Tray} {s : Cs} (h : CsOk t s) : Pressed s.press := by
  intro p hp
  have hs := h.press.sorted
  cases hq : s.press.q with
  | nil => rw [hq] at hp; cases hp
  | cons a q =>
    have h1 := pressQ_head s.now s.q s.pins a q hq
    rw [hq] at hp hs
    have h2 := (List.pairwise_cons.1 hs).1
    show s.now < p.time
    rcases List.mem_cons.1 hp with rfl | hp
    · exact h1
    · have := h2 p hp; omega

/-- What is true ahead of the first act, and stays so, is true at the end. -/
theorem iter_inv {t : Tray} (ht : TrayOk t) (I : Nat → Cs → Prop) (hp : ∀ k s, CsOk t s → I k s → I k s.press) (ha : ∀ k s s', CsOk t s → Pressed s → I k s → s.act1 t = some s' → I (k + 1) s') :
    ∀ (f k : Nat) (s : Cs), CsOk t s → mu t s < f → mu t s + k ≤ 200 → I k s → ∃ k', k' ≤ 200 ∧ I k' (iter t f s) ∧ (iter t f s).act1 t = none ∧ CsOk t (iter t f s) ∧ Pressed (iter t f s)
  | 0, k, s, _, hf, _, _ => by omega
  | f + 1, k, s, hs, hf, hk, hI => by
    simp only [iter]
    cases e : s.act t with
    | none => exact ⟨k, by omega, hp k s hs hI, e, hs.press, pressed_press hs⟩
    | some s' =>
      have h1 := act_mu hs e
      exact iter_inv ht I hp ha f (k + 1) s' (act_ok ht hs e) (by omega) (by omega) (ha k s.press s' hs.press (pressed_press hs) (hp k s hs hI) e)
theorem goes_inv {t : Tray} (ht : TrayOk t) {q : List Pr} (hq : q.Perm t.pres) (hqs : q.Pairwise fun a b => a.time ≤ b.time) (I : Nat → Cs → Prop) (h0 : I 0 ((start t q).mark (-1))) (hp : ∀ k s, CsOk t s → I k s → I k s.press)
    (ha : ∀ k s s', CsOk t s → Pressed s → I k s → s.act1 t = some s' → I (k + 1) s') : ∃ k', k' ≤ 200 ∧ I k' (goesWith t q) ∧ (goesWith t q).act1 t = none ∧ CsOk t (goesWith t q) ∧ Pressed (goesWith t q) := by
  have hm := start_mu ht (q := q) (by rw [hq.length_eq]; exact ht.p13)
  exact iter_inv ht I hp ha 250 0 _ (start_ok ht hq hqs) (by omega) (by omega) h0
/-- At the end no pin is set, and no press is to come. -/
theorem act1_none {t : Tray} {s : Cs} (h : s.act1 t = none) : s.q = [] ∧ s.pins.all (!·) = true := by
  unfold Cs.act1 at h
  split at h
  · rename_i hp
    split at h
    · rename_i hq; exact ⟨hq, hp⟩
    · cases h
  · cases h
/-- The two kinds of acts. -/
theorem act1_cases {t : Tray} {s s' : Cs} (h : s.act1 t = some s') : (∃ p q, s.q = p :: q ∧ s.pins.all (!·) = true ∧ s' = { s with now := p.time }) ∨ (s.pins.all (!·) = false ∧ s' = (s.play t).next t) := by
  unfold Cs.act1 at h
  split at h
  · rename_i hp
    split at h
    · cases h
    · rename_i p q hq
      exact .inl ⟨p, q, hq, hp, (Option.some.inj h).symm⟩
  · rename_i hp
    exact .inr ⟨by simpa using hp, (Option.some.inj h).symm⟩
theorem next_keeps (t : Tray) (s : Cs) : (s.next t).q = s.q ∧ (s.next t).pins = s.pins ∧ (s.next t).plays = s.plays ∧ (s.next t).end_ = s.end_ := by
  obtain ⟨m1, m2, m3, m4, m5⟩ := move_q t s
  exact ⟨m1, m2, m3, m5⟩
theorem next_now {t : Tray} (ht : 0 ≤ t.step) (s : Cs) : s.now ≤ (s.next t).now ∧ (s.next t).now ≤ s.now + t.step ∧ s.steps ≤ (s.next t).steps ∧ (s.next t).steps ≤ s.steps + 1 := move_now ht s
theorem play_yes {t : Tray} {s : Cs} (h : s.pins.getD s.pos false = true) : (s.play t).q = s.q ∧ (s.play t).pins = s.pins.set s.pos false ∧ (s.play t).plays = s.plays ++ [⟨s.pos, s.now⟩] ∧ (s.play t).now = s.now + secs t s.pos ∧ (s.play t).end_ = s.now + secs t s.pos ∧ (s.play t).steps = s.steps := by
  unfold Cs.play
  rw [if_pos h]
  exact ⟨rfl, rfl, rfl, rfl, rfl, rfl⟩
theorem play_no {t : Tray} {s : Cs} (h : ¬ s.pins.getD s.pos false = true) : s.play t = s := by
  unfold Cs.play; rw [if_neg h]

def secsI (t : Tray) (s : Int) : Int := secs t s.toNat
def trues (l : List Bool) : Nat := l.countP id
theorem trues_set_false : ∀ {l : List Bool} {k : Nat}, l.getD k false = true → trues (l.set k false) + 1 = trues l
  | [], k, h => by simp at h
  | b :: l, 0, h => by
    have h : b = true := by simpa using h
    subst h
    simp [trues]
  | b :: l, k + 1, h => by
    have := trues_set_false (l := l) (k := k) (by simpa using h)
    unfold trues at *
    simp only [List.set_cons_succ, List.countP_cons]
    omega
theorem trues_set_true : ∀ (l : List Bool) (k : Nat), trues (l.set k true) ≤ trues l + 1
  | [], k => by simp [trues]
  | b :: l, 0 => by
    unfold trues
    simp only [List.set_cons_zero, List.countP_cons]
    cases b <;> simp
  | b :: l, k + 1 => by
    have := trues_set_true l k
    unfold trues at *
    simp only [List.set_cons_succ, List.countP_cons]
    omega
theorem pressQ_count (now : Int) : ∀ (q : List Pr) (pins : List Bool), trues (pressQ now q pins).2 + (pressQ now q pins).1.length ≤ trues pins + q.length
  | [], pins => Nat.le_refl _
  | p :: q, pins => by
    simp only [pressQ]
    split
    · have := pressQ_count now q (pins.set p.side.toNat true)
      have := trues_set_true pins p.side.toNat
      simp only [List.length_cons]; omega
    · exact Nat.le_refl _
theorem getD_set_true {l : List Bool} {i k : Nat} (h : l.getD k false = true) : (l.set i true).getD k false = true := by
  rw [List.getD_eq_getElem?_getD, List.getElem?_set]
  split
  · rename_i e; subst e
    split
    · rfl
    · rename_i h2
      rw [List.getD_eq_getElem?_getD, List.getElem?_eq_none (by omega)] at h; simp at h
  · rwa [List.getD_eq_getElem?_getD] at h
/-- Behind the presses a pin is set that was set; and those of the presses that are over. -/
theorem pressQ_pins (now : Int) : ∀ (q : List Pr) (pins : List Bool), (∀ p ∈ q, 0 ≤ p.side ∧ p.side < (pins.length : Int)) → (∀ k, pins.getD k false = true → (pressQ now q pins).2.getD k false = true) ∧ ∀ p ∈ q, p ∈ (pressQ now q pins).1 ∨ (p.time ≤ now ∧ (pressQ now q pins).2.getD p.side.toNat false = true)
  | [], pins, _ => ⟨fun k h => h, fun p hp => by cases hp⟩
  | a :: q, pins, hl => by
    simp only [pressQ]
    split
    · rename_i hle
      have ha := hl a (by simp)
      obtain ⟨i1, i2⟩ := pressQ_pins now q (pins.set a.side.toNat true) fun p hp => by rw [List.length_set]; exact hl p (by simp [hp])
      refine ⟨fun k h => i1 k (getD_set_true h), fun p hp => ?_⟩
      rcases List.mem_cons.1 hp with rfl | hp
      · right
        refine ⟨hle, i1 _ ?_⟩
        rw [List.getD_eq_getElem?_getD, List.getElem?_set, if_pos rfl, if_pos (by omega)]
        rfl
      · exact i2 p hp
    · exact ⟨fun k h => h, fun p hp => .inl hp⟩

/-- What is so of a carriage that goes. -/
structure Inv (t : Tray) (s : Cs) : Prop where
  srv : ∀ p ∈ t.pres, p ∈ s.q ∨ (p.time ≤ s.now ∧ (s.pins.getD p.side.toNat false = true ∨ ∃ x ∈ s.plays, x.side = p.side ∧ p.time ≤ x.time))
  ply : ∀ x ∈ s.plays, 0 ≤ x.side ∧ x.side < 2 * (t.n : Int) ∧ 0 ≤ x.time ∧ x.time + secsI t x.side ≤ s.now
  spc : s.plays.Pairwise fun a b => a.time + secsI t a.side ≤ b.time
  end_ : s.end_ = match s.plays.getLast? with | none => 0 | some x => x.time + secsI t x.side
  cnt : s.plays.length + trues s.pins + s.q.length ≤ t.pres.length
theorem Inv.press {t : Tray} (ht : TrayOk t) {s : Cs} (hs : CsOk t s) (h : Inv t s) : Inv t s.press := by
  have hl : ∀ p ∈ s.q, 0 ≤ p.side ∧ p.side < (s.pins.length : Int) := fun p hp => by have := (hs.q p hp).1; have := hs.pins; omega
  obtain ⟨h1, h2⟩ := pressQ_pins s.now s.q s.pins hl
  refine ⟨fun p hp => ?_, h.ply, h.spc, h.end_, ?_⟩
  · rcases h.srv p hp with h3 | ⟨h3, h4⟩
    · rcases h2 p h3 with h5 | ⟨h5, h6⟩
      · exact .inl h5
      · exact .inr ⟨h5, .inl h6⟩
    · rcases h4 with h4 | h4
      · exact .inr ⟨h3, .inl (h1 _ h4)⟩
      · exact .inr ⟨h3, .inr h4⟩
  · have := pressQ_count s.now s.q s.pins
    have := h.cnt
    show s.plays.length + trues (pressQ s.now s.q s.pins).2 + (pressQ s.now s.q s.pins).1.length ≤ _
    omega
theorem Inv.act1 {t : Tray} (ht : TrayOk t) {s s' : Cs} (hs : CsOk t s) (hpr : Pressed s) (h : Inv t s) (e : s.act1 t = some s') : Inv t s' := by
  rcases act1_cases e with ⟨p, q, hq, hpins, rfl⟩ | ⟨hpins, rfl⟩
  · have hnow := hpr p (by rw [hq]; simp)
    refine ⟨fun x hx => ?_, fun x hx => ?_, h.spc, h.end_, h.cnt⟩
    · rcases h.srv x hx with h3 | ⟨h3, h4⟩
      · exact .inl h3
      · exact .inr ⟨by simp only; omega, h4⟩
    · have := h.ply x hx; simp only; omega
  · obtain ⟨n1, n2, n3, n4⟩ := next_keeps t (s.play t)
    obtain ⟨m1, m2, m3, m4⟩ := next_now ht.step.1 (s.play t)
    have hpos := pos_lt hs
    have hsec := secs_ok ht hpos
    have hst := ht.step
    by_cases hp : s.pins.getD s.pos false = true
    · obtain ⟨p1, p2, p3, p4, p5, p6⟩ := play_yes (t := t) hp
      have hsI : secsI t ((s.pos : Nat) : Int) = secs t s.pos := by unfold secsI; rw [Int.toNat_natCast]
      refine ⟨fun x hx => ?_, fun x hx => ?_, ?_, ?_, ?_⟩
      · rw [n1, n2, n3, p1, p2, p3]
        rcases h.srv x hx with h3 | ⟨h3, h4⟩
        · exact .inl h3
        · refine .inr ⟨by omega, ?_⟩
          rcases h4 with h4 | ⟨y, hy, hy2⟩
          · by_cases es : s.pos = x.side.toNat
            · refine .inr ⟨⟨s.pos, s.now⟩, by simp, ?_, h3⟩
              have := (ht.pres x hx).1
              simp only; omega
            · refine .inl ?_
              rw [List.getD_eq_getElem?_getD, List.getElem?_set, if_neg es, ← List.getD_eq_getElem?_getD]
              exact h4
          · exact .inr ⟨y, by simp [hy], hy2⟩
      · rw [n3, p3] at hx
        rcases List.mem_append.1 hx with hx | hx
        · have := h.ply x hx; omega
        · simp only [List.mem_singleton] at hx
          subst hx
          have := hs.now
          simp only [hsI]
          omega
      · rw [n3, p3]
        refine List.pairwise_append.2 ⟨h.spc, by simp, fun x hx y hy => ?_⟩
        simp only [List.mem_singleton] at hy
        subst hy
        exact (h.ply x hx).2.2.2
      · rw [n4, p5, n3, p3, List.getLast?_concat]
        simp only [hsI]
      · rw [n1, n2, n3, p1, p2, p3, List.length_append]
        have := trues_set_false hp
        have := h.cnt
        simp only [List.length_cons, List.length_nil]; omega
    · rw [play_no hp] at n1 n2 n3 n4 m1 m2 m3 m4 ⊢
      refine ⟨fun x hx => ?_, fun x hx => ?_, ?_, ?_, ?_⟩
      · rw [n1, n2, n3]
        rcases h.srv x hx with h3 | ⟨h3, h4⟩
        · exact .inl h3
        · exact .inr ⟨by omega, h4⟩
      · rw [n3] at hx
        have := h.ply x hx; omega
      · rw [n3]; exact h.spc
      · rw [n4, n3]; exact h.end_
      · rw [n1, n2, n3]; exact h.cnt
theorem Inv.start {t : Tray} {q : List Pr} (hq : q.Perm t.pres) : Inv t ((start t q).mark (-1)) := by
  refine ⟨fun p hp => .inl (hq.mem_iff.2 hp), fun x hx => ?_, List.Pairwise.nil, rfl, ?_⟩
  · cases hx
  · show 0 + trues (List.replicate (2 * t.n) false) + q.length ≤ _
    have : trues (List.replicate (2 * t.n) false) = 0 := by
      unfold trues; rw [List.countP_eq_zero]; intro a ha; have := (List.mem_replicate.1 ha).2; simp [this]
    have := hq.length_eq
    omega
structure RunOk (t : Tray) (s : Cs) : Prop where
  inv : Inv t s
  now : s.now ≤ 300000
  steps : 0 ≤ s.steps ∧ s.steps ≤ 200
  q : s.q = []
  pins : s.pins.all (!·) = true
  spells : s.spells.length ≤ 1000
theorem run_ok {t : Tray} (ht : TrayOk t) {q : List Pr} (hq : q.Perm t.pres) (hqs : q.Pairwise fun a b => a.time ≤ b.time) : RunOk t (goesWith t q) := by
  obtain ⟨k, hk, ⟨h1, h2, h3, h4⟩, h5, _, _⟩ := goes_inv ht hq hqs (fun k s => Inv t s ∧ s.now ≤ 10000 + 1059 * (k : Int) ∧ (0 ≤ s.steps ∧ s.steps ≤ (k : Int)) ∧ s.spells.length ≤ 1 + 3 * k) ⟨Inv.start hq, by simp [start, Cs.mark], by simp [start, Cs.mark], by simp [start, Cs.mark]⟩
    (fun k s hs ⟨i1, i2, i3, i4⟩ => ⟨i1.press ht hs, i2, i3, i4⟩)
    (fun k s s' hs hpr ⟨i1, i2, i3, i4⟩ e => by
      have hg := act1_grown ht hs e
      refine ⟨i1.act1 ht hs hpr e, ?_, ?_, ?_⟩
      · rcases hg.now with h | h <;> omega
      · have := hg.steps; omega
      · have := hg.spells; omega)
  obtain ⟨e1, e2⟩ := act1_none h5
  exact ⟨h1, by omega, by omega, e1, e2, by omega⟩

/-- The number of the play that serves a press. -/
def servesI : List Pr → Pr → Int → Int
  | [], _, _ => -1
  | x :: l, p, k => if x.side = p.side ∧ p.time ≤ x.time then k else servesI l p (k + 1)
theorem servesI_spec (p : Pr) : ∀ (l : List Pr) (k : Int), (servesI l p k = -1 ∧ ∀ x ∈ l, ¬ (x.side = p.side ∧ p.time ≤ x.time)) ∨ ∃ j, ∃ h : j < l.length, servesI l p k = k + j ∧ (l[j].side = p.side ∧ p.time ≤ l[j].time) ∧ ∀ i (hi : i < j), ¬ ((l[i]'(by omega)).side = p.side ∧ p.time ≤ (l[i]'(by omega)).time)
  | [], k => .inl ⟨rfl, by simp⟩
  | x :: l, k => by
    by_cases h : x.side = p.side ∧ p.time ≤ x.time
    · refine .inr ⟨0, by simp, ?_, h, fun i hi => by omega⟩
      simp only [servesI, if_pos h]; simp
    · have e : servesI (x :: l) p k = servesI l p (k + 1) := by simp only [servesI, if_neg h]
      rcases servesI_spec p l (k + 1) with ⟨h1, h2⟩ | ⟨j, hj, h1, h2, h3⟩
      · refine .inl ⟨by rw [e, h1], fun y hy => ?_⟩
        rcases List.mem_cons.1 hy with rfl | hy
        · exact h
        · exact h2 y hy
      · refine .inr ⟨j + 1, by simpa using hj, by rw [e, h1]; omega, h2, fun i hi => ?_⟩
        cases i with
        | zero => exact h
        | succ i => exact h3 i (by omega)
def playsS (t : Tray) : List Pr := (goesS t).plays
/-- Each press is served. -/
theorem served_ok {t : Tray} {s : Cs} (h : RunOk t s) {p : Pr} (hp : p ∈ t.pres) : ∃ j, ∃ h : j < s.plays.length, servesI s.plays p 0 = (j : Int) ∧ (s.plays[j].side = p.side ∧ p.time ≤ s.plays[j].time) ∧ ∀ i (hi : i < j), ¬ ((s.plays[i]'(by omega)).side = p.side ∧ p.time ≤ (s.plays[i]'(by omega)).time) := by
  rcases servesI_spec p s.plays 0 with ⟨h1, h2⟩ | ⟨j, hj, h1, h2, h3⟩
  · exfalso
    rcases h.inv.srv p hp with h3 | ⟨h3, h4⟩
    · rw [h.q] at h3; cases h3
    · rcases h4 with h4 | ⟨x, hx, hx2⟩
      · have hk : p.side.toNat < s.pins.length := by
          rcases Nat.lt_or_ge p.side.toNat s.pins.length with h | h
          · exact h
          · rw [List.getD_eq_getElem?_getD, List.getElem?_eq_none h] at h4; simp at h4
        rw [List.getD_eq_getElem?_getD, List.getElem?_eq_getElem hk] at h4
        have := List.all_eq_true.1 h.pins _ (List.getElem_mem hk)
        simp at h4
        rw [h4] at this
        cases this
      · exact h2 x hx hx2
  · exact ⟨j, hj, by rw [h1]; omega, h2, h3⟩
theorem goes_ok {t : Tray} (ht : TrayOk t) : RunOk t (goesS t) := run_ok ht (sortT_perm t.pres) (sortT_sorted t.pres)
end Go.Proofs.Ytkpgpgaojjobgaa

namespace Go.Proofs.Ytkpgpgaojjobgaa
open Go Go.V
@[reducible] def o22_0 : List Ins := [⟨(some 1), .box 5 (.t 0), none, true⟩,
  ⟨(some 2), .mv (.k (.c (.raw (.slice none 0 0)))), none, true⟩,
  ⟨(some 3), .mv (.k (.c (.int .i64 0))), none, true⟩]
@[reducible] def o22_1 : List Ins := [⟨(some 5), .ld false 5 (.t 1), none, true⟩,
  ⟨(some 6), .call (.k (.fn 40 [])) [(.t 5)], none, true⟩,
  ⟨(some 4), .mv (.t 6), none, true⟩]
@[reducible] def o22_2 : List Ins := [⟨(some 7), .mv (.t 4), none, true⟩,
  ⟨(some 8), .bin .neq (.t 7) (.k (.c (.int .i64 0))), none, true⟩]
@[reducible] def o22_3 : List Ins := [⟨(some 9), .mv (.t 4), none, true⟩,
  ⟨(some 2), .mv (.k (.c (.raw (.slice none 0 0)))), none, true⟩,
  ⟨(some 3), .mv (.t 9), none, true⟩]
@[reducible] def v22_4 : VC := (.seq (.ops o22_3) .ret)
@[reducible] def v22_5 : VC := (.cond (.t 8) v22_4 .skip)
@[reducible] def v22_6 : VC := (.seq (.ops o22_2) v22_5)
@[reducible] def o22_7 : List Ins := [⟨(some 10), .ld false 5 (.t 1), none, true⟩,
  ⟨(some 11), .call (.k (.fn 54 [])) [(.t 10)], none, true⟩,
  ⟨(some 12), .fld true 1 1 (.t 11), none, true⟩,
  ⟨(some 2), .mv (.t 12), none, true⟩,
  ⟨(some 3), .mv (.k (.c (.int .i64 0))), none, true⟩]
@[reducible] def v22_8 : VC := (.seq (.ops o22_7) .ret)
@[reducible] def v22_9 : VC := (.seq (.seq (.ops o22_1) v22_6) v22_8)
def ir22 : FC := ⟨1, 13, [.t 2, .t 3], (.seq (.ops o22_0) v22_9)⟩
@[reducible] def o74_0 : List Ins := [⟨(some 2), .box 2 (.t 0), none, true⟩,
  ⟨(some 3), .mv (.k (.c (.bool false))), none, true⟩]
@[reducible] def o74_1 : List Ins := [⟨(some 4), .fa 0 (.t 2), none, true⟩,
  ⟨(some 5), .ld true 1 (.t 4), none, true⟩,
  ⟨(some 6), .fa 0 (.t 1), none, true⟩,
  ⟨(some 7), .ld true 1 (.t 6), none, true⟩,
  ⟨(some 8), .bin .eql (.t 5) (.t 7), none, true⟩,
  ⟨(some 9), .mv (.t 8), none, true⟩,
  ⟨(some 10), .fa 1 (.t 2), (some (9, true)), true⟩,
  ⟨(some 11), .ld true 1 (.t 10), (some (9, true)), true⟩,
  ⟨(some 12), .fa 1 (.t 1), (some (9, true)), true⟩,
  ⟨(some 13), .ld true 1 (.t 12), (some (9, true)), true⟩,
  ⟨(some 14), .bin .geq (.t 11) (.t 13), (some (9, true)), true⟩,
  ⟨(some 15), .pick (.t 9) (.t 14) (.k (.c (.bool false))), none, true⟩,
  ⟨(some 3), .mv (.t 15), none, true⟩]
@[reducible] def v74_2 : VC := (.seq (.ops o74_1) .ret)
def ir74 : FC := ⟨2, 16, [.t 3], (.seq (.ops o74_0) v74_2)⟩
@[reducible] def o73_0 : List Ins := [⟨(some 4), .mv (.k (.c (.int .i64 0))), none, true⟩]
@[reducible] def o73_1 : List Ins := [⟨(some 6), .mv (.t 0), none, true⟩,
  ⟨(some 7), .len (.t 6), none, true⟩,
  ⟨(some 8), .mv (.k (.c (.int .i64 0))), none, true⟩]
@[reducible] def o73_2 : List Ins := [⟨(some 9), .bin .lss (.t 8) (.t 7), none, true⟩]
@[reducible] def o73_3 : List Ins := [⟨(some 10), .mv (.t 8), none, true⟩,
  ⟨(some 5), .mv (.t 10), none, true⟩]
@[reducible] def o73_4 : List Ins := [⟨(some 11), .mv (.t 1), none, true⟩,
  ⟨(some 12), .mv (.t 0), none, true⟩,
  ⟨(some 13), .mv (.t 5), none, true⟩,
  ⟨(some 14), .ia 2 (.t 12) (.t 13), none, true⟩,
  ⟨(some 15), .ld false 2 (.t 14), none, true⟩,
  ⟨(some 16), .call (.t 11) [(.t 15)], none, true⟩]
@[reducible] def o73_5 : List Ins := [⟨(some 17), .mv (.t 5), none, true⟩,
  ⟨(some 4), .mv (.t 17), none, true⟩]
@[reducible] def v73_6 : VC := (.seq (.ops o73_5) .ret)
@[reducible] def v73_7 : VC := (.cond (.t 16) v73_6 .skip)
@[reducible] def v73_8 : VC := (.seq (.ops o73_4) v73_7)
@[reducible] def v73_9 : VC := (.seq (.ops o73_3) v73_8)
@[reducible] def o73_10 : List Ins := [⟨(some 18), .bin .add (.t 8) (.k (.c (.int .i64 1))), none, true⟩,
  ⟨(some 8), .mv (.t 18), none, true⟩]
@[reducible] def v73_11 : VC := (.seq (.block 1 v73_9) (.ops o73_10))
@[reducible] def v73_12 : VC := (.seq (.cond (.t 9) .skip (.exit 0)) v73_11)
@[reducible] def v73_13 : VC := (.seq (.ops o73_2) v73_12)
-- K73_1: changed and kept: [8]
@[reducible] def K73_1 : List Nat := [0, 1, 7]
@[reducible] def v73_14 : VC := (.loop v73_13)
@[reducible] def v73_15 : VC := (.block 0 v73_14)
@[reducible] def o73_16 : List Ins := [⟨(some 4), .mv (.k (.c (.int .i64 (-1)))), none, true⟩]
@[reducible] def v73_17 : VC := (.seq (.ops o73_16) .ret)
@[reducible] def v73_18 : VC := (.seq (.seq (.ops o73_1) v73_15) v73_17)
def ir73 : FC := ⟨2, 19, [.t 4], (.seq (.ops o73_0) v73_18)⟩
@[reducible] def o57_0 : List Ins := [⟨(some 3), .box 2 (.t 1), none, true⟩,
  ⟨(some 4), .mv (.k (.c (.int .i64 0))), none, true⟩]
@[reducible] def o57_1 : List Ins := [⟨(some 5), .mv (.t 0), none, true⟩,
  ⟨(some 6), .mkfn 74 [(.t 3)], none, true⟩,
  ⟨(some 7), .call (.k (.fn 73 [])) [(.t 5), (.t 6)], none, true⟩,
  ⟨(some 4), .mv (.t 7), none, true⟩]
@[reducible] def v57_2 : VC := (.seq (.ops o57_1) .ret)
def ir57 : FC := ⟨2, 8, [.t 4], (.seq (.ops o57_0) v57_2)⟩
@[reducible] def o58_0 : List Ins := [⟨(some 2), .box 5 (.t 0), none, true⟩,
  ⟨(some 4), .mv (.k (.c (.int .i64 0))), none, true⟩,
  ⟨(some 5), .mv (.k (.c (.raw (.slice none 0 0)))), none, true⟩,
  ⟨(some 6), .mv (.k (.c (.int .i64 0))), none, true⟩]
@[reducible] def o58_1 : List Ins := [⟨(some 9), .ld false 5 (.t 2), none, true⟩,
  ⟨(some 10), .call (.k (.fn 40 [])) [(.t 9)], none, true⟩,
  ⟨(some 7), .mv (.t 10), none, true⟩]
@[reducible] def o58_2 : List Ins := [⟨(some 11), .mv (.t 7), none, true⟩,
  ⟨(some 12), .bin .neq (.t 11) (.k (.c (.int .i64 0))), none, true⟩]
@[reducible] def o58_3 : List Ins := [⟨(some 13), .mv (.t 7), none, true⟩,
  ⟨(some 4), .mv (.k (.c (.int .i64 0))), none, true⟩,
  ⟨(some 5), .mv (.k (.c (.raw (.slice none 0 0)))), none, true⟩,
  ⟨(some 6), .mv (.t 13), none, true⟩]
@[reducible] def v58_4 : VC := (.seq (.ops o58_3) .ret)
@[reducible] def v58_5 : VC := (.cond (.t 12) v58_4 .skip)
@[reducible] def v58_6 : VC := (.seq (.ops o58_2) v58_5)
@[reducible] def o58_7 : List Ins := [⟨(some 14), .mv (.t 1), none, true⟩,
  ⟨(some 15), .bin .lss (.t 14) (.k (.c (.int .i64 0))), none, true⟩,
  ⟨(some 16), .mv (.t 15), none, true⟩,
  ⟨(some 17), .mv (.t 1), (some (16, false)), true⟩,
  ⟨(some 18), .fa 4 (.t 2), (some (16, false)), true⟩,
  ⟨(some 19), .ld true 1 (.t 18), (some (16, false)), true⟩,
  ⟨(some 20), .len (.t 19), (some (16, false)), true⟩,
  ⟨(some 21), .bin .geq (.t 17) (.t 20), (some (16, false)), true⟩,
  ⟨(some 22), .pick (.t 16) (.k (.c (.bool true))) (.t 21), none, true⟩]
@[reducible] def o58_8 : List Ins := [⟨(some 4), .mv (.k (.c (.int .i64 0))), none, true⟩,
  ⟨(some 5), .mv (.k (.c (.raw (.slice none 0 0)))), none, true⟩,
  ⟨(some 6), .mv (.k (.c (.int .i64 1))), none, true⟩]
@[reducible] def v58_9 : VC := (.seq (.ops o58_8) .ret)
@[reducible] def v58_10 : VC := (.cond (.t 22) v58_9 .skip)
@[reducible] def o58_11 : List Ins := [⟨(some 23), .ld false 5 (.t 2), none, true⟩,
  ⟨(some 24), .call (.k (.fn 54 [])) [(.t 23)], none, true⟩,
  ⟨(some 25), .fld true 1 1 (.t 24), none, true⟩,
  ⟨(some 8), .mv (.t 25), none, true⟩]
@[reducible] def o58_12 : List Ins := [⟨(some 26), .mv (.t 8), none, true⟩,
  ⟨(some 27), .fa 4 (.t 2), none, true⟩,
  ⟨(some 28), .ld true 1 (.t 27), none, true⟩,
  ⟨(some 29), .mv (.t 1), none, true⟩,
  ⟨(some 30), .ia 2 (.t 28) (.t 29), none, true⟩,
  ⟨(some 31), .ld false 2 (.t 30), none, true⟩,
  ⟨(some 32), .call (.k (.fn 57 [])) [(.t 26), (.t 31)], none, true⟩,
  ⟨(some 33), .mv (.t 8), none, true⟩,
  ⟨(some 4), .mv (.t 32), none, true⟩,
  ⟨(some 5), .mv (.t 33), none, true⟩,
  ⟨(some 6), .mv (.k (.c (.int .i64 0))), none, true⟩]
@[reducible] def v58_13 : VC := (.seq (.ops o58_12) .ret)
@[reducible] def v58_14 : VC := (.seq (.ops o58_11) v58_13)
@[reducible] def v58_15 : VC := (.seq (.seq (.ops o58_7) v58_10) v58_14)
@[reducible] def v58_16 : VC := (.seq (.seq (.ops o58_1) v58_6) v58_15)
def ir58 : FC := ⟨2, 34, [.t 4, .t 5, .t 6], (.seq (.ops o58_0) v58_16)⟩
@[reducible] def o27_0 : List Ins := [⟨(some 2), .box 5 (.t 0), none, true⟩,
  ⟨(some 4), .mv (.k (.c (.int .i64 0))), none, true⟩,
  ⟨(some 5), .mv (.k (.c (.int .i64 0))), none, true⟩]
@[reducible] def o27_1 : List Ins := [⟨(some 10), .ld false 5 (.t 2), none, true⟩,
  ⟨(some 11), .mv (.t 1), none, true⟩,
  ⟨(some 12), .call (.k (.fn 58 [])) [(.t 10), (.t 11)], none, true⟩,
  ⟨(some 9), .mv (.t 12), none, true⟩,
  ⟨(some 13), .ext (.t 9) 0, none, true⟩,
  ⟨(some 14), .ext (.t 9) 1, none, true⟩,
  ⟨(some 15), .ext (.t 9) 2, none, true⟩,
  ⟨(some 6), .mv (.t 13), none, true⟩,
  ⟨(some 7), .mv (.t 14), none, true⟩,
  ⟨(some 8), .mv (.t 15), none, true⟩]
@[reducible] def o27_2 : List Ins := [⟨(some 16), .mv (.t 8), none, true⟩,
  ⟨(some 17), .bin .neq (.t 16) (.k (.c (.int .i64 0))), none, true⟩]
@[reducible] def o27_3 : List Ins := [⟨(some 18), .mv (.t 8), none, true⟩,
  ⟨(some 4), .mv (.k (.c (.int .i64 0))), none, true⟩,
  ⟨(some 5), .mv (.t 18), none, true⟩]
@[reducible] def v27_4 : VC := (.seq (.ops o27_3) .ret)
@[reducible] def v27_5 : VC := (.cond (.t 17) v27_4 .skip)
@[reducible] def o27_6 : List Ins := [⟨(some 19), .mv (.t 7), none, false⟩,
  ⟨(some 20), .mv (.t 6), none, false⟩,
  ⟨(some 21), .ia 2 (.t 19) (.t 20), none, false⟩,
  ⟨(some 22), .fa 1 (.t 21), none, false⟩,
  ⟨(some 23), .ld true 1 (.t 22), none, false⟩,
  ⟨(some 24), .fa 4 (.t 2), none, false⟩,
  ⟨(some 25), .ld true 1 (.t 24), none, false⟩,
  ⟨(some 26), .mv (.t 1), none, false⟩,
  ⟨(some 27), .ia 2 (.t 25) (.t 26), none, false⟩,
  ⟨(some 28), .fa 1 (.t 27), none, false⟩,
  ⟨(some 29), .ld true 1 (.t 28), none, false⟩,
  ⟨(some 30), .bin .sub (.t 23) (.t 29), none, true⟩,
  ⟨(some 4), .mv (.t 30), none, true⟩,
  ⟨(some 5), .mv (.k (.c (.int .i64 0))), none, true⟩]
@[reducible] def v27_7 : VC := (.seq (.ops o27_6) .ret)
@[reducible] def v27_8 : VC := (.seq (.seq (.ops o27_2) v27_5) v27_7)
@[reducible] def v27_9 : VC := (.seq (.ops o27_1) v27_8)
def ir27 : FC := ⟨2, 31, [.t 4, .t 5], (.seq (.ops o27_0) v27_9)⟩
@[reducible] def o62_0 : List Ins := [⟨(some 1), .box 5 (.t 0), none, true⟩,
  ⟨(some 2), .mv (.k (.c (.int .i64 0))), none, true⟩]
@[reducible] def o62_1 : List Ins := [⟨(some 4), .ld false 5 (.t 1), none, true⟩,
  ⟨(some 5), .call (.k (.fn 40 [])) [(.t 4)], none, true⟩,
  ⟨(some 3), .mv (.t 5), none, true⟩]
@[reducible] def o62_2 : List Ins := [⟨(some 6), .mv (.t 3), none, true⟩,
  ⟨(some 7), .bin .neq (.t 6) (.k (.c (.int .i64 0))), none, true⟩]
@[reducible] def o62_3 : List Ins := [⟨(some 8), .mv (.t 3), none, true⟩,
  ⟨(some 2), .mv (.t 8), none, true⟩]
@[reducible] def v62_4 : VC := (.seq (.ops o62_3) .ret)
@[reducible] def v62_5 : VC := (.cond (.t 7) v62_4 .skip)
@[reducible] def v62_6 : VC := (.seq (.ops o62_2) v62_5)
@[reducible] def o62_7 : List Ins := [⟨(some 9), .fa 4 (.t 1), none, true⟩,
  ⟨(some 10), .ld true 1 (.t 9), none, true⟩,
  ⟨(some 11), .len (.t 10), none, true⟩,
  ⟨(some 12), .bin .eql (.t 11) (.k (.c (.int .i64 0))), none, true⟩]
@[reducible] def o62_8 : List Ins := [⟨(some 2), .mv (.k (.c (.int .i64 3))), none, true⟩]
@[reducible] def v62_9 : VC := (.seq (.ops o62_8) .ret)
@[reducible] def v62_10 : VC := (.cond (.t 12) v62_9 .skip)
@[reducible] def o62_11 : List Ins := [⟨(some 2), .mv (.k (.c (.int .i64 0))), none, true⟩]
@[reducible] def v62_12 : VC := (.seq (.ops o62_11) .ret)
@[reducible] def v62_13 : VC := (.seq (.seq (.ops o62_7) v62_10) v62_12)
@[reducible] def v62_14 : VC := (.seq (.seq (.ops o62_1) v62_6) v62_13)
def ir62 : FC := ⟨1, 13, [.t 2], (.seq (.ops o62_0) v62_14)⟩
theorem c22 : compM Try.prog [] 22 = some ir22 := by kernel_rfl
theorem c74 : compM Try.prog [] 74 = some ir74 := by kernel_rfl
theorem c73 : compM Try.prog [] 73 = some ir73 := by kernel_rfl
theorem c57 : compM Try.prog [] 57 = some ir57 := by kernel_rfl
theorem c58 : compM Try.prog [] 58 = some ir58 := by kernel_rfl
theorem c27 : compM Try.prog [] 27 = some ir27 := by kernel_rfl
theorem c62 : compM Try.prog [] 62 = some ir62 := by kernel_rfl
def playsR (t : Tray) : List Pr × Int := if t.ok then (playsS t, 0) else ([], 20)
theorem plays22 (t : Tray) : FSpec Try.prog 22 [t.av] (.tup [.c (prsC (playsR t).1), iv (playsR t).2]) := by
  have hck := check40 t
  unfold playsR
  cases hok : t.ok
  · simp only [hok, Bool.false_eq_true, if_false] at hck ⊢
    refine FSpec_of c22 (Nat.le_refl _) (by decide) fun C hP hN hC hL => ?_
    simp only [ir22, Tray.av]
    (repeat ((first | refine WV_seq_ ?_ | refine WV_block ?_ | refine WV_ops ?_ | refine WV_skip ?_ | refine WV_exit ?_); (try simp only [go_sem, init_env', Nat.reduceEqDiff, Nat.reduceAdd, Nat.reduceMul, reduceIte, Nat.reduceLeDiff, Nat.reduceLT, Nat.reduceBEq, reduceCtorEq, hP, ]); (repeat refine qI ?_)))
    (refine AS_pure (hck) rfl rfl rfl rfl rfl ?_; simp only [go_sem, init_env', Nat.reduceEqDiff, Nat.reduceAdd, Nat.reduceMul, reduceIte, Nat.reduceLeDiff, Nat.reduceLT, Nat.reduceBEq, reduceCtorEq, hP, Tray.av]; (repeat refine qI ?_); (repeat ((first | refine WV_seq_ ?_ | refine WV_block ?_ | refine WV_ops ?_ | refine WV_skip ?_ | refine WV_exit ?_); (try simp only [go_sem, init_env', Nat.reduceEqDiff, Nat.reduceAdd, Nat.reduceMul, reduceIte, Nat.reduceLeDiff, Nat.reduceLT, Nat.reduceBEq, reduceCtorEq, hP, Tray.av]); (repeat refine qI ?_))))
    (refine WV_cond rfl (fun h => ?_) (fun h => ?_))
    · (repeat ((first | refine WV_seq_ ?_ | refine WV_block ?_ | refine WV_ops ?_ | refine WV_skip ?_ | refine WV_exit ?_); (try simp only [go_sem, init_env', Nat.reduceEqDiff, Nat.reduceAdd, Nat.reduceMul, reduceIte, Nat.reduceLeDiff, Nat.reduceLT, Nat.reduceBEq, reduceCtorEq, hP, ]); (repeat refine qI ?_)))
      (refine WV_ret ?_; simp only [thenQ, inQ, RetQ, RetOk, resAll, resA]; simp only [go_sem, init_env', Nat.reduceEqDiff, Nat.reduceAdd, Nat.reduceMul, reduceIte, Nat.reduceLeDiff, Nat.reduceLT, Nat.reduceBEq, reduceCtorEq, tupA, AV.port, AV.portL, exists_eq_left', ])
      exact AVle.tup (AVles.cons (AVle.nil 2) (AVles.refl _))
    · simp at h
  · simp only [hok, if_true] at hck ⊢
    have hgo := goes54 (Tray.ok_spec hok).1
    refine FSpec_of c22 (Nat.le_refl _) (by decide) fun C hP hN hC hL => ?_
    simp only [ir22, Tray.av]
    (repeat ((first | refine WV_seq_ ?_ | refine WV_block ?_ | refine WV_ops ?_ | refine WV_skip ?_ | refine WV_exit ?_); (try simp only [go_sem, init_env', Nat.reduceEqDiff, Nat.reduceAdd, Nat.reduceMul, reduceIte, Nat.reduceLeDiff, Nat.reduceLT, Nat.reduceBEq, reduceCtorEq, hP, ]); (repeat refine qI ?_)))
    (refine AS_pure (hck) rfl rfl rfl rfl rfl ?_; simp only [go_sem, init_env', Nat.reduceEqDiff, Nat.reduceAdd, Nat.reduceMul, reduceIte, Nat.reduceLeDiff, Nat.reduceLT, Nat.reduceBEq, reduceCtorEq, hP, Tray.av]; (repeat refine qI ?_); (repeat ((first | refine WV_seq_ ?_ | refine WV_block ?_ | refine WV_ops ?_ | refine WV_skip ?_ | refine WV_exit ?_); (try simp only [go_sem, init_env', Nat.reduceEqDiff, Nat.reduceAdd, Nat.reduceMul, reduceIte, Nat.reduceLeDiff, Nat.reduceLT, Nat.reduceBEq, reduceCtorEq, hP, Tray.av]); (repeat refine qI ?_))))
    (refine WV_cond rfl (fun h => ?_) (fun h => ?_))
    · simp at h
    · (repeat ((first | refine WV_seq_ ?_ | refine WV_block ?_ | refine WV_ops ?_ | refine WV_skip ?_ | refine WV_exit ?_); (try simp only [go_sem, init_env', Nat.reduceEqDiff, Nat.reduceAdd, Nat.reduceMul, reduceIte, Nat.reduceLeDiff, Nat.reduceLT, Nat.reduceBEq, reduceCtorEq, hP, ]); (repeat refine qI ?_)))
      (refine AS_pure (hgo) rfl rfl rfl rfl rfl ?_; simp only [go_sem, init_env', Nat.reduceEqDiff, Nat.reduceAdd, Nat.reduceMul, reduceIte, Nat.reduceLeDiff, Nat.reduceLT, Nat.reduceBEq, reduceCtorEq, hP, Tray.av, Cs.run]; (repeat refine qI ?_); (repeat ((first | refine WV_seq_ ?_ | refine WV_block ?_ | refine WV_ops ?_ | refine WV_skip ?_ | refine WV_exit ?_); (try simp only [go_sem, init_env', Nat.reduceEqDiff, Nat.reduceAdd, Nat.reduceMul, reduceIte, Nat.reduceLeDiff, Nat.reduceLT, Nat.reduceBEq, reduceCtorEq, hP, Tray.av, Cs.run]); (repeat refine qI ?_))))
      (refine WV_ret ?_; simp only [thenQ, inQ, RetQ, RetOk, resAll, resA]; simp only [go_sem, init_env', Nat.reduceEqDiff, Nat.reduceAdd, Nat.reduceMul, reduceIte, Nat.reduceLeDiff, Nat.reduceLT, Nat.reduceBEq, reduceCtorEq, tupA, AV.port, AV.portL, exists_eq_left', ]; (first | exact AVle.of rfl | refine AVle.of ?_ | skip))
def prAv (p : Pr) : AV := .agg [iv p.side, iv p.time]
def servesB (p x : Pr) : Bool := (x.side == p.side) && decide (p.time ≤ x.time)
theorem serves74 (p x : Pr) : FSpec Try.prog 74 [prAv x, .c (.pt p.cds)] (.c (.bool (servesB p x))) := by
  refine FSpec_of c74 (Nat.le_refl _) (by decide) fun C hP hN hC hL => ?_
  simp only [ir74, prAv, Pr.cds]
  (repeat ((first | refine WV_seq_ ?_ | refine WV_block ?_ | refine WV_ops ?_ | refine WV_skip ?_ | refine WV_exit ?_); (try simp only [go_sem, init_env', Nat.reduceEqDiff, Nat.reduceAdd, Nat.reduceMul, reduceIte, Nat.reduceLeDiff, Nat.reduceLT, Nat.reduceBEq, reduceCtorEq, hP, ]); (repeat refine qI ?_)))
  (refine WV_ret ?_; simp only [thenQ, inQ, RetQ, RetOk, resAll, resA]; simp only [go_sem, init_env', Nat.reduceEqDiff, Nat.reduceAdd, Nat.reduceMul, reduceIte, Nat.reduceLeDiff, Nat.reduceLT, Nat.reduceBEq, reduceCtorEq, tupA, AV.port, AV.portL, exists_eq_left', ]; (first | exact AVle.of rfl | refine AVle.of ?_ | skip))
theorem servesI_step (p : Pr) {l : List Pr} {k : Nat} (h : k < l.length) : servesI (l.drop k) p (k : Int) = if servesB p l[k] = true then (k : Int) else servesI (l.drop (k + 1)) p ((k + 1 : Nat) : Int) := by
  rw [List.drop_eq_getElem_cons h]
  simp only [servesI, servesB, Bool.and_eq_true, beq_iff_eq, decide_eq_true_eq]
  split <;> simp
set_option maxHeartbeats 4000000 in
theorem index73 (p : Pr) (l : List Pr) (hl : l.length ≤ 100000) : FSpec Try.prog 73 [.c (prsC l), .fn 74 [.c (.pt p.cds)]] (iv (servesI l p 0)) := by
  refine FSpec_of c73 (Nat.le_refl _) (by decide) fun C hP hN hC hL => ?_
  simp only [ir73]
  (repeat ((first | refine WV_seq_ ?_ | refine WV_block ?_ | refine WV_ops ?_ | refine WV_skip ?_ | refine WV_exit ?_); (try simp only [go_sem, init_env', Nat.reduceEqDiff, Nat.reduceAdd, Nat.reduceMul, reduceIte, Nat.reduceLeDiff, Nat.reduceLT, Nat.reduceBEq, reduceCtorEq, hP, prsC, List.length_map]); (repeat refine qI ?_)))
  (refine WV_loopK K73_1 [] (fun k : Nat => k ≤ l.length ∧ servesI l p 0 = servesI (l.drop k) p k) (fun k => l.length - k) (fun k => [(8, iv k)]) (fun _ => []) 0 ⟨Nat.zero_le _, rfl⟩ ?_ ?_)
  · exact Sub_au
  · intro k ⟨hk, hx⟩
    simp only [go_sem, init_env', Nat.reduceEqDiff, Nat.reduceAdd, Nat.reduceMul, reduceIte, Nat.reduceLeDiff, Nat.reduceLT, Nat.reduceBEq, reduceCtorEq]
    (repeat ((first | refine WV_seq_ ?_ | refine WV_block ?_ | refine WV_ops ?_ | refine WV_skip ?_ | refine WV_exit ?_); (try simp only [go_sem, init_env', Nat.reduceEqDiff, Nat.reduceAdd, Nat.reduceMul, reduceIte, Nat.reduceLeDiff, Nat.reduceLT, Nat.reduceBEq, reduceCtorEq, hP, ]); (repeat refine qI ?_)))
    (refine WV_cond rfl (fun h => ?_) (fun h => ?_))
    · have h : k < l.length := by simpa using h
      have hI : (k : Int) < (l.length : Int) := by omega
      have hw2 := w64 (n := (k : Int) + 1) (by omega) (by omega)
      rw [servesI_step p h] at hx
      have hs := serves74 p l[k]
      (repeat ((first | refine WV_seq_ ?_ | refine WV_block ?_ | refine WV_ops ?_ | refine WV_skip ?_ | refine WV_exit ?_); (try simp only [go_sem, init_env', Nat.reduceEqDiff, Nat.reduceAdd, Nat.reduceMul, reduceIte, Nat.reduceLeDiff, Nat.reduceLT, Nat.reduceBEq, reduceCtorEq, hP, map_getD h, hI, List.length_map, Pr.cds, Int.natCast_nonneg]); (repeat refine qI ?_)))
      (refine AS_pure (hs) rfl rfl rfl rfl rfl ?_; simp only [go_sem, init_env', Nat.reduceEqDiff, Nat.reduceAdd, Nat.reduceMul, reduceIte, Nat.reduceLeDiff, Nat.reduceLT, Nat.reduceBEq, reduceCtorEq, hP, prAv, Pr.cds]; (repeat refine qI ?_); (repeat ((first | refine WV_seq_ ?_ | refine WV_block ?_ | refine WV_ops ?_ | refine WV_skip ?_ | refine WV_exit ?_); (try simp only [go_sem, init_env', Nat.reduceEqDiff, Nat.reduceAdd, Nat.reduceMul, reduceIte, Nat.reduceLeDiff, Nat.reduceLT, Nat.reduceBEq, reduceCtorEq, hP, prAv, Pr.cds]); (repeat refine qI ?_))))
      cases hb : servesB p l[k]
      · rw [hb] at hx
        (refine WV_cond rfl (fun h => ?_) (fun h => ?_))
        · simp at h
        · (repeat ((first | refine WV_seq_ ?_ | refine WV_block ?_ | refine WV_ops ?_ | refine WV_skip ?_ | refine WV_exit ?_); (try simp only [go_sem, init_env', Nat.reduceEqDiff, Nat.reduceAdd, Nat.reduceMul, reduceIte, Nat.reduceLeDiff, Nat.reduceLT, Nat.reduceBEq, reduceCtorEq, hP, hw2]); (repeat refine qI ?_)))
          refine ⟨k + 1, ⟨by omega, by rw [hx]; rfl⟩, by omega, ?_⟩
          exact Sub_au
      · rw [hb] at hx
        (refine WV_cond rfl (fun h => ?_) (fun h => ?_))
        · (repeat ((first | refine WV_seq_ ?_ | refine WV_block ?_ | refine WV_ops ?_ | refine WV_skip ?_ | refine WV_exit ?_); (try simp only [go_sem, init_env', Nat.reduceEqDiff, Nat.reduceAdd, Nat.reduceMul, reduceIte, Nat.reduceLeDiff, Nat.reduceLT, Nat.reduceBEq, reduceCtorEq, hP, ]); (repeat refine qI ?_)))
          (refine WV_ret ?_; simp only [thenQ, inQ, RetQ, RetOk, resAll, resA]; simp only [go_sem, init_env', Nat.reduceEqDiff, Nat.reduceAdd, Nat.reduceMul, reduceIte, Nat.reduceLeDiff, Nat.reduceLT, Nat.reduceBEq, reduceCtorEq, tupA, AV.port, AV.portL, exists_eq_left', ]; (first | exact AVle.of rfl | refine AVle.of ?_ | skip))
          rw [hx]; rfl
        · simp at h
    · have h : k = l.length := by simp at h; omega
      subst h
      (repeat ((first | refine WV_seq_ ?_ | refine WV_block ?_ | refine WV_ops ?_ | refine WV_skip ?_ | refine WV_exit ?_); (try simp only [go_sem, init_env', Nat.reduceEqDiff, Nat.reduceAdd, Nat.reduceMul, reduceIte, Nat.reduceLeDiff, Nat.reduceLT, Nat.reduceBEq, reduceCtorEq, hP, ]); (repeat refine qI ?_)))
      (refine WV_ret ?_; simp only [thenQ, inQ, RetQ, RetOk, resAll, resA]; simp only [go_sem, init_env', Nat.reduceEqDiff, Nat.reduceAdd, Nat.reduceMul, reduceIte, Nat.reduceLeDiff, Nat.reduceLT, Nat.reduceBEq, reduceCtorEq, tupA, AV.port, AV.portL, exists_eq_left', ]; (first | exact AVle.of rfl | refine AVle.of ?_ | skip))
      rw [hx, List.drop_length]
      rfl
theorem serves57 (l : List Pr) (p : Pr) (hl : l.length ≤ 100000) : FSpec Try.prog 57 [.c (prsC l), prAv p] (iv (servesI l p 0)) := by
  refine FSpec_of c57 (Nat.le_refl _) (by decide) fun C hP hN hC hL => ?_
  simp only [ir57, prAv]
  (refine WV_seq_ (WV_ops ?_); simp only [go_sem, init_env', Nat.reduceEqDiff, Nat.reduceAdd, Nat.reduceMul, reduceIte, Nat.reduceLeDiff, Nat.reduceLT, Nat.reduceBEq, reduceCtorEq, hP, ]; (repeat refine qI ?_))
  refine WV_freeze 3 (ds := p.cds) rfl rfl ?_
  simp only [go_sem, init_env', Nat.reduceEqDiff, Nat.reduceAdd, Nat.reduceMul, reduceIte, Nat.reduceLeDiff, Nat.reduceLT, Nat.reduceBEq, reduceCtorEq, Pr.cds]
  (repeat ((first | refine WV_seq_ ?_ | refine WV_block ?_ | refine WV_ops ?_ | refine WV_skip ?_ | refine WV_exit ?_); (try simp only [go_sem, init_env', Nat.reduceEqDiff, Nat.reduceAdd, Nat.reduceMul, reduceIte, Nat.reduceLeDiff, Nat.reduceLT, Nat.reduceBEq, reduceCtorEq, hP, ]); (repeat refine qI ?_)))
  (refine AS_pure (index73 p l hl) rfl rfl rfl rfl rfl ?_; simp only [go_sem, init_env', Nat.reduceEqDiff, Nat.reduceAdd, Nat.reduceMul, reduceIte, Nat.reduceLeDiff, Nat.reduceLT, Nat.reduceBEq, reduceCtorEq, hP, Pr.cds]; (repeat refine qI ?_); (repeat ((first | refine WV_seq_ ?_ | refine WV_block ?_ | refine WV_ops ?_ | refine WV_skip ?_ | refine WV_exit ?_); (try simp only [go_sem, init_env', Nat.reduceEqDiff, Nat.reduceAdd, Nat.reduceMul, reduceIte, Nat.reduceLeDiff, Nat.reduceLT, Nat.reduceBEq, reduceCtorEq, hP, Pr.cds]); (repeat refine qI ?_))))
  (refine WV_ret ?_; simp only [thenQ, inQ, RetQ, RetOk, resAll, resA]; simp only [go_sem, init_env', Nat.reduceEqDiff, Nat.reduceAdd, Nat.reduceMul, reduceIte, Nat.reduceLeDiff, Nat.reduceLT, Nat.reduceBEq, reduceCtorEq, tupA, AV.port, AV.portL, exists_eq_left', ]; (first | exact AVle.of rfl | refine AVle.of ?_ | skip))

theorem plays_len {t : Tray} (ht : TrayOk t) : (playsS t).length ≤ 13 := by
  have := (goes_ok ht).inv.cnt
  have := ht.p13
  unfold playsS; omega
def inR (t : Tray) (k : Int) : Bool := within k 0 ((t.pres.length : Int) - 1)
def Tray.pr (t : Tray) (k : Int) : Pr := t.pres.getD k.toNat default
def servedR (t : Tray) (k : Int) : Int × List Pr × Int := if t.ok then (if inR t k then (servesI (playsS t) (t.pr k) 0, playsS t, 0) else (0, [], 1)) else (0, [], 20)
theorem inR_spec {t : Tray} {k : Int} (h : inR t k = true) : 0 ≤ k ∧ k < (t.pres.length : Int) := by simp [inR, within] at h; omega
theorem served58 (t : Tray) (k : Int) : FSpec Try.prog 58 [t.av, iv k] (.tup [iv (servedR t k).1, .c (prsC (servedR t k).2.1), iv (servedR t k).2.2]) := by
  have hck := check40 t
  unfold servedR
  cases hok : t.ok
  · simp only [hok, Bool.false_eq_true, if_false] at hck ⊢
    refine FSpec_of c58 (Nat.le_refl _) (by decide) fun C hP hN hC hL => ?_
    simp only [ir58, Tray.av]
    (repeat ((first | refine WV_seq_ ?_ | refine WV_block ?_ | refine WV_ops ?_ | refine WV_skip ?_ | refine WV_exit ?_); (try simp only [go_sem, init_env', Nat.reduceEqDiff, Nat.reduceAdd, Nat.reduceMul, reduceIte, Nat.reduceLeDiff, Nat.reduceLT, Nat.reduceBEq, reduceCtorEq, hP, ]); (repeat refine qI ?_)))
    (refine AS_pure (hck) rfl rfl rfl rfl rfl ?_; simp only [go_sem, init_env', Nat.reduceEqDiff, Nat.reduceAdd, Nat.reduceMul, reduceIte, Nat.reduceLeDiff, Nat.reduceLT, Nat.reduceBEq, reduceCtorEq, hP, Tray.av]; (repeat refine qI ?_); (repeat ((first | refine WV_seq_ ?_ | refine WV_block ?_ | refine WV_ops ?_ | refine WV_skip ?_ | refine WV_exit ?_); (try simp only [go_sem, init_env', Nat.reduceEqDiff, Nat.reduceAdd, Nat.reduceMul, reduceIte, Nat.reduceLeDiff, Nat.reduceLT, Nat.reduceBEq, reduceCtorEq, hP, Tray.av]); (repeat refine qI ?_))))
    (refine WV_cond rfl (fun h => ?_) (fun h => ?_))
    · (repeat ((first | refine WV_seq_ ?_ | refine WV_block ?_ | refine WV_ops ?_ | refine WV_skip ?_ | refine WV_exit ?_); (try simp only [go_sem, init_env', Nat.reduceEqDiff, Nat.reduceAdd, Nat.reduceMul, reduceIte, Nat.reduceLeDiff, Nat.reduceLT, Nat.reduceBEq, reduceCtorEq, hP, ]); (repeat refine qI ?_)))
      (refine WV_ret ?_; simp only [thenQ, inQ, RetQ, RetOk, resAll, resA]; simp only [go_sem, init_env', Nat.reduceEqDiff, Nat.reduceAdd, Nat.reduceMul, reduceIte, Nat.reduceLeDiff, Nat.reduceLT, Nat.reduceBEq, reduceCtorEq, tupA, AV.port, AV.portL, exists_eq_left', ])
      exact AVle.tup (AVles.cons (AVle.refl _) (AVles.cons (AVle.nil 2) (AVles.refl _)))
    · simp at h
  simp only [hok, if_true] at hck ⊢
  have ht := (Tray.ok_spec hok).1
  have hgo := goes54 ht
  have hpl := plays_len ht
  cases hin : inR t k
  · have hb : (decide (k < 0) || decide ((t.pres.length : Int) ≤ k)) = true := by
      simp only [inR, within, Bool.and_eq_false_iff, decide_eq_false_iff_not] at hin
      simp; omega
    simp only [Bool.false_eq_true, if_false]
    refine FSpec_of c58 (Nat.le_refl _) (by decide) fun C hP hN hC hL => ?_
    simp only [ir58, Tray.av]
    (repeat ((first | refine WV_seq_ ?_ | refine WV_block ?_ | refine WV_ops ?_ | refine WV_skip ?_ | refine WV_exit ?_); (try simp only [go_sem, init_env', Nat.reduceEqDiff, Nat.reduceAdd, Nat.reduceMul, reduceIte, Nat.reduceLeDiff, Nat.reduceLT, Nat.reduceBEq, reduceCtorEq, hP, ]); (repeat refine qI ?_)))
    (refine AS_pure (hck) rfl rfl rfl rfl rfl ?_; simp only [go_sem, init_env', Nat.reduceEqDiff, Nat.reduceAdd, Nat.reduceMul, reduceIte, Nat.reduceLeDiff, Nat.reduceLT, Nat.reduceBEq, reduceCtorEq, hP, Tray.av]; (repeat refine qI ?_); (repeat ((first | refine WV_seq_ ?_ | refine WV_block ?_ | refine WV_ops ?_ | refine WV_skip ?_ | refine WV_exit ?_); (try simp only [go_sem, init_env', Nat.reduceEqDiff, Nat.reduceAdd, Nat.reduceMul, reduceIte, Nat.reduceLeDiff, Nat.reduceLT, Nat.reduceBEq, reduceCtorEq, hP, Tray.av]); (repeat refine qI ?_))))
    (refine WV_cond rfl (fun h => ?_) (fun h => ?_))
    · simp at h
    · (repeat ((first | refine WV_seq_ ?_ | refine WV_block ?_ | refine WV_ops ?_ | refine WV_skip ?_ | refine WV_exit ?_); (try simp only [go_sem, init_env', Nat.reduceEqDiff, Nat.reduceAdd, Nat.reduceMul, reduceIte, Nat.reduceLeDiff, Nat.reduceLT, Nat.reduceBEq, reduceCtorEq, hP, prsC, List.length_map, hb]); (repeat refine qI ?_)))
      (refine WV_cond rfl (fun h => ?_) (fun h => ?_))
      · (repeat ((first | refine WV_seq_ ?_ | refine WV_block ?_ | refine WV_ops ?_ | refine WV_skip ?_ | refine WV_exit ?_); (try simp only [go_sem, init_env', Nat.reduceEqDiff, Nat.reduceAdd, Nat.reduceMul, reduceIte, Nat.reduceLeDiff, Nat.reduceLT, Nat.reduceBEq, reduceCtorEq, hP, ]); (repeat refine qI ?_)))
        (refine WV_ret ?_; simp only [thenQ, inQ, RetQ, RetOk, resAll, resA]; simp only [go_sem, init_env', Nat.reduceEqDiff, Nat.reduceAdd, Nat.reduceMul, reduceIte, Nat.reduceLeDiff, Nat.reduceLT, Nat.reduceBEq, reduceCtorEq, tupA, AV.port, AV.portL, exists_eq_left', ])
        exact AVle.tup (AVles.cons (AVle.refl _) (AVles.cons (AVle.nil 2) (AVles.refl _)))
      · simp at h
  · obtain ⟨h0, h1⟩ := inR_spec hin
    have hb : (decide (k < 0) || decide ((t.pres.length : Int) ≤ k)) = false := by simp; omega
    have hk : k.toNat < t.pres.length := by omega
    have hpr : t.pr k = t.pres[k.toNat] := by simp [Tray.pr, hk]
    have hse := serves57 (playsS t) (t.pr k) (by omega)
    rw [hpr] at hse
    simp only [if_true]
    refine FSpec_of c58 (Nat.le_refl _) (by decide) fun C hP hN hC hL => ?_
    simp only [ir58, Tray.av]
    (repeat ((first | refine WV_seq_ ?_ | refine WV_block ?_ | refine WV_ops ?_ | refine WV_skip ?_ | refine WV_exit ?_); (try simp only [go_sem, init_env', Nat.reduceEqDiff, Nat.reduceAdd, Nat.reduceMul, reduceIte, Nat.reduceLeDiff, Nat.reduceLT, Nat.reduceBEq, reduceCtorEq, hP, ]); (repeat refine qI ?_)))
    (refine AS_pure (hck) rfl rfl rfl rfl rfl ?_; simp only [go_sem, init_env', Nat.reduceEqDiff, Nat.reduceAdd, Nat.reduceMul, reduceIte, Nat.reduceLeDiff, Nat.reduceLT, Nat.reduceBEq, reduceCtorEq, hP, Tray.av]; (repeat refine qI ?_); (repeat ((first | refine WV_seq_ ?_ | refine WV_block ?_ | refine WV_ops ?_ | refine WV_skip ?_ | refine WV_exit ?_); (try simp only [go_sem, init_env', Nat.reduceEqDiff, Nat.reduceAdd, Nat.reduceMul, reduceIte, Nat.reduceLeDiff, Nat.reduceLT, Nat.reduceBEq, reduceCtorEq, hP, Tray.av]); (repeat refine qI ?_))))
    (refine WV_cond rfl (fun h => ?_) (fun h => ?_))
    · simp at h
    · (repeat ((first | refine WV_seq_ ?_ | refine WV_block ?_ | refine WV_ops ?_ | refine WV_skip ?_ | refine WV_exit ?_); (try simp only [go_sem, init_env', Nat.reduceEqDiff, Nat.reduceAdd, Nat.reduceMul, reduceIte, Nat.reduceLeDiff, Nat.reduceLT, Nat.reduceBEq, reduceCtorEq, hP, prsC, List.length_map, hb]); (repeat refine qI ?_)))
      (refine WV_cond rfl (fun h => ?_) (fun h => ?_))
      · simp at h
      · (repeat ((first | refine WV_seq_ ?_ | refine WV_block ?_ | refine WV_ops ?_ | refine WV_skip ?_ | refine WV_exit ?_); (try simp only [go_sem, init_env', Nat.reduceEqDiff, Nat.reduceAdd, Nat.reduceMul, reduceIte, Nat.reduceLeDiff, Nat.reduceLT, Nat.reduceBEq, reduceCtorEq, hP, ]); (repeat refine qI ?_)))
        (refine AS_pure (hgo) rfl rfl rfl rfl rfl ?_; simp only [go_sem, init_env', Nat.reduceEqDiff, Nat.reduceAdd, Nat.reduceMul, reduceIte, Nat.reduceLeDiff, Nat.reduceLT, Nat.reduceBEq, reduceCtorEq, hP, Tray.av, Cs.run, prsC, List.length_map, map_getD hk, h0, h1, Pr.cds]; (repeat refine qI ?_); (repeat ((first | refine WV_seq_ ?_ | refine WV_block ?_ | refine WV_ops ?_ | refine WV_skip ?_ | refine WV_exit ?_); (try simp only [go_sem, init_env', Nat.reduceEqDiff, Nat.reduceAdd, Nat.reduceMul, reduceIte, Nat.reduceLeDiff, Nat.reduceLT, Nat.reduceBEq, reduceCtorEq, hP, Tray.av, Cs.run, prsC, List.length_map, map_getD hk, h0, h1, Pr.cds]); (repeat refine qI ?_))))
        (refine AS_pure (hse) rfl rfl rfl rfl rfl ?_; simp only [go_sem, init_env', Nat.reduceEqDiff, Nat.reduceAdd, Nat.reduceMul, reduceIte, Nat.reduceLeDiff, Nat.reduceLT, Nat.reduceBEq, reduceCtorEq, hP, prAv, prsC, playsS]; (repeat refine qI ?_); (repeat ((first | refine WV_seq_ ?_ | refine WV_block ?_ | refine WV_ops ?_ | refine WV_skip ?_ | refine WV_exit ?_); (try simp only [go_sem, init_env', Nat.reduceEqDiff, Nat.reduceAdd, Nat.reduceMul, reduceIte, Nat.reduceLeDiff, Nat.reduceLT, Nat.reduceBEq, reduceCtorEq, hP, prAv, prsC, playsS]); (repeat refine qI ?_))))
        (refine WV_ret ?_; simp only [thenQ, inQ, RetQ, RetOk, resAll, resA]; simp only [go_sem, init_env', Nat.reduceEqDiff, Nat.reduceAdd, Nat.reduceMul, reduceIte, Nat.reduceLeDiff, Nat.reduceLT, Nat.reduceBEq, reduceCtorEq, tupA, AV.port, AV.portL, exists_eq_left', ]; (first | exact AVle.of rfl | refine AVle.of ?_ | skip))
        rw [hpr]
/-- How long a press waits. -/
def waitV (t : Tray) (k : Int) : Int := ((playsS t).getD (servesI (playsS t) (t.pr k) 0).toNat default).time - (t.pr k).time
def waitR (t : Tray) (k : Int) : Int × Int := if (servedR t k).2.2 = 0 then (waitV t k, 0) else (0, (servedR t k).2.2)
theorem served_zero {t : Tray} {k : Int} (h : (servedR t k).2.2 = 0) : t.ok = true ∧ inR t k = true ∧ servedR t k = (servesI (playsS t) (t.pr k) 0, playsS t, 0) := by
  unfold servedR at h ⊢
  cases hok : t.ok <;> cases hin : inR t k <;> simp [hok, hin] at h ⊢
/-- The place of a press, and of the play that serves it. -/
theorem served_get {t : Tray} (ht : TrayOk t) {k : Int} (hk : inR t k = true) : ∃ j, ∃ h : j < (playsS t).length, servesI (playsS t) (t.pr k) 0 = (j : Int) ∧ (playsS t)[j].side = (t.pr k).side ∧ (t.pr k).time ≤ (playsS t)[j].time ∧ waitV t k = (playsS t)[j].time - (t.pr k).time ∧ 0 ≤ (playsS t)[j].time ∧ (playsS t)[j].time ≤ 300000 ∧ 0 ≤ (t.pr k).time ∧ (t.pr k).time ≤ 9999 := by
  obtain ⟨h0, h1⟩ := inR_spec hk
  have hk' : k.toNat < t.pres.length := by omega
  have hpr : t.pr k = t.pres[k.toNat] := by simp [Tray.pr, hk']
  have hm : t.pr k ∈ t.pres := by rw [hpr]; exact List.getElem_mem hk'
  have hg := goes_ok ht
  obtain ⟨j, hj, h2, h3, h4⟩ := served_ok hg hm
  have hpl := hg.inv.ply _ (List.getElem_mem hj)
  have hsc := secs_ok ht (s := ((goesS t).plays[j]).side.toNat) (by omega)
  have hno := hg.now
  have hpp := (ht.pres _ hm).2
  refine ⟨j, hj, h2, h3.1, h3.2, ?_, hpl.2.2.1, ?_, hpp⟩
  · show ((goesS t).plays.getD (servesI (goesS t).plays (t.pr k) 0).toNat default).time - (t.pr k).time = (goesS t).plays[j].time - (t.pr k).time
    rw [h2, Int.toNat_natCast, List.getD_eq_getElem?_getD, List.getElem?_eq_getElem hj]
    rfl
  · have := hpl.2.2.2
    unfold secsI at this
    show ((goesS t).plays[j]).time ≤ _
    omega
theorem wait27 (t : Tray) (k : Int) : FSpec Try.prog 27 [t.av, iv k] (.tup [iv (waitR t k).1, iv (waitR t k).2]) := by
  have hs := served58 t k
  unfold waitR
  by_cases h0 : (servedR t k).2.2 = 0
  · rw [if_pos h0]
    obtain ⟨hok, hin, he⟩ := served_zero h0
    have ht := (Tray.ok_spec hok).1
    obtain ⟨j, hj, e1, e2, e3, e4, e5, e6, e7, e8⟩ := served_get ht hin
    obtain ⟨k0, k1⟩ := inR_spec hin
    have hk : k.toNat < t.pres.length := by omega
    have hpr : t.pr k = t.pres[k.toNat] := by simp [Tray.pr, hk]
    have hjI : (j : Int) < ((playsS t).length : Int) := by omega
    rw [he, e1] at hs
    rw [e4]
    rw [hpr] at e3 e7 e8 ⊢
    have hw := w64 (n := (playsS t)[j].time - t.pres[k.toNat].time) (by omega) (by omega)
    refine FSpec_of c27 (Nat.le_refl _) (by decide) fun C hP hN hC hL => ?_
    simp only [ir27, Tray.av]
    (repeat ((first | refine WV_seq_ ?_ | refine WV_block ?_ | refine WV_ops ?_ | refine WV_skip ?_ | refine WV_exit ?_); (try simp only [go_sem, init_env', Nat.reduceEqDiff, Nat.reduceAdd, Nat.reduceMul, reduceIte, Nat.reduceLeDiff, Nat.reduceLT, Nat.reduceBEq, reduceCtorEq, hP, ]); (repeat refine qI ?_)))
    (refine AS_pure (hs) rfl rfl rfl rfl rfl ?_; simp only [go_sem, init_env', Nat.reduceEqDiff, Nat.reduceAdd, Nat.reduceMul, reduceIte, Nat.reduceLeDiff, Nat.reduceLT, Nat.reduceBEq, reduceCtorEq, hP, Tray.av]; (repeat refine qI ?_); (repeat ((first | refine WV_seq_ ?_ | refine WV_block ?_ | refine WV_ops ?_ | refine WV_skip ?_ | refine WV_exit ?_); (try simp only [go_sem, init_env', Nat.reduceEqDiff, Nat.reduceAdd, Nat.reduceMul, reduceIte, Nat.reduceLeDiff, Nat.reduceLT, Nat.reduceBEq, reduceCtorEq, hP, Tray.av]); (repeat refine qI ?_))))
    (refine WV_cond rfl (fun h => ?_) (fun h => ?_))
    · simp at h
    · (repeat ((first | refine WV_seq_ ?_ | refine WV_block ?_ | refine WV_ops ?_ | refine WV_skip ?_ | refine WV_exit ?_); (try simp only [go_sem, init_env', Nat.reduceEqDiff, Nat.reduceAdd, Nat.reduceMul, reduceIte, Nat.reduceLeDiff, Nat.reduceLT, Nat.reduceBEq, reduceCtorEq, hP, prsC, List.length_map, map_getD hj, map_getD hk, hjI, k0, k1, Pr.cds, Int.natCast_nonneg, hw]); (repeat refine qI ?_)))
      (refine WV_ret ?_; simp only [thenQ, inQ, RetQ, RetOk, resAll, resA]; simp only [go_sem, init_env', Nat.reduceEqDiff, Nat.reduceAdd, Nat.reduceMul, reduceIte, Nat.reduceLeDiff, Nat.reduceLT, Nat.reduceBEq, reduceCtorEq, tupA, AV.port, AV.portL, exists_eq_left', ]; (first | exact AVle.of rfl | refine AVle.of ?_ | skip))
  · rw [if_neg h0]
    generalize servedR t k = X at *
    have hb : (X.2.2 != 0) = true := by simpa using h0
    refine FSpec_of c27 (Nat.le_refl _) (by decide) fun C hP hN hC hL => ?_
    simp only [ir27, Tray.av]
    (repeat ((first | refine WV_seq_ ?_ | refine WV_block ?_ | refine WV_ops ?_ | refine WV_skip ?_ | refine WV_exit ?_); (try simp only [go_sem, init_env', Nat.reduceEqDiff, Nat.reduceAdd, Nat.reduceMul, reduceIte, Nat.reduceLeDiff, Nat.reduceLT, Nat.reduceBEq, reduceCtorEq, hP, ]); (repeat refine qI ?_)))
    (refine AS_pure (hs) rfl rfl rfl rfl rfl ?_; simp only [go_sem, init_env', Nat.reduceEqDiff, Nat.reduceAdd, Nat.reduceMul, reduceIte, Nat.reduceLeDiff, Nat.reduceLT, Nat.reduceBEq, reduceCtorEq, hP, Tray.av, hb]; (repeat refine qI ?_); (repeat ((first | refine WV_seq_ ?_ | refine WV_block ?_ | refine WV_ops ?_ | refine WV_skip ?_ | refine WV_exit ?_); (try simp only [go_sem, init_env', Nat.reduceEqDiff, Nat.reduceAdd, Nat.reduceMul, reduceIte, Nat.reduceLeDiff, Nat.reduceLT, Nat.reduceBEq, reduceCtorEq, hP, Tray.av, hb]); (repeat refine qI ?_))))
    (refine WV_cond rfl (fun h => ?_) (fun h => ?_))
    · (repeat ((first | refine WV_seq_ ?_ | refine WV_block ?_ | refine WV_ops ?_ | refine WV_skip ?_ | refine WV_exit ?_); (try simp only [go_sem, init_env', Nat.reduceEqDiff, Nat.reduceAdd, Nat.reduceMul, reduceIte, Nat.reduceLeDiff, Nat.reduceLT, Nat.reduceBEq, reduceCtorEq, hP, ]); (repeat refine qI ?_)))
      (refine WV_ret ?_; simp only [thenQ, inQ, RetQ, RetOk, resAll, resA]; simp only [go_sem, init_env', Nat.reduceEqDiff, Nat.reduceAdd, Nat.reduceMul, reduceIte, Nat.reduceLeDiff, Nat.reduceLT, Nat.reduceBEq, reduceCtorEq, tupA, AV.port, AV.portL, exists_eq_left', ]; (first | exact AVle.of rfl | refine AVle.of ?_ | skip))
    · simp at h
def pressedE (t : Tray) : Int := if t.ok then (if t.pres.length = 0 then 3 else 0) else 20
theorem pressed62 (t : Tray) : FSpec Try.prog 62 [t.av] (iv (pressedE t)) := by
  have hck := check40 t
  unfold pressedE
  cases hok : t.ok
  · simp only [hok, Bool.false_eq_true, if_false] at hck ⊢
    refine FSpec_of c62 (Nat.le_refl _) (by decide) fun C hP hN hC hL => ?_
    simp only [ir62, Tray.av]
    (repeat ((first | refine WV_seq_ ?_ | refine WV_block ?_ | refine WV_ops ?_ | refine WV_skip ?_ | refine WV_exit ?_); (try simp only [go_sem, init_env', Nat.reduceEqDiff, Nat.reduceAdd, Nat.reduceMul, reduceIte, Nat.reduceLeDiff, Nat.reduceLT, Nat.reduceBEq, reduceCtorEq, hP, ]); (repeat refine qI ?_)))
    (refine AS_pure (hck) rfl rfl rfl rfl rfl ?_; simp only [go_sem, init_env', Nat.reduceEqDiff, Nat.reduceAdd, Nat.reduceMul, reduceIte, Nat.reduceLeDiff, Nat.reduceLT, Nat.reduceBEq, reduceCtorEq, hP, Tray.av]; (repeat refine qI ?_); (repeat ((first | refine WV_seq_ ?_ | refine WV_block ?_ | refine WV_ops ?_ | refine WV_skip ?_ | refine WV_exit ?_); (try simp only [go_sem, init_env', Nat.reduceEqDiff, Nat.reduceAdd, Nat.reduceMul, reduceIte, Nat.reduceLeDiff, Nat.reduceLT, Nat.reduceBEq, reduceCtorEq, hP, Tray.av]); (repeat refine qI ?_))))
    (refine WV_cond rfl (fun h => ?_) (fun h => ?_))
    · (repeat ((first | refine WV_seq_ ?_ | refine WV_block ?_ | refine WV_ops ?_ | refine WV_skip ?_ | refine WV_exit ?_); (try simp only [go_sem, init_env', Nat.reduceEqDiff, Nat.reduceAdd, Nat.reduceMul, reduceIte, Nat.reduceLeDiff, Nat.reduceLT, Nat.reduceBEq, reduceCtorEq, hP, ]); (repeat refine qI ?_)))
      (refine WV_ret ?_; simp only [thenQ, inQ, RetQ, RetOk, resAll, resA]; simp only [go_sem, init_env', Nat.reduceEqDiff, Nat.reduceAdd, Nat.reduceMul, reduceIte, Nat.reduceLeDiff, Nat.reduceLT, Nat.reduceBEq, reduceCtorEq, tupA, AV.port, AV.portL, exists_eq_left', ]; (first | exact AVle.of rfl | refine AVle.of ?_ | skip))
    · simp at h
  · simp only [hok, if_true] at hck ⊢
    refine FSpec_of c62 (Nat.le_refl _) (by decide) fun C hP hN hC hL => ?_
    simp only [ir62, Tray.av]
    (repeat ((first | refine WV_seq_ ?_ | refine WV_block ?_ | refine WV_ops ?_ | refine WV_skip ?_ | refine WV_exit ?_); (try simp only [go_sem, init_env', Nat.reduceEqDiff, Nat.reduceAdd, Nat.reduceMul, reduceIte, Nat.reduceLeDiff, Nat.reduceLT, Nat.reduceBEq, reduceCtorEq, hP, ]); (repeat refine qI ?_)))
    (refine AS_pure (hck) rfl rfl rfl rfl rfl ?_; simp only [go_sem, init_env', Nat.reduceEqDiff, Nat.reduceAdd, Nat.reduceMul, reduceIte, Nat.reduceLeDiff, Nat.reduceLT, Nat.reduceBEq, reduceCtorEq, hP, Tray.av]; (repeat refine qI ?_); (repeat ((first | refine WV_seq_ ?_ | refine WV_block ?_ | refine WV_ops ?_ | refine WV_skip ?_ | refine WV_exit ?_); (try simp only [go_sem, init_env', Nat.reduceEqDiff, Nat.reduceAdd, Nat.reduceMul, reduceIte, Nat.reduceLeDiff, Nat.reduceLT, Nat.reduceBEq, reduceCtorEq, hP, Tray.av]); (repeat refine qI ?_))))
    (refine WV_cond rfl (fun h => ?_) (fun h => ?_))
    · simp at h
    · (repeat ((first | refine WV_seq_ ?_ | refine WV_block ?_ | refine WV_ops ?_ | refine WV_skip ?_ | refine WV_exit ?_); (try simp only [go_sem, init_env', Nat.reduceEqDiff, Nat.reduceAdd, Nat.reduceMul, reduceIte, Nat.reduceLeDiff, Nat.reduceLT, Nat.reduceBEq, reduceCtorEq, hP, prsC, List.length_map]); (repeat refine qI ?_)))
      (refine WV_cond rfl (fun h => ?_) (fun h => ?_))
      · have h : t.pres.length = 0 := by simpa using h
        (repeat ((first | refine WV_seq_ ?_ | refine WV_block ?_ | refine WV_ops ?_ | refine WV_skip ?_ | refine WV_exit ?_); (try simp only [go_sem, init_env', Nat.reduceEqDiff, Nat.reduceAdd, Nat.reduceMul, reduceIte, Nat.reduceLeDiff, Nat.reduceLT, Nat.reduceBEq, reduceCtorEq, hP, ]); (repeat refine qI ?_)))
        (refine WV_ret ?_; simp only [thenQ, inQ, RetQ, RetOk, resAll, resA]; simp only [go_sem, init_env', Nat.reduceEqDiff, Nat.reduceAdd, Nat.reduceMul, reduceIte, Nat.reduceLeDiff, Nat.reduceLT, Nat.reduceBEq, reduceCtorEq, tupA, AV.port, AV.portL, exists_eq_left', ]; (first | exact AVle.of rfl | refine AVle.of ?_ | skip))
        rw [if_pos h]
      · have h : ¬ t.pres.length = 0 := by simpa using h
        (repeat ((first | refine WV_seq_ ?_ | refine WV_block ?_ | refine WV_ops ?_ | refine WV_skip ?_ | refine WV_exit ?_); (try simp only [go_sem, init_env', Nat.reduceEqDiff, Nat.reduceAdd, Nat.reduceMul, reduceIte, Nat.reduceLeDiff, Nat.reduceLT, Nat.reduceBEq, reduceCtorEq, hP, ]); (repeat refine qI ?_)))
        (refine WV_ret ?_; simp only [thenQ, inQ, RetQ, RetOk, resAll, resA]; simp only [go_sem, init_env', Nat.reduceEqDiff, Nat.reduceAdd, Nat.reduceMul, reduceIte, Nat.reduceLeDiff, Nat.reduceLT, Nat.reduceBEq, reduceCtorEq, tupA, AV.port, AV.portL, exists_eq_left', ]; (first | exact AVle.of rfl | refine AVle.of ?_ | skip))
        rw [if_neg h]
theorem pressed_zero {t : Tray} (h : pressedE t = 0) : t.ok = true ∧ t.pres.length ≠ 0 := by
  unfold pressedE at h
  cases hok : t.ok
  · simp [hok] at h
  · refine ⟨rfl, fun h0 => ?_⟩
    simp [hok, h0] at h
def endR (t : Tray) : Int × Int := if pressedE t = 0 then ((goesS t).end_, 0) else (0, pressedE t)
end Go.Proofs.Ytkpgpgaojjobgaa

namespace Go.Proofs.Ytkpgpgaojjobgaa
open Go Go.V
@[reducible] def o21_0 : List Ins := [⟨(some 2), .box 5 (.t 0), none, true⟩,
  ⟨(some 4), .alloc [(.c (.int .i64 0)), (.c (.int .i64 0)), (.c (.int .i64 0))], none, true⟩,
  ⟨(some 5), .mv (.k (.c (.int .i64 0))), none, true⟩]
@[reducible] def o21_1 : List Ins := [⟨(some 11), .ld false 5 (.t 2), none, true⟩,
  ⟨(some 12), .call (.k (.fn 40 [])) [(.t 11)], none, true⟩,
  ⟨(some 6), .mv (.t 12), none, true⟩]
@[reducible] def o21_2 : List Ins := [⟨(some 13), .mv (.t 6), none, true⟩,
  ⟨(some 14), .bin .neq (.t 13) (.k (.c (.int .i64 0))), none, true⟩]
@[reducible] def o21_3 : List Ins := [⟨(some 15), .bld [(.c (.int .i64 0)), (.c (.int .i64 0)), (.c (.int .i64 0))] [], none, true⟩,
  ⟨(some 16), .mv (.t 6), none, true⟩,
  ⟨none, .st 3 (.t 4) (.t 15), none, true⟩,
  ⟨(some 5), .mv (.t 16), none, true⟩]
@[reducible] def v21_4 : VC := (.seq (.ops o21_3) .ret)
@[reducible] def v21_5 : VC := (.cond (.t 14) v21_4 .skip)
@[reducible] def v21_6 : VC := (.seq (.ops o21_2) v21_5)
@[reducible] def o21_7 : List Ins := [⟨(some 17), .mv (.t 1), none, true⟩,
  ⟨(some 18), .call (.k (.fn 53 [])) [(.t 17)], none, true⟩,
  ⟨(some 19), .un .not (.t 18), none, true⟩]
@[reducible] def o21_8 : List Ins := [⟨(some 20), .bld [(.c (.int .i64 0)), (.c (.int .i64 0)), (.c (.int .i64 0))] [], none, true⟩,
  ⟨none, .st 3 (.t 4) (.t 20), none, true⟩,
  ⟨(some 5), .mv (.k (.c (.int .i64 1))), none, true⟩]
@[reducible] def v21_9 : VC := (.seq (.ops o21_8) .ret)
@[reducible] def v21_10 : VC := (.cond (.t 19) v21_9 .skip)
@[reducible] def o21_11 : List Ins := [⟨(some 21), .ld false 5 (.t 2), none, true⟩,
  ⟨(some 22), .call (.k (.fn 54 [])) [(.t 21)], none, true⟩,
  ⟨(some 23), .fld true 1 0 (.t 22), none, true⟩,
  ⟨(some 7), .mv (.t 23), none, true⟩]
@[reducible] def o21_12 : List Ins := [⟨(some 24), .mv (.t 7), none, true⟩,
  ⟨(some 25), .ia 4 (.t 24) (.k (.c (.int .i64 0))), none, true⟩,
  ⟨(some 26), .fa 0 (.t 25), none, true⟩,
  ⟨(some 27), .ld false 3 (.t 26), none, true⟩,
  ⟨(some 8), .alloc [(.c (.int .i64 0)), (.c (.int .i64 0)), (.c (.int .i64 0))], none, true⟩,
  ⟨none, .st 3 (.t 8) (.t 27), none, true⟩]
@[reducible] def o21_13 : List Ins := [⟨(some 28), .mv (.t 7), none, true⟩,
  ⟨(some 29), .len (.t 28), none, true⟩,
  ⟨(some 30), .mv (.k (.c (.int .i64 0))), none, true⟩]
@[reducible] def o21_14 : List Ins := [⟨(some 31), .bin .lss (.t 30) (.t 29), none, true⟩]
@[reducible] def o21_15 : List Ins := [⟨(some 32), .ia 4 (.t 28) (.t 30), none, true⟩,
  ⟨(some 33), .ld false 4 (.t 32), none, true⟩,
  ⟨(some 10), .alloc [(.c (.int .i64 0)), (.c (.int .i64 0)), (.c (.int .i64 0)), (.c (.int .i64 0))], none, true⟩,
  ⟨none, .st 4 (.t 10) (.t 33), none, true⟩]
@[reducible] def o21_16 : List Ins := [⟨(some 34), .fa 3 (.t 10), none, true⟩,
  ⟨(some 35), .ld true 1 (.t 34), none, true⟩,
  ⟨(some 36), .mv (.t 1), none, true⟩,
  ⟨(some 37), .bin .gtr (.t 35) (.t 36), none, true⟩]
@[reducible] def v21_17 : VC := (.cond (.t 37) (.exit 0) .skip)
@[reducible] def o21_18 : List Ins := [⟨(some 38), .fa 0 (.t 10), none, true⟩,
  ⟨(some 39), .ld false 3 (.t 38), none, true⟩,
  ⟨none, .st 3 (.t 8) (.t 39), none, true⟩]
@[reducible] def v21_19 : VC := (.seq (.seq (.ops o21_16) v21_17) (.ops o21_18))
@[reducible] def v21_20 : VC := (.seq (.ops o21_15) v21_19)
@[reducible] def o21_21 : List Ins := [⟨(some 40), .bin .add (.t 30) (.k (.c (.int .i64 1))), none, true⟩,
  ⟨(some 30), .mv (.t 40), none, true⟩]
@[reducible] def v21_22 : VC := (.seq (.block 1 v21_20) (.ops o21_21))
@[reducible] def v21_23 : VC := (.seq (.cond (.t 31) .skip (.exit 0)) v21_22)
@[reducible] def v21_24 : VC := (.seq (.ops o21_14) v21_23)
-- K21_1: changed and kept: [30]
@[reducible] def K21_1 : List Nat := [1, 4, 8, 28, 29]
@[reducible] def v21_25 : VC := (.loop v21_24)
@[reducible] def v21_26 : VC := (.block 0 v21_25)
@[reducible] def o21_27 : List Ins := [⟨(some 41), .ld false 3 (.t 8), none, true⟩,
  ⟨none, .st 3 (.t 4) (.t 41), none, true⟩,
  ⟨(some 5), .mv (.k (.c (.int .i64 0))), none, true⟩]
@[reducible] def v21_28 : VC := (.seq (.ops o21_27) .ret)
@[reducible] def v21_29 : VC := (.seq (.seq (.ops o21_13) v21_26) v21_28)
@[reducible] def v21_30 : VC := (.seq (.ops o21_12) v21_29)
@[reducible] def v21_31 : VC := (.seq (.ops o21_11) v21_30)
@[reducible] def v21_32 : VC := (.seq (.seq (.ops o21_7) v21_10) v21_31)
@[reducible] def v21_33 : VC := (.seq (.seq (.ops o21_1) v21_6) v21_32)
def ir21 : FC := ⟨2, 42, [.cell 4 false 3, .t 5], (.seq (.ops o21_0) v21_33)⟩
theorem c21 : compM Try.prog [] 21 = some ir21 := by kernel_rfl



theorem inR_nat {t : Tray} {k : Nat} (h : k < t.pres.length) : inR t (k : Int) = true := by simp [inR, within]; omega
/-- What stands at a time. -/
def standG (x : Int) : Sp → List Sp → Sp
  | o, [] => o
  | o, s :: l => if x < s.from_ then o else standG x s l
def spAv (s : Sp) : AV := .agg [iv s.at_, iv s.way, iv s.side]
theorem spells_ne {t : Tray} (ht : TrayOk t) {q : List Pr} (hq : q.Perm t.pres) (hqs : q.Pairwise fun a b => a.time ≤ b.time) : ∃ l, (goesWith t q).spells = ⟨t.at_.toNat, wayI (t.way == 1), -1, 0⟩ :: l := by
  obtain ⟨k, _, h, _, _, _⟩ := goes_inv ht hq hqs (fun _ s => ∃ l, s.spells = ⟨t.at_.toNat, wayI (t.way == 1), -1, 0⟩ :: l) ⟨[], rfl⟩ (fun k s _ h => h)
    (fun k s s' hs hpr ⟨l, hl⟩ e => by
      rcases act1_cases e with ⟨p, q, hq, hpins, rfl⟩ | ⟨hpins, rfl⟩
      · exact ⟨l, hl⟩
      · have m4 := (move_q t (s.play t)).2.2.2.1
        have e1 : ((s.play t).next t).spells = (s.play t).spells ++ [⟨((s.play t).move t).at_, wayI ((s.play t).move t).up, -1, ((s.play t).move t).now⟩] := by
          show ((s.play t).move t).spells ++ _ = _
          rw [m4]
        rw [e1]
        unfold Cs.play
        split
        · simp only [Cs.play2, Cs.play1, Cs.mark, hl]
          exact ⟨_, rfl⟩
        · rw [hl]; exact ⟨_, rfl⟩)
  exact h
def standV (t : Tray) (x : Int) : Sp := standG x ((goesS t).spells.headD default) (goesS t).spells
def standR (t : Tray) (x : Int) : Sp × Int := if t.ok then (if isTime x then (standV t x, 0) else (⟨0, 0, 0, 0⟩, 1)) else (⟨0, 0, 0, 0⟩, 20)
theorem standG_step (x : Int) (o : Sp) {l : List Sp} {k : Nat} (h : k < l.length) : standG x o (l.drop k) = if x < l[k].from_ then o else standG x l[k] (l.drop (k + 1)) := by
  rw [List.drop_eq_getElem_cons h]; rfl
set_option maxRecDepth 20000 in
set_option maxHeartbeats 8000000 in
theorem stand21 (t : Tray) (x : Int) : FSpec Try.prog 21 [t.av, iv x] (.tup [spAv (standR t x).1, iv (standR t x).2]) := by
  have hck := check40 t
  have htm := istime53 x
  unfold standR
  cases hok : t.ok
  · simp only [hok, Bool.false_eq_true, if_false] at hck ⊢
    refine FSpec_of c21 (Nat.le_refl _) (by decide) fun C hP hN hC hL => ?_
    simp only [ir21, Tray.av]
    (repeat ((first | refine WV_seq_ ?_ | refine WV_block ?_ | refine WV_ops ?_ | refine WV_skip ?_ | refine WV_exit ?_); (try simp only [go_sem, init_env', Nat.reduceEqDiff, Nat.reduceAdd, Nat.reduceMul, reduceIte, Nat.reduceLeDiff, Nat.reduceLT, Nat.reduceBEq, reduceCtorEq, hP, ]); (repeat refine qI ?_)))
    (refine AS_pure (hck) rfl rfl rfl rfl rfl ?_; simp only [go_sem, init_env', Nat.reduceEqDiff, Nat.reduceAdd, Nat.reduceMul, reduceIte, Nat.reduceLeDiff, Nat.reduceLT, Nat.reduceBEq, reduceCtorEq, hP, Tray.av]; (repeat refine qI ?_); (repeat ((first | refine WV_seq_ ?_ | refine WV_block ?_ | refine WV_ops ?_ | refine WV_skip ?_ | refine WV_exit ?_); (try simp only [go_sem, init_env', Nat.reduceEqDiff, Nat.reduceAdd, Nat.reduceMul, reduceIte, Nat.reduceLeDiff, Nat.reduceLT, Nat.reduceBEq, reduceCtorEq, hP, Tray.av]); (repeat refine qI ?_))))
    (refine WV_cond rfl (fun h => ?_) (fun h => ?_))
    · (repeat ((first | refine WV_seq_ ?_ | refine WV_block ?_ | refine WV_ops ?_ | refine WV_skip ?_ | refine WV_exit ?_); (try simp only [go_sem, init_env', Nat.reduceEqDiff, Nat.reduceAdd, Nat.reduceMul, reduceIte, Nat.reduceLeDiff, Nat.reduceLT, Nat.reduceBEq, reduceCtorEq, hP, ]); (repeat refine qI ?_)))
      (refine WV_ret ?_; simp only [thenQ, inQ, RetQ, RetOk, resAll, resA]; simp only [go_sem, init_env', Nat.reduceEqDiff, Nat.reduceAdd, Nat.reduceMul, reduceIte, Nat.reduceLeDiff, Nat.reduceLT, Nat.reduceBEq, reduceCtorEq, tupA, AV.port, AV.portL, exists_eq_left', ]; (first | exact AVle.of rfl | refine AVle.of ?_ | skip))
    · simp at h
  simp only [hok, if_true] at hck ⊢
  have ht := (Tray.ok_spec hok).1
  have hgo := goes54 ht
  cases htt : isTime x
  · rw [htt] at htm
    simp only [Bool.false_eq_true, if_false]
    refine FSpec_of c21 (Nat.le_refl _) (by decide) fun C hP hN hC hL => ?_
    simp only [ir21, Tray.av]
    (repeat ((first | refine WV_seq_ ?_ | refine WV_block ?_ | refine WV_ops ?_ | refine WV_skip ?_ | refine WV_exit ?_); (try simp only [go_sem, init_env', Nat.reduceEqDiff, Nat.reduceAdd, Nat.reduceMul, reduceIte, Nat.reduceLeDiff, Nat.reduceLT, Nat.reduceBEq, reduceCtorEq, hP, ]); (repeat refine qI ?_)))
    (refine AS_pure (hck) rfl rfl rfl rfl rfl ?_; simp only [go_sem, init_env', Nat.reduceEqDiff, Nat.reduceAdd, Nat.reduceMul, reduceIte, Nat.reduceLeDiff, Nat.reduceLT, Nat.reduceBEq, reduceCtorEq, hP, Tray.av]; (repeat refine qI ?_); (repeat ((first | refine WV_seq_ ?_ | refine WV_block ?_ | refine WV_ops ?_ | refine WV_skip ?_ | refine WV_exit ?_); (try simp only [go_sem, init_env', Nat.reduceEqDiff, Nat.reduceAdd, Nat.reduceMul, reduceIte, Nat.reduceLeDiff, Nat.reduceLT, Nat.reduceBEq, reduceCtorEq, hP, Tray.av]); (repeat refine qI ?_))))
    (refine WV_cond rfl (fun h => ?_) (fun h => ?_))
    · simp at h
    · (repeat ((first | refine WV_seq_ ?_ | refine WV_block ?_ | refine WV_ops ?_ | refine WV_skip ?_ | refine WV_exit ?_); (try simp only [go_sem, init_env', Nat.reduceEqDiff, Nat.reduceAdd, Nat.reduceMul, reduceIte, Nat.reduceLeDiff, Nat.reduceLT, Nat.reduceBEq, reduceCtorEq, hP, ]); (repeat refine qI ?_)))
      (refine AS_pure (htm) rfl rfl rfl rfl rfl ?_; simp only [go_sem, init_env', Nat.reduceEqDiff, Nat.reduceAdd, Nat.reduceMul, reduceIte, Nat.reduceLeDiff, Nat.reduceLT, Nat.reduceBEq, reduceCtorEq, hP, ]; (repeat refine qI ?_); (repeat ((first | refine WV_seq_ ?_ | refine WV_block ?_ | refine WV_ops ?_ | refine WV_skip ?_ | refine WV_exit ?_); (try simp only [go_sem, init_env', Nat.reduceEqDiff, Nat.reduceAdd, Nat.reduceMul, reduceIte, Nat.reduceLeDiff, Nat.reduceLT, Nat.reduceBEq, reduceCtorEq, hP, ]); (repeat refine qI ?_))))
      (refine WV_cond rfl (fun h => ?_) (fun h => ?_))
      · (repeat ((first | refine WV_seq_ ?_ | refine WV_block ?_ | refine WV_ops ?_ | refine WV_skip ?_ | refine WV_exit ?_); (try simp only [go_sem, init_env', Nat.reduceEqDiff, Nat.reduceAdd, Nat.reduceMul, reduceIte, Nat.reduceLeDiff, Nat.reduceLT, Nat.reduceBEq, reduceCtorEq, hP, ]); (repeat refine qI ?_)))
        (refine WV_ret ?_; simp only [thenQ, inQ, RetQ, RetOk, resAll, resA]; simp only [go_sem, init_env', Nat.reduceEqDiff, Nat.reduceAdd, Nat.reduceMul, reduceIte, Nat.reduceLeDiff, Nat.reduceLT, Nat.reduceBEq, reduceCtorEq, tupA, AV.port, AV.portL, exists_eq_left', ]; (first | exact AVle.of rfl | refine AVle.of ?_ | skip))
      · simp at h
  · rw [htt] at htm
    simp only [if_true]
    have hsl := (goes_ok ht).spells
    unfold standV
    obtain ⟨l1, hl1⟩ := spells_ne ht (sortT_perm t.pres) (sortT_sorted t.pres)
    have hl1 : (goesS t).spells = ⟨t.at_.toNat, wayI (t.way == 1), -1, 0⟩ :: l1 := hl1
    have h0 : 0 < (goesS t).spells.length := by rw [hl1]; simp
    have hhd : (goesS t).spells.headD default = (goesS t).spells[0] := by simp [hl1]
    rw [hhd]
    generalize hS : (goesS t).spells = S at *
    clear hl1 hhd
    have h0I : (0 : Int) < (S.length : Int) := by omega
    have z0 : ((0 : Int)).toNat = 0 := rfl
    refine FSpec_of c21 (Nat.le_refl _) (by decide) fun C hP hN hC hL => ?_
    simp only [ir21, Tray.av]
    (repeat ((first | refine WV_seq_ ?_ | refine WV_block ?_ | refine WV_ops ?_ | refine WV_skip ?_ | refine WV_exit ?_); (try simp only [go_sem, init_env', Nat.reduceEqDiff, Nat.reduceAdd, Nat.reduceMul, reduceIte, Nat.reduceLeDiff, Nat.reduceLT, Nat.reduceBEq, reduceCtorEq, hP, ]); (repeat refine qI ?_)))
    (refine AS_pure (hck) rfl rfl rfl rfl rfl ?_; simp only [go_sem, init_env', Nat.reduceEqDiff, Nat.reduceAdd, Nat.reduceMul, reduceIte, Nat.reduceLeDiff, Nat.reduceLT, Nat.reduceBEq, reduceCtorEq, hP, Tray.av]; (repeat refine qI ?_); (repeat ((first | refine WV_seq_ ?_ | refine WV_block ?_ | refine WV_ops ?_ | refine WV_skip ?_ | refine WV_exit ?_); (try simp only [go_sem, init_env', Nat.reduceEqDiff, Nat.reduceAdd, Nat.reduceMul, reduceIte, Nat.reduceLeDiff, Nat.reduceLT, Nat.reduceBEq, reduceCtorEq, hP, Tray.av]); (repeat refine qI ?_))))
    (refine WV_cond rfl (fun h => ?_) (fun h => ?_))
    · simp at h
    · (repeat ((first | refine WV_seq_ ?_ | refine WV_block ?_ | refine WV_ops ?_ | refine WV_skip ?_ | refine WV_exit ?_); (try simp only [go_sem, init_env', Nat.reduceEqDiff, Nat.reduceAdd, Nat.reduceMul, reduceIte, Nat.reduceLeDiff, Nat.reduceLT, Nat.reduceBEq, reduceCtorEq, hP, ]); (repeat refine qI ?_)))
      (refine AS_pure (htm) rfl rfl rfl rfl rfl ?_; simp only [go_sem, init_env', Nat.reduceEqDiff, Nat.reduceAdd, Nat.reduceMul, reduceIte, Nat.reduceLeDiff, Nat.reduceLT, Nat.reduceBEq, reduceCtorEq, hP, ]; (repeat refine qI ?_); (repeat ((first | refine WV_seq_ ?_ | refine WV_block ?_ | refine WV_ops ?_ | refine WV_skip ?_ | refine WV_exit ?_); (try simp only [go_sem, init_env', Nat.reduceEqDiff, Nat.reduceAdd, Nat.reduceMul, reduceIte, Nat.reduceLeDiff, Nat.reduceLT, Nat.reduceBEq, reduceCtorEq, hP, ]); (repeat refine qI ?_))))
      (refine WV_cond rfl (fun h => ?_) (fun h => ?_))
      · simp at h
      · (repeat ((first | refine WV_seq_ ?_ | refine WV_block ?_ | refine WV_ops ?_ | refine WV_skip ?_ | refine WV_exit ?_); (try simp only [go_sem, init_env', Nat.reduceEqDiff, Nat.reduceAdd, Nat.reduceMul, reduceIte, Nat.reduceLeDiff, Nat.reduceLT, Nat.reduceBEq, reduceCtorEq, hP, ]); (repeat refine qI ?_)))
        (refine AS_pure (hgo) rfl rfl rfl rfl rfl ?_; simp only [go_sem, init_env', Nat.reduceEqDiff, Nat.reduceAdd, Nat.reduceMul, reduceIte, Nat.reduceLeDiff, Nat.reduceLT, Nat.reduceBEq, reduceCtorEq, hP, Tray.av, Cs.run, hS, spsC, List.length_map, map_getD h0, h0I, z0, Sp.cds]; (repeat refine qI ?_); (repeat ((first | refine WV_seq_ ?_ | refine WV_block ?_ | refine WV_ops ?_ | refine WV_skip ?_ | refine WV_exit ?_); (try simp only [go_sem, init_env', Nat.reduceEqDiff, Nat.reduceAdd, Nat.reduceMul, reduceIte, Nat.reduceLeDiff, Nat.reduceLT, Nat.reduceBEq, reduceCtorEq, hP, Tray.av, Cs.run, hS, spsC, List.length_map, map_getD h0, h0I, z0, Sp.cds]); (repeat refine qI ?_))))
        refine WV_loopK K21_1 [8, 10] (fun p : Nat × Sp => p.1 ≤ S.length ∧ standG x S[0] S = standG x p.2 (S.drop p.1)) (fun p => S.length - p.1) (fun p => [(30, iv p.1)]) (fun p => [(8, .box [iv p.2.at_, iv p.2.way, iv p.2.side])]) (0, S[0]) ⟨Nat.zero_le _, rfl⟩ ?_ ?_
        · exact Sub_au
        · rintro ⟨k, o⟩ ⟨hk, hx⟩
          simp only at hk hx
          simp only [go_sem, init_env', Nat.reduceEqDiff, Nat.reduceAdd, Nat.reduceMul, reduceIte, Nat.reduceLeDiff, Nat.reduceLT, Nat.reduceBEq, reduceCtorEq]
          (repeat ((first | refine WV_seq_ ?_ | refine WV_block ?_ | refine WV_ops ?_ | refine WV_skip ?_ | refine WV_exit ?_); (try simp only [go_sem, init_env', Nat.reduceEqDiff, Nat.reduceAdd, Nat.reduceMul, reduceIte, Nat.reduceLeDiff, Nat.reduceLT, Nat.reduceBEq, reduceCtorEq, hP, ]); (repeat refine qI ?_)))
          (refine WV_cond rfl (fun h => ?_) (fun h => ?_))
          · have hkl : k < S.length := by simpa using h
            have hI : (k : Int) < (S.length : Int) := by omega
            have hw2 := w64 (n := (k : Int) + 1) (by omega) (by omega)
            rw [standG_step x o hkl] at hx
            (repeat ((first | refine WV_seq_ ?_ | refine WV_block ?_ | refine WV_ops ?_ | refine WV_skip ?_ | refine WV_exit ?_); (try simp only [go_sem, init_env', Nat.reduceEqDiff, Nat.reduceAdd, Nat.reduceMul, reduceIte, Nat.reduceLeDiff, Nat.reduceLT, Nat.reduceBEq, reduceCtorEq, hP, map_getD hkl, hI, Int.natCast_nonneg, List.length_map, Sp.cds]); (repeat refine qI ?_)))
            by_cases hc : x < S[k].from_
            · rw [if_pos hc] at hx
              rw [decide_eq_true hc]
              (refine WV_cond rfl (fun h => ?_) (fun h => ?_))
              · (refine WV_exit ?_; simp only [go_sem, init_env', Nat.reduceEqDiff, Nat.reduceAdd, Nat.reduceMul, reduceIte, Nat.reduceLeDiff, Nat.reduceLT, Nat.reduceBEq, reduceCtorEq])
                (repeat ((first | refine WV_seq_ ?_ | refine WV_block ?_ | refine WV_ops ?_ | refine WV_skip ?_ | refine WV_exit ?_); (try simp only [go_sem, init_env', Nat.reduceEqDiff, Nat.reduceAdd, Nat.reduceMul, reduceIte, Nat.reduceLeDiff, Nat.reduceLT, Nat.reduceBEq, reduceCtorEq, hP, ]); (repeat refine qI ?_)))
                (refine WV_ret ?_; simp only [thenQ, inQ, RetQ, RetOk, resAll, resA]; simp only [go_sem, init_env', Nat.reduceEqDiff, Nat.reduceAdd, Nat.reduceMul, reduceIte, Nat.reduceLeDiff, Nat.reduceLT, Nat.reduceBEq, reduceCtorEq, tupA, AV.port, AV.portL, exists_eq_left', ]; (first | exact AVle.of rfl | refine AVle.of ?_ | skip))
                rw [hx]; rfl
              · simp at h
            · rw [if_neg hc] at hx
              rw [decide_eq_false hc]
              (refine WV_cond rfl (fun h => ?_) (fun h => ?_))
              · simp at h
              · (repeat ((first | refine WV_seq_ ?_ | refine WV_block ?_ | refine WV_ops ?_ | refine WV_skip ?_ | refine WV_exit ?_); (try simp only [go_sem, init_env', Nat.reduceEqDiff, Nat.reduceAdd, Nat.reduceMul, reduceIte, Nat.reduceLeDiff, Nat.reduceLT, Nat.reduceBEq, reduceCtorEq, hP, hw2]); (repeat refine qI ?_)))
                refine ⟨(k + 1, S[k]), ⟨by simp only; omega, hx⟩, by simp only; omega, ?_⟩
                exact Sub_au
          · have h : k = S.length := by simp at h; omega
            subst h
            rw [List.drop_length] at hx
            (refine WV_exit ?_; simp only [go_sem, init_env', Nat.reduceEqDiff, Nat.reduceAdd, Nat.reduceMul, reduceIte, Nat.reduceLeDiff, Nat.reduceLT, Nat.reduceBEq, reduceCtorEq])
            (repeat ((first | refine WV_seq_ ?_ | refine WV_block ?_ | refine WV_ops ?_ | refine WV_skip ?_ | refine WV_exit ?_); (try simp only [go_sem, init_env', Nat.reduceEqDiff, Nat.reduceAdd, Nat.reduceMul, reduceIte, Nat.reduceLeDiff, Nat.reduceLT, Nat.reduceBEq, reduceCtorEq, hP, ]); (repeat refine qI ?_)))
            (refine WV_ret ?_; simp only [thenQ, inQ, RetQ, RetOk, resAll, resA]; simp only [go_sem, init_env', Nat.reduceEqDiff, Nat.reduceAdd, Nat.reduceMul, reduceIte, Nat.reduceLeDiff, Nat.reduceLT, Nat.reduceBEq, reduceCtorEq, tupA, AV.port, AV.portL, exists_eq_left', ]; (first | exact AVle.of rfl | refine AVle.of ?_ | skip))
            rw [hx]; rfl
end Go.Proofs.Ytkpgpgaojjobgaa

namespace Go.Proofs.Ytkpgpgaojjobgaa
open Go Go.V
@[reducible] def o26_0 : List Ins := [⟨(some 3), .box 5 (.t 0), none, true⟩,
  ⟨(some 6), .mv (.k (.c (.int .i64 0))), none, true⟩,
  ⟨(some 7), .mv (.k (.c (.int .i64 0))), none, true⟩]
@[reducible] def o26_1 : List Ins := [⟨(some 13), .ld false 5 (.t 3), none, true⟩,
  ⟨(some 14), .call (.k (.fn 40 [])) [(.t 13)], none, true⟩,
  ⟨(some 8), .mv (.t 14), none, true⟩]
@[reducible] def o26_2 : List Ins := [⟨(some 15), .mv (.t 8), none, true⟩,
  ⟨(some 16), .bin .neq (.t 15) (.k (.c (.int .i64 0))), none, true⟩]
@[reducible] def o26_3 : List Ins := [⟨(some 17), .mv (.t 8), none, true⟩,
  ⟨(some 6), .mv (.k (.c (.int .i64 0))), none, true⟩,
  ⟨(some 7), .mv (.t 17), none, true⟩]
@[reducible] def v26_4 : VC := (.seq (.ops o26_3) .ret)
@[reducible] def v26_5 : VC := (.cond (.t 16) v26_4 .skip)
@[reducible] def v26_6 : VC := (.seq (.ops o26_2) v26_5)
@[reducible] def o26_7 : List Ins := [⟨(some 18), .ld false 5 (.t 3), none, true⟩,
  ⟨(some 19), .mv (.t 1), none, true⟩,
  ⟨(some 20), .call (.k (.fn 55 [])) [(.t 18), (.t 19)], none, true⟩,
  ⟨(some 21), .un .not (.t 20), none, true⟩,
  ⟨(some 22), .mv (.t 21), none, true⟩,
  ⟨(some 23), .mv (.t 2), (some (22, false)), true⟩,
  ⟨(some 24), .call (.k (.fn 53 [])) [(.t 23)], (some (22, false)), true⟩,
  ⟨(some 25), .un .not (.t 24), (some (22, false)), true⟩,
  ⟨(some 26), .pick (.t 22) (.k (.c (.bool true))) (.t 25), none, true⟩]
@[reducible] def o26_8 : List Ins := [⟨(some 6), .mv (.k (.c (.int .i64 0))), none, true⟩,
  ⟨(some 7), .mv (.k (.c (.int .i64 1))), none, true⟩]
@[reducible] def v26_9 : VC := (.seq (.ops o26_8) .ret)
@[reducible] def v26_10 : VC := (.cond (.t 26) v26_9 .skip)
@[reducible] def o26_11 : List Ins := [⟨(some 27), .mv (.t 2), none, true⟩,
  ⟨(some 9), .mv (.t 27), none, true⟩]
@[reducible] def o26_12 : List Ins := [⟨(some 28), .mv (.t 9), none, true⟩,
  ⟨(some 29), .bin .geq (.t 28) (.k (.c (.int .i64 0))), none, true⟩]
@[reducible] def v26_13 : VC := (.cond (.t 29) .skip (.exit 0))
@[reducible] def o26_14 : List Ins := [⟨(some 32), .ld false 5 (.t 3), none, true⟩,
  ⟨(some 10), .alloc [(.c (.raw (.slice none 0 0))), (.c (.int .i64 0)), (.c (.int .i64 0)), (.c (.int .i64 0)), (.c (.raw (.slice none 0 0)))], none, true⟩,
  ⟨none, .st 5 (.t 10) (.t 32), none, true⟩]
@[reducible] def o26_15 : List Ins := [⟨(some 33), .mv (.t 1), none, true⟩,
  ⟨(some 34), .mv (.t 9), none, true⟩,
  ⟨(some 35), .bld [(.c (.int .i64 0)), (.c (.int .i64 0))] [(0, 1, (.t 33)), (1, 1, (.t 34))], none, true⟩,
  ⟨(some 11), .alloc [(.c (.int .i64 0)), (.c (.int .i64 0))], none, true⟩,
  ⟨none, .st 2 (.t 11) (.t 35), none, true⟩]
@[reducible] def t26_16 : OT := (.cons ⟨(some 36), .fa 4 (.t 3), none, false⟩
  (.cons ⟨(some 37), .ld true 1 (.t 36), none, false⟩
  (.br [(.cons ⟨(some 38), .call (.k (.fn 56 [])) [(.t 37)], none, true⟩
    (.cons ⟨(some 39), .ld false 2 (.t 11), none, false⟩
    (.cons ⟨(some 40), .bsl 27 2 [(.t 39)], none, false⟩
    (.cons ⟨(some 41), .app 27 2 16 (.t 38) (.t 40), none, true⟩
    (.cons ⟨(some 42), .fa 4 (.t 10), none, true⟩
    (.cons ⟨none, .st 1 (.t 42) (.t 41), none, true⟩
    .nil)))))), (.cons ⟨(some 39), .ld false 2 (.t 11), none, false⟩
    (.br [(.cons ⟨(some 38), .call (.k (.fn 56 [])) [(.t 37)], none, true⟩
      (.cons ⟨(some 40), .bsl 27 2 [(.t 39)], none, false⟩
      (.cons ⟨(some 41), .app 27 2 16 (.t 38) (.t 40), none, true⟩
      (.cons ⟨(some 42), .fa 4 (.t 10), none, true⟩
      (.cons ⟨none, .st 1 (.t 42) (.t 41), none, true⟩
      .nil))))), (.cons ⟨(some 40), .bsl 27 2 [(.t 39)], none, false⟩
      (.cons ⟨(some 38), .call (.k (.fn 56 [])) [(.t 37)], none, true⟩
      (.cons ⟨(some 41), .app 27 2 16 (.t 38) (.t 40), none, true⟩
      (.cons ⟨(some 42), .fa 4 (.t 10), none, true⟩
      (.cons ⟨none, .st 1 (.t 42) (.t 41), none, true⟩
      .nil)))))]))])))
@[reducible] def o26_17 : List Ins := [⟨(some 43), .ld false 5 (.t 10), none, true⟩,
  ⟨(some 44), .call (.k (.fn 54 [])) [(.t 43)], none, true⟩,
  ⟨(some 45), .fld true 1 1 (.t 44), none, true⟩,
  ⟨(some 12), .mv (.t 45), none, true⟩]
@[reducible] def o26_18 : List Ins := [⟨(some 46), .mv (.t 12), none, true⟩,
  ⟨(some 47), .mv (.t 12), none, true⟩,
  ⟨(some 48), .ld false 2 (.t 11), none, true⟩,
  ⟨(some 49), .call (.k (.fn 57 [])) [(.t 47), (.t 48)], none, true⟩,
  ⟨(some 50), .ia 2 (.t 46) (.t 49), none, true⟩,
  ⟨(some 51), .fa 1 (.t 50), none, true⟩,
  ⟨(some 52), .ld true 1 (.t 51), none, true⟩,
  ⟨(some 53), .mv (.t 2), none, true⟩,
  ⟨(some 54), .bin .leq (.t 52) (.t 53), none, true⟩]
@[reducible] def o26_19 : List Ins := [⟨(some 55), .mv (.t 9), none, true⟩,
  ⟨(some 6), .mv (.t 55), none, true⟩,
  ⟨(some 7), .mv (.k (.c (.int .i64 0))), none, true⟩]
@[reducible] def v26_20 : VC := (.seq (.ops o26_19) .ret)
@[reducible] def v26_21 : VC := (.cond (.t 54) v26_20 .skip)
@[reducible] def v26_22 : VC := (.seq (.ops o26_18) v26_21)
@[reducible] def v26_23 : VC := (.seq (.ops o26_17) v26_22)
@[reducible] def v26_24 : VC := (.seq (.drw t26_16) v26_23)
@[reducible] def v26_25 : VC := (.seq (.ops o26_15) v26_24)
@[reducible] def v26_26 : VC := (.seq (.ops o26_14) v26_25)
@[reducible] def o26_27 : List Ins := [⟨(some 30), .mv (.t 9), none, true⟩,
  ⟨(some 31), .bin .sub (.t 30) (.k (.c (.int .i64 1))), none, true⟩,
  ⟨(some 9), .mv (.t 31), none, true⟩]
@[reducible] def v26_28 : VC := (.seq (.block 1 v26_26) (.ops o26_27))
@[reducible] def v26_29 : VC := (.seq (.seq (.ops o26_12) v26_13) v26_28)
-- K26_1: changed and kept: [9]
@[reducible] def K26_1 : List Nat := [1, 2, 3]
@[reducible] def v26_30 : VC := (.loop v26_29)
@[reducible] def v26_31 : VC := (.block 0 v26_30)
@[reducible] def o26_32 : List Ins := [⟨(some 6), .mv (.k (.c (.int .i64 0))), none, true⟩,
  ⟨(some 7), .mv (.k (.c (.int .i64 3))), none, true⟩]
@[reducible] def v26_33 : VC := (.seq (.ops o26_32) .ret)
@[reducible] def v26_34 : VC := (.seq (.seq (.ops o26_11) v26_31) v26_33)
@[reducible] def v26_35 : VC := (.seq (.seq (.ops o26_7) v26_10) v26_34)
@[reducible] def v26_36 : VC := (.seq (.seq (.ops o26_1) v26_6) v26_35)
def ir26 : FC := ⟨3, 56, [.t 6, .t 7], (.seq (.ops o26_0) v26_36)⟩
theorem c26 : compM Try.prog [38] 26 = some ir26 := by kernel_rfl



/-- A slice of these, new, to which more may be appended. -/
def postG (l : List Pr) (r : AV) (os : List Ob) : Prop := (r = .gr 1000 ∧ os = [.grow 27 2 (l.map Pr.cds)]) ∨ (l = [] ∧ r = .c (.raw (.slice none 0 0)) ∧ os = [])
theorem cloneG56 (l : List Pr) (hl : l.length ≤ 1000) : FSpecN Try.prog 56 [.c (prsC l)] (postG l) := by
  have hmax : maxLen = 9223372036854775807 := rfl
  refine FSpecN_of c56 (Nat.le_refl _) (by decide) fun C hP hN hC hL => ?_
  simp only [ir56, prsC]
  cases l with
  | nil =>
    (repeat ((first | refine WV_seq_ ?_ | refine WV_block ?_ | refine WV_ops ?_ | refine WV_skip ?_ | refine WV_exit ?_); (try simp only [go_sem, init_env', Nat.reduceEqDiff, Nat.reduceAdd, Nat.reduceMul, reduceIte, Nat.reduceLeDiff, Nat.reduceLT, Nat.reduceBEq, reduceCtorEq, hP, ]); (repeat refine qI ?_)))
    intro b
    (repeat ((first | refine WV_seq_ ?_ | refine WV_block ?_ | refine WV_ops ?_ | refine WV_skip ?_ | refine WV_exit ?_); (try simp only [go_sem, init_env', Nat.reduceEqDiff, Nat.reduceAdd, Nat.reduceMul, reduceIte, Nat.reduceLeDiff, Nat.reduceLT, Nat.reduceBEq, reduceCtorEq, hP, ]); (repeat refine qI ?_)))
    cases b
    · (refine WV_cond rfl (fun h => ?_) (fun h => ?_))
      · simp at h
      · (repeat ((first | refine WV_seq_ ?_ | refine WV_block ?_ | refine WV_ops ?_ | refine WV_skip ?_ | refine WV_exit ?_); (try simp only [go_sem, init_env', Nat.reduceEqDiff, Nat.reduceAdd, Nat.reduceMul, reduceIte, Nat.reduceLeDiff, Nat.reduceLT, Nat.reduceBEq, reduceCtorEq, hP, List.all_nil]); (repeat refine qI ?_)))
        (refine WV_ret ?_; simp only [thenQ, inQ, RetQN, RetOkN, resAll, resA]; simp only [go_sem, init_env', Nat.reduceEqDiff, Nat.reduceAdd, Nat.reduceMul, reduceIte, Nat.reduceLeDiff, Nat.reduceLT, Nat.reduceBEq, reduceCtorEq, tupA, ])
        exact ⟨[7], .gr 1000, _, [.grow 27 2 []], by decide, by decide, rfl, AVle.of rfl, rfl, .inl ⟨rfl, rfl⟩⟩
    · (refine WV_cond rfl (fun h => ?_) (fun h => ?_))
      · (repeat ((first | refine WV_seq_ ?_ | refine WV_block ?_ | refine WV_ops ?_ | refine WV_skip ?_ | refine WV_exit ?_); (try simp only [go_sem, init_env', Nat.reduceEqDiff, Nat.reduceAdd, Nat.reduceMul, reduceIte, Nat.reduceLeDiff, Nat.reduceLT, Nat.reduceBEq, reduceCtorEq, hP, ]); (repeat refine qI ?_)))
        (refine WV_ret ?_; simp only [thenQ, inQ, RetQN, RetOkN, resAll, resA]; simp only [go_sem, init_env', Nat.reduceEqDiff, Nat.reduceAdd, Nat.reduceMul, reduceIte, Nat.reduceLeDiff, Nat.reduceLT, Nat.reduceBEq, reduceCtorEq, tupA, ])
        exact ⟨[], .c (.raw (.slice none 0 0)), _, [], by decide, by decide, rfl, AVle.of rfl, rfl, .inr ⟨rfl, rfl, rfl⟩⟩
      · simp at h
  | cons a l =>
    (repeat ((first | refine WV_seq_ ?_ | refine WV_block ?_ | refine WV_ops ?_ | refine WV_skip ?_ | refine WV_exit ?_); (try simp only [go_sem, init_env', Nat.reduceEqDiff, Nat.reduceAdd, Nat.reduceMul, reduceIte, Nat.reduceLeDiff, Nat.reduceLT, Nat.reduceBEq, reduceCtorEq, hP, ]); (repeat refine qI ?_)))
    (refine WV_cond rfl (fun h => ?_) (fun h => ?_))
    · simp at h
    · clear h
      have hp := prs_two (a :: l)
      simp only [List.map_cons] at hp
      have hlen : l.length + 1 ≤ 1000 := hl
      (repeat ((first | refine WV_seq_ ?_ | refine WV_block ?_ | refine WV_ops ?_ | refine WV_skip ?_ | refine WV_exit ?_); (try simp only [go_sem, init_env', Nat.reduceEqDiff, Nat.reduceAdd, Nat.reduceMul, reduceIte, Nat.reduceLeDiff, Nat.reduceLT, Nat.reduceBEq, reduceCtorEq, hP, hp, List.length_cons]); (repeat refine qI ?_)))
      (refine WV_ret ?_; simp only [thenQ, inQ, RetQN, RetOkN, resAll, resA]; simp only [go_sem, init_env', Nat.reduceEqDiff, Nat.reduceAdd, Nat.reduceMul, reduceIte, Nat.reduceLeDiff, Nat.reduceLT, Nat.reduceBEq, reduceCtorEq, tupA, ])
      exact ⟨[7], .gr 1000, _, [.grow 27 2 ((a :: l).map Pr.cds)], by decide, by decide, rfl, AVle.of rfl, rfl, .inl ⟨rfl, rfl⟩⟩

/-- One more press. -/
def withT (t : Tray) (p : Pr) : Tray := { t with pres := t.pres ++ [p] }
theorem with_ok {t : Tray} (ht : TrayOk t) (h12 : t.pres.length ≤ 12) {p : Pr} (hs : isSide t.n p.side = true) (hx : isTime p.time = true) : TrayOk (withT t p) := by
  simp only [isSide, isTime, within, Bool.and_eq_true, decide_eq_true_eq] at hs hx
  refine ⟨ht.n1, ht.n6, ht.at_, ht.way, ht.step, ht.recs, fun q hq => ?_, by show (t.pres ++ [p]).length ≤ 13; rw [List.length_append]; simp only [List.length_cons, List.length_nil]; omega⟩
  rcases List.mem_append.1 hq with hq | hq
  · exact ht.pres q hq
  · simp only [List.mem_singleton] at hq
    subst hq
    show (0 ≤ q.side ∧ q.side < 2 * (t.n : Int)) ∧ _
    omega
/-- When one more press is served. -/
def servAt (t : Tray) (p : Pr) : Int := ((playsS (withT t p)).getD (servesI (playsS (withT t p)) p 0).toNat default).time
def latestG (f : Int → Bool) : Nat → Int × Int
  | 0 => (0, 3)
  | k + 1 => if f k then ((k : Int), 0) else latestG f k
def latestR (t : Tray) (s b : Int) : Int × Int :=
  if t.ok then (if isSide t.n s && isTime b then latestG (fun x => decide (servAt t ⟨s, x⟩ ≤ b)) (b + 1).toNat else (0, 1)) else (0, 20)

set_option maxRecDepth 20000 in
set_option maxHeartbeats 8000000 in
theorem latest26 (t : Tray) (s b : Int) : FSpec Try.prog 26 [t.av, iv s, iv b] (.tup [iv (latestR t s b).1, iv (latestR t s b).2]) := by
  have hck := check40 t
  unfold latestR
  cases hok : t.ok
  · simp only [hok, Bool.false_eq_true, if_false] at hck ⊢
    refine FSpec_of c26 (Nat.le_refl _) (by decide) fun C hP hN hC hL => ?_
    simp only [ir26, Tray.av]
    (repeat ((first | refine WV_seq_ ?_ | refine WV_block ?_ | refine WV_ops ?_ | refine WV_skip ?_ | refine WV_exit ?_); (try simp only [go_sem, init_env', Nat.reduceEqDiff, Nat.reduceAdd, Nat.reduceMul, reduceIte, Nat.reduceLeDiff, Nat.reduceLT, Nat.reduceBEq, reduceCtorEq, hP, ]); (repeat refine qI ?_)))
    (refine AS_pure (hck) rfl rfl rfl rfl rfl ?_; simp only [go_sem, init_env', Nat.reduceEqDiff, Nat.reduceAdd, Nat.reduceMul, reduceIte, Nat.reduceLeDiff, Nat.reduceLT, Nat.reduceBEq, reduceCtorEq, hP, Tray.av]; (repeat refine qI ?_); (repeat ((first | refine WV_seq_ ?_ | refine WV_block ?_ | refine WV_ops ?_ | refine WV_skip ?_ | refine WV_exit ?_); (try simp only [go_sem, init_env', Nat.reduceEqDiff, Nat.reduceAdd, Nat.reduceMul, reduceIte, Nat.reduceLeDiff, Nat.reduceLT, Nat.reduceBEq, reduceCtorEq, hP, Tray.av]); (repeat refine qI ?_))))
    (refine WV_cond rfl (fun h => ?_) (fun h => ?_))
    · (repeat ((first | refine WV_seq_ ?_ | refine WV_block ?_ | refine WV_ops ?_ | refine WV_skip ?_ | refine WV_exit ?_); (try simp only [go_sem, init_env', Nat.reduceEqDiff, Nat.reduceAdd, Nat.reduceMul, reduceIte, Nat.reduceLeDiff, Nat.reduceLT, Nat.reduceBEq, reduceCtorEq, hP, ]); (repeat refine qI ?_)))
      (refine WV_ret ?_; simp only [thenQ, inQ, RetQ, RetOk, resAll, resA]; simp only [go_sem, init_env', Nat.reduceEqDiff, Nat.reduceAdd, Nat.reduceMul, reduceIte, Nat.reduceLeDiff, Nat.reduceLT, Nat.reduceBEq, reduceCtorEq, tupA, AV.port, AV.portL, exists_eq_left', ]; (first | exact AVle.of rfl | refine AVle.of ?_ | skip))
    · simp at h
  simp only [hok, if_true] at hck ⊢
  have hokk := Tray.ok_spec hok
  have ht := hokk.1
  have h12 := hokk.2
  have hn6 := ht.n6
  have hside := isside55 t s (by omega)
  have htime := istime53 b
  cases hin : isSide t.n s && isTime b
  · have hb : (!isSide t.n s || !isTime b) = true := by rw [← Bool.not_and, hin]; rfl
    simp only [Bool.false_eq_true, if_false]
    refine FSpec_of c26 (Nat.le_refl _) (by decide) fun C hP hN hC hL => ?_
    simp only [ir26, Tray.av]
    (repeat ((first | refine WV_seq_ ?_ | refine WV_block ?_ | refine WV_ops ?_ | refine WV_skip ?_ | refine WV_exit ?_); (try simp only [go_sem, init_env', Nat.reduceEqDiff, Nat.reduceAdd, Nat.reduceMul, reduceIte, Nat.reduceLeDiff, Nat.reduceLT, Nat.reduceBEq, reduceCtorEq, hP, ]); (repeat refine qI ?_)))
    (refine AS_pure (hck) rfl rfl rfl rfl rfl ?_; simp only [go_sem, init_env', Nat.reduceEqDiff, Nat.reduceAdd, Nat.reduceMul, reduceIte, Nat.reduceLeDiff, Nat.reduceLT, Nat.reduceBEq, reduceCtorEq, hP, Tray.av]; (repeat refine qI ?_); (repeat ((first | refine WV_seq_ ?_ | refine WV_block ?_ | refine WV_ops ?_ | refine WV_skip ?_ | refine WV_exit ?_); (try simp only [go_sem, init_env', Nat.reduceEqDiff, Nat.reduceAdd, Nat.reduceMul, reduceIte, Nat.reduceLeDiff, Nat.reduceLT, Nat.reduceBEq, reduceCtorEq, hP, Tray.av]); (repeat refine qI ?_))))
    (refine WV_cond rfl (fun h => ?_) (fun h => ?_))
    · simp at h
    · (repeat ((first | refine WV_seq_ ?_ | refine WV_block ?_ | refine WV_ops ?_ | refine WV_skip ?_ | refine WV_exit ?_); (try simp only [go_sem, init_env', Nat.reduceEqDiff, Nat.reduceAdd, Nat.reduceMul, reduceIte, Nat.reduceLeDiff, Nat.reduceLT, Nat.reduceBEq, reduceCtorEq, hP, ]); (repeat refine qI ?_)))
      (refine AS_pure (hside) rfl rfl rfl rfl rfl ?_; simp only [go_sem, init_env', Nat.reduceEqDiff, Nat.reduceAdd, Nat.reduceMul, reduceIte, Nat.reduceLeDiff, Nat.reduceLT, Nat.reduceBEq, reduceCtorEq, hP, Tray.av]; (repeat refine qI ?_); (repeat ((first | refine WV_seq_ ?_ | refine WV_block ?_ | refine WV_ops ?_ | refine WV_skip ?_ | refine WV_exit ?_); (try simp only [go_sem, init_env', Nat.reduceEqDiff, Nat.reduceAdd, Nat.reduceMul, reduceIte, Nat.reduceLeDiff, Nat.reduceLT, Nat.reduceBEq, reduceCtorEq, hP, Tray.av]); (repeat refine qI ?_))))
      (refine AG_pure (fun hG => htime) rfl (fun hG => by first | (simp only [go_sem, init_env', Nat.reduceEqDiff, Nat.reduceAdd, Nat.reduceMul, reduceIte, Nat.reduceLeDiff, Nat.reduceLT, Nat.reduceBEq, reduceCtorEq, hG]; done) | (simp only [go_sem, init_env', Nat.reduceEqDiff, Nat.reduceAdd, Nat.reduceMul, reduceIte, Nat.reduceLeDiff, Nat.reduceLT, Nat.reduceBEq, reduceCtorEq]; revert hG; simp; done) | (simp only [go_sem, init_env', Nat.reduceEqDiff, Nat.reduceAdd, Nat.reduceMul, reduceIte, Nat.reduceLeDiff, Nat.reduceLT, Nat.reduceBEq, reduceCtorEq, hG]; simp_all; done) | (revert hG; simp; done) | simp_all) rfl rfl rfl ?_; simp only [go_sem, init_env', Nat.reduceEqDiff, Nat.reduceAdd, Nat.reduceMul, reduceIte, Nat.reduceLeDiff, Nat.reduceLT, Nat.reduceBEq, reduceCtorEq, hP, hb]; (repeat refine qI ?_); (repeat ((first | refine WV_seq_ ?_ | refine WV_block ?_ | refine WV_ops ?_ | refine WV_skip ?_ | refine WV_exit ?_); (try simp only [go_sem, init_env', Nat.reduceEqDiff, Nat.reduceAdd, Nat.reduceMul, reduceIte, Nat.reduceLeDiff, Nat.reduceLT, Nat.reduceBEq, reduceCtorEq, hP, hb]); (repeat refine qI ?_))))
      (refine WV_cond rfl (fun h => ?_) (fun h => ?_))
      · (repeat ((first | refine WV_seq_ ?_ | refine WV_block ?_ | refine WV_ops ?_ | refine WV_skip ?_ | refine WV_exit ?_); (try simp only [go_sem, init_env', Nat.reduceEqDiff, Nat.reduceAdd, Nat.reduceMul, reduceIte, Nat.reduceLeDiff, Nat.reduceLT, Nat.reduceBEq, reduceCtorEq, hP, ]); (repeat refine qI ?_)))
        (refine WV_ret ?_; simp only [thenQ, inQ, RetQ, RetOk, resAll, resA]; simp only [go_sem, init_env', Nat.reduceEqDiff, Nat.reduceAdd, Nat.reduceMul, reduceIte, Nat.reduceLeDiff, Nat.reduceLT, Nat.reduceBEq, reduceCtorEq, tupA, AV.port, AV.portL, exists_eq_left', ]; (first | exact AVle.of rfl | refine AVle.of ?_ | skip))
      · simp at h
  · have hb : (!isSide t.n s || !isTime b) = false := by rw [← Bool.not_and, hin]; rfl
    simp only [if_true]
    have hs1 : isSide t.n s = true := by simp only [Bool.and_eq_true] at hin; exact hin.1
    have hb1 : isTime b = true := by simp only [Bool.and_eq_true] at hin; exact hin.2
    have hb2 : 0 ≤ b ∧ b ≤ 9999 := by simpa [isTime, within] using hb1
    refine FSpec_of c26 (Nat.le_refl _) (by decide) fun C hP hN hC hL => ?_
    simp only [ir26, Tray.av]
    (repeat ((first | refine WV_seq_ ?_ | refine WV_block ?_ | refine WV_ops ?_ | refine WV_skip ?_ | refine WV_exit ?_); (try simp only [go_sem, init_env', Nat.reduceEqDiff, Nat.reduceAdd, Nat.reduceMul, reduceIte, Nat.reduceLeDiff, Nat.reduceLT, Nat.reduceBEq, reduceCtorEq, hP, ]); (repeat refine qI ?_)))
    (refine AS_pure (hck) rfl rfl rfl rfl rfl ?_; simp only [go_sem, init_env', Nat.reduceEqDiff, Nat.reduceAdd, Nat.reduceMul, reduceIte, Nat.reduceLeDiff, Nat.reduceLT, Nat.reduceBEq, reduceCtorEq, hP, Tray.av]; (repeat refine qI ?_); (repeat ((first | refine WV_seq_ ?_ | refine WV_block ?_ | refine WV_ops ?_ | refine WV_skip ?_ | refine WV_exit ?_); (try simp only [go_sem, init_env', Nat.reduceEqDiff, Nat.reduceAdd, Nat.reduceMul, reduceIte, Nat.reduceLeDiff, Nat.reduceLT, Nat.reduceBEq, reduceCtorEq, hP, Tray.av]); (repeat refine qI ?_))))
    (refine WV_cond rfl (fun h => ?_) (fun h => ?_))
    · simp at h
    · (repeat ((first | refine WV_seq_ ?_ | refine WV_block ?_ | refine WV_ops ?_ | refine WV_skip ?_ | refine WV_exit ?_); (try simp only [go_sem, init_env', Nat.reduceEqDiff, Nat.reduceAdd, Nat.reduceMul, reduceIte, Nat.reduceLeDiff, Nat.reduceLT, Nat.reduceBEq, reduceCtorEq, hP, ]); (repeat refine qI ?_)))
      (refine AS_pure (hside) rfl rfl rfl rfl rfl ?_; simp only [go_sem, init_env', Nat.reduceEqDiff, Nat.reduceAdd, Nat.reduceMul, reduceIte, Nat.reduceLeDiff, Nat.reduceLT, Nat.reduceBEq, reduceCtorEq, hP, Tray.av]; (repeat refine qI ?_); (repeat ((first | refine WV_seq_ ?_ | refine WV_block ?_ | refine WV_ops ?_ | refine WV_skip ?_ | refine WV_exit ?_); (try simp only [go_sem, init_env', Nat.reduceEqDiff, Nat.reduceAdd, Nat.reduceMul, reduceIte, Nat.reduceLeDiff, Nat.reduceLT, Nat.reduceBEq, reduceCtorEq, hP, Tray.av]); (repeat refine qI ?_))))
      (refine AG_pure (fun hG => htime) rfl (fun hG => by first | (simp only [go_sem, init_env', Nat.reduceEqDiff, Nat.reduceAdd, Nat.reduceMul, reduceIte, Nat.reduceLeDiff, Nat.reduceLT, Nat.reduceBEq, reduceCtorEq, hG]; done) | (simp only [go_sem, init_env', Nat.reduceEqDiff, Nat.reduceAdd, Nat.reduceMul, reduceIte, Nat.reduceLeDiff, Nat.reduceLT, Nat.reduceBEq, reduceCtorEq]; revert hG; simp; done) | (simp only [go_sem, init_env', Nat.reduceEqDiff, Nat.reduceAdd, Nat.reduceMul, reduceIte, Nat.reduceLeDiff, Nat.reduceLT, Nat.reduceBEq, reduceCtorEq, hG]; simp_all; done) | (revert hG; simp; done) | simp_all) rfl rfl rfl ?_; simp only [go_sem, init_env', Nat.reduceEqDiff, Nat.reduceAdd, Nat.reduceMul, reduceIte, Nat.reduceLeDiff, Nat.reduceLT, Nat.reduceBEq, reduceCtorEq, hP, hb]; (repeat refine qI ?_); (repeat ((first | refine WV_seq_ ?_ | refine WV_block ?_ | refine WV_ops ?_ | refine WV_skip ?_ | refine WV_exit ?_); (try simp only [go_sem, init_env', Nat.reduceEqDiff, Nat.reduceAdd, Nat.reduceMul, reduceIte, Nat.reduceLeDiff, Nat.reduceLT, Nat.reduceBEq, reduceCtorEq, hP, hb]); (repeat refine qI ?_))))
      (refine WV_cond rfl (fun h => ?_) (fun h => ?_))
      · simp at h
      · (repeat ((first | refine WV_seq_ ?_ | refine WV_block ?_ | refine WV_ops ?_ | refine WV_skip ?_ | refine WV_exit ?_); (try simp only [go_sem, init_env', Nat.reduceEqDiff, Nat.reduceAdd, Nat.reduceMul, reduceIte, Nat.reduceLeDiff, Nat.reduceLT, Nat.reduceBEq, reduceCtorEq, hP, ]); (repeat refine qI ?_)))
        refine WV_loopK K26_1 [10, 11] (fun m : Nat => m ≤ (b + 1).toNat ∧ latestG (fun x => decide (servAt t ⟨s, x⟩ ≤ b)) (b + 1).toNat = latestG (fun x => decide (servAt t ⟨s, x⟩ ≤ b)) m) (fun m => m) (fun m => [(9, iv ((m : Int) - 1))]) (fun _ => []) (b + 1).toNat ⟨Nat.le_refl _, rfl⟩ ?_ ?_
        · rw [show (((b + 1).toNat : Nat) : Int) - 1 = b from by omega]
          exact Sub_au
        · rintro m ⟨hm, hx⟩
          simp only [go_sem, init_env', Nat.reduceEqDiff, Nat.reduceAdd, Nat.reduceMul, reduceIte, Nat.reduceLeDiff, Nat.reduceLT, Nat.reduceBEq, reduceCtorEq]
          (repeat ((first | refine WV_seq_ ?_ | refine WV_block ?_ | refine WV_ops ?_ | refine WV_skip ?_ | refine WV_exit ?_); (try simp only [go_sem, init_env', Nat.reduceEqDiff, Nat.reduceAdd, Nat.reduceMul, reduceIte, Nat.reduceLeDiff, Nat.reduceLT, Nat.reduceBEq, reduceCtorEq, hP, ]); (repeat refine qI ?_)))
          cases m with
          | zero =>
            have hd : decide ((0 : Int) ≤ ((0 : Nat) : Int) - 1) = false := by decide
            rw [hd]
            (refine WV_cond rfl (fun h => ?_) (fun h => ?_))
            · simp at h
            · (refine WV_exit ?_; simp only [go_sem, init_env', Nat.reduceEqDiff, Nat.reduceAdd, Nat.reduceMul, reduceIte, Nat.reduceLeDiff, Nat.reduceLT, Nat.reduceBEq, reduceCtorEq])
              (repeat ((first | refine WV_seq_ ?_ | refine WV_block ?_ | refine WV_ops ?_ | refine WV_skip ?_ | refine WV_exit ?_); (try simp only [go_sem, init_env', Nat.reduceEqDiff, Nat.reduceAdd, Nat.reduceMul, reduceIte, Nat.reduceLeDiff, Nat.reduceLT, Nat.reduceBEq, reduceCtorEq, hP, ]); (repeat refine qI ?_)))
              (refine WV_ret ?_; simp only [thenQ, inQ, RetQ, RetOk, resAll, resA]; simp only [go_sem, init_env', Nat.reduceEqDiff, Nat.reduceAdd, Nat.reduceMul, reduceIte, Nat.reduceLeDiff, Nat.reduceLT, Nat.reduceBEq, reduceCtorEq, tupA, AV.port, AV.portL, exists_eq_left', ]; (first | exact AVle.of rfl | refine AVle.of ?_ | skip))
              rw [hx]; rfl
          | succ m =>
            have em : ((m + 1 : Nat) : Int) - 1 = (m : Int) := by omega
            rw [em]
            (refine WV_cond rfl (fun h => ?_) (fun h => ?_))
            rotate_left
            · simp at h
            have hw9 := w64 (n := (m : Int) - 1) (by omega) (by omega)
            have hwt : TrayOk (withT t ⟨s, m⟩) := with_ok ht h12 hs1 (by simp [isTime, within]; omega)
            have hgo := goes54 hwt
            have hwav : (withT t ⟨s, m⟩).av = .agg [.c (recsC t.recs), iv t.at_, iv t.way, iv t.step, .c (.sl 2 (t.pres.map Pr.cds ++ [[.int .i64 s, .int .i64 m]]))] := by simp [Tray.av, withT, prsC, Pr.cds]
            rw [hwav] at hgo
            have hin9 : inR (withT t ⟨s, m⟩) (t.pres.length : Int) = true := by
              refine inR_nat (t := withT t ⟨s, m⟩) (k := t.pres.length) ?_
              show _ < (t.pres ++ [_]).length
              rw [List.length_append]; simp
            obtain ⟨j, hj, e1, e2, e3, e4, e5, e6, e7, e8⟩ := served_get hwt hin9
            have hpr : (withT t ⟨s, m⟩).pr (t.pres.length : Int) = ⟨s, m⟩ := by
              show (t.pres ++ [(⟨s, m⟩ : Pr)]).getD (((t.pres.length : Nat) : Int)).toNat default = _
              rw [Int.toNat_natCast, List.getD_eq_getElem?_getD, List.getElem?_concat_length]; rfl
            rw [hpr] at e1
            have hsv : servAt t ⟨s, m⟩ = (playsS (withT t ⟨s, m⟩))[j].time := by
              unfold servAt
              rw [e1, Int.toNat_natCast, List.getD_eq_getElem?_getD, List.getElem?_eq_getElem hj]; rfl
            have hjI : (j : Int) < ((playsS (withT t ⟨s, m⟩)).length : Int) := by omega
            have hse := serves57 (playsS (withT t ⟨s, m⟩)) ⟨s, m⟩ (by have := plays_len hwt; omega)
            rw [e1] at hse
            have hlg : latestG (fun x => decide (servAt t ⟨s, x⟩ ≤ b)) (m + 1) = if decide (servAt t ⟨s, m⟩ ≤ b) = true then ((m : Int), 0) else latestG (fun x => decide (servAt t ⟨s, x⟩ ≤ b)) m := rfl
            rw [hlg, hsv] at hx
            clear hlg e4 hsv e2 e3 e7 e8 hpr
            have hplen : (goesS (withT t ⟨s, m⟩)).plays = playsS (withT t ⟨s, m⟩) := rfl
            generalize hPl : playsS (withT t ⟨s, m⟩) = Pl at *
            have hcl := cloneG56 t.pres (by omega)
            have hmax : maxLen = 9223372036854775807 := rfl
            (repeat ((first | refine WV_seq_ ?_ | refine WV_block ?_ | refine WV_ops ?_ | refine WV_skip ?_ | refine WV_exit ?_); (try simp only [go_sem, init_env', Nat.reduceEqDiff, Nat.reduceAdd, Nat.reduceMul, reduceIte, Nat.reduceLeDiff, Nat.reduceLT, Nat.reduceBEq, reduceCtorEq, hP, Int.natCast_nonneg]); (repeat refine qI ?_)))
            (refine WV_drw ?_; simp only [go_sem, init_env', Nat.reduceEqDiff, Nat.reduceAdd, Nat.reduceMul, reduceIte, Nat.reduceLeDiff, Nat.reduceLT, Nat.reduceBEq, reduceCtorEq, hP, ]; (repeat' (refine And.intro ?_ ?_)))
            all_goals
              refine AS_new hcl rfl rfl rfl rfl ?_
              rintro res os (⟨rfl, rfl⟩ | ⟨hpn, rfl, rfl⟩)
              · refine ⟨[900], .gr 900, [.grow 27 2 (t.pres.map Pr.cds)], by decide, rfl, by simp only [go_sem, init_env', Nat.reduceEqDiff, Nat.reduceAdd, Nat.reduceMul, reduceIte, Nat.reduceLeDiff, Nat.reduceLT, Nat.reduceBEq, reduceCtorEq, decide_true], rfl, rfl, ?_⟩
                simp only [go_sem, init_env', Nat.reduceEqDiff, Nat.reduceAdd, Nat.reduceMul, reduceIte, Nat.reduceLeDiff, Nat.reduceLT, Nat.reduceBEq, reduceCtorEq, hP, ownBack, prs_two, List.length_map]
                (repeat refine qI ?_)
                (repeat ((first | refine WV_seq_ ?_ | refine WV_block ?_ | refine WV_ops ?_ | refine WV_skip ?_ | refine WV_exit ?_); (try simp only [go_sem, init_env', Nat.reduceEqDiff, Nat.reduceAdd, Nat.reduceMul, reduceIte, Nat.reduceLeDiff, Nat.reduceLT, Nat.reduceBEq, reduceCtorEq, hP, recsC]); (repeat refine qI ?_)))
                (refine AS_pure (hgo) rfl rfl rfl rfl rfl ?_; simp only [go_sem, init_env', Nat.reduceEqDiff, Nat.reduceAdd, Nat.reduceMul, reduceIte, Nat.reduceLeDiff, Nat.reduceLT, Nat.reduceBEq, reduceCtorEq, hP, Cs.run, hplen]; (repeat refine qI ?_); (repeat ((first | refine WV_seq_ ?_ | refine WV_block ?_ | refine WV_ops ?_ | refine WV_skip ?_ | refine WV_exit ?_); (try simp only [go_sem, init_env', Nat.reduceEqDiff, Nat.reduceAdd, Nat.reduceMul, reduceIte, Nat.reduceLeDiff, Nat.reduceLT, Nat.reduceBEq, reduceCtorEq, hP, Cs.run, hplen]); (repeat refine qI ?_))))
                refine AS_pure hse rfl rfl rfl rfl rfl ?_
                simp only [go_sem, init_env', Nat.reduceEqDiff, Nat.reduceAdd, Nat.reduceMul, reduceIte, Nat.reduceLeDiff, Nat.reduceLT, Nat.reduceBEq, reduceCtorEq, hP, prsC, map_getD hj, hjI, List.length_map, Pr.cds, Int.natCast_nonneg]
                (repeat refine qI ?_)
                by_cases hc : Pl[j].time ≤ b
                · rw [if_pos (decide_eq_true hc)] at hx
                  rw [decide_eq_true hc]
                  (refine WV_cond rfl (fun h => ?_) (fun h => ?_))
                  · (repeat ((first | refine WV_seq_ ?_ | refine WV_block ?_ | refine WV_ops ?_ | refine WV_skip ?_ | refine WV_exit ?_); (try simp only [go_sem, init_env', Nat.reduceEqDiff, Nat.reduceAdd, Nat.reduceMul, reduceIte, Nat.reduceLeDiff, Nat.reduceLT, Nat.reduceBEq, reduceCtorEq, hP, ]); (repeat refine qI ?_)))
                    (refine WV_ret ?_; simp only [thenQ, inQ, RetQ, RetOk, resAll, resA]; simp only [go_sem, init_env', Nat.reduceEqDiff, Nat.reduceAdd, Nat.reduceMul, reduceIte, Nat.reduceLeDiff, Nat.reduceLT, Nat.reduceBEq, reduceCtorEq, tupA, AV.port, AV.portL, exists_eq_left', ]; (first | exact AVle.of rfl | refine AVle.of ?_ | skip))
                    rw [hx]
                  · simp at h
                · rw [if_neg (by simpa using hc)] at hx
                  rw [decide_eq_false hc]
                  (refine WV_cond rfl (fun h => ?_) (fun h => ?_))
                  · simp at h
                  · (repeat ((first | refine WV_seq_ ?_ | refine WV_block ?_ | refine WV_ops ?_ | refine WV_skip ?_ | refine WV_exit ?_); (try simp only [go_sem, init_env', Nat.reduceEqDiff, Nat.reduceAdd, Nat.reduceMul, reduceIte, Nat.reduceLeDiff, Nat.reduceLT, Nat.reduceBEq, reduceCtorEq, hP, hw9]); (repeat refine qI ?_)))
                    refine ⟨m, ⟨by omega, hx⟩, by omega, ?_⟩
                    exact Sub_au
              · rw [hpn] at hgo
                simp only [List.map_nil, List.nil_append] at hgo
                refine ⟨[], .c (.raw (.slice none 0 0)), [], by decide, rfl, by simp only [go_sem, init_env', Nat.reduceEqDiff, Nat.reduceAdd, Nat.reduceMul, reduceIte, Nat.reduceLeDiff, Nat.reduceLT, Nat.reduceBEq, reduceCtorEq, decide_true], rfl, rfl, ?_⟩
                simp only [go_sem, init_env', Nat.reduceEqDiff, Nat.reduceAdd, Nat.reduceMul, reduceIte, Nat.reduceLeDiff, Nat.reduceLT, Nat.reduceBEq, reduceCtorEq, hP, ownBack, prs_two, List.length_map]
                (repeat refine qI ?_)
                (repeat ((first | refine WV_seq_ ?_ | refine WV_block ?_ | refine WV_ops ?_ | refine WV_skip ?_ | refine WV_exit ?_); (try simp only [go_sem, init_env', Nat.reduceEqDiff, Nat.reduceAdd, Nat.reduceMul, reduceIte, Nat.reduceLeDiff, Nat.reduceLT, Nat.reduceBEq, reduceCtorEq, hP, recsC]); (repeat refine qI ?_)))
                (refine AS_pure (hgo) rfl rfl rfl rfl rfl ?_; simp only [go_sem, init_env', Nat.reduceEqDiff, Nat.reduceAdd, Nat.reduceMul, reduceIte, Nat.reduceLeDiff, Nat.reduceLT, Nat.reduceBEq, reduceCtorEq, hP, Cs.run, hplen]; (repeat refine qI ?_); (repeat ((first | refine WV_seq_ ?_ | refine WV_block ?_ | refine WV_ops ?_ | refine WV_skip ?_ | refine WV_exit ?_); (try simp only [go_sem, init_env', Nat.reduceEqDiff, Nat.reduceAdd, Nat.reduceMul, reduceIte, Nat.reduceLeDiff, Nat.reduceLT, Nat.reduceBEq, reduceCtorEq, hP, Cs.run, hplen]); (repeat refine qI ?_))))
                refine AS_pure hse rfl rfl rfl rfl rfl ?_
                simp only [go_sem, init_env', Nat.reduceEqDiff, Nat.reduceAdd, Nat.reduceMul, reduceIte, Nat.reduceLeDiff, Nat.reduceLT, Nat.reduceBEq, reduceCtorEq, hP, prsC, map_getD hj, hjI, List.length_map, Pr.cds, Int.natCast_nonneg]
                (repeat refine qI ?_)
                by_cases hc : Pl[j].time ≤ b
                · rw [if_pos (decide_eq_true hc)] at hx
                  rw [decide_eq_true hc]
                  (refine WV_cond rfl (fun h => ?_) (fun h => ?_))
                  · (repeat ((first | refine WV_seq_ ?_ | refine WV_block ?_ | refine WV_ops ?_ | refine WV_skip ?_ | refine WV_exit ?_); (try simp only [go_sem, init_env', Nat.reduceEqDiff, Nat.reduceAdd, Nat.reduceMul, reduceIte, Nat.reduceLeDiff, Nat.reduceLT, Nat.reduceBEq, reduceCtorEq, hP, ]); (repeat refine qI ?_)))
                    (refine WV_ret ?_; simp only [thenQ, inQ, RetQ, RetOk, resAll, resA]; simp only [go_sem, init_env', Nat.reduceEqDiff, Nat.reduceAdd, Nat.reduceMul, reduceIte, Nat.reduceLeDiff, Nat.reduceLT, Nat.reduceBEq, reduceCtorEq, tupA, AV.port, AV.portL, exists_eq_left', ]; (first | exact AVle.of rfl | refine AVle.of ?_ | skip))
                    rw [hx]
                  · simp at h
                · rw [if_neg (by simpa using hc)] at hx
                  rw [decide_eq_false hc]
                  (refine WV_cond rfl (fun h => ?_) (fun h => ?_))
                  · simp at h
                  · (repeat ((first | refine WV_seq_ ?_ | refine WV_block ?_ | refine WV_ops ?_ | refine WV_skip ?_ | refine WV_exit ?_); (try simp only [go_sem, init_env', Nat.reduceEqDiff, Nat.reduceAdd, Nat.reduceMul, reduceIte, Nat.reduceLeDiff, Nat.reduceLT, Nat.reduceBEq, reduceCtorEq, hP, hw9]); (repeat refine qI ?_)))
                    refine ⟨m, ⟨by omega, hx⟩, by omega, ?_⟩
                    exact Sub_au
end Go.Proofs.Ytkpgpgaojjobgaa

namespace Go.Proofs.Ytkpgpgaojjobgaa
open Go Go.V
@[reducible] def o85_0 : List Ins := [⟨(some 7), .mv (.t 0), none, true⟩,
  ⟨(some 8), .ld true 1 (.t 1), none, true⟩,
  ⟨(some 9), .bin .eql (.t 7) (.t 8), none, true⟩]
@[reducible] def o85_1 : List Ins := [⟨(some 10), .ld true 1 (.t 2), none, true⟩,
  ⟨(some 11), .ld true 1 (.t 3), none, true⟩,
  ⟨(some 12), .call (.t 10) [(.t 11)], none, true⟩]
@[reducible] def v85_2 : VC := (.seq (.ops o85_1) .ret)
@[reducible] def v85_3 : VC := (.cond (.t 9) v85_2 .skip)
@[reducible] def o85_4 : List Ins := [⟨(some 13), .mv (.t 0), none, true⟩,
  ⟨(some 6), .mv (.t 13), none, true⟩]
@[reducible] def o85_5 : List Ins := [⟨(some 14), .mv (.t 6), none, true⟩,
  ⟨(some 15), .ld true 1 (.t 1), none, true⟩,
  ⟨(some 16), .bin .lss (.t 14) (.t 15), none, true⟩]
@[reducible] def v85_6 : VC := (.cond (.t 16) .skip (.exit 0))
@[reducible] def t85_7 : OT := (.cons ⟨(some 19), .ld true 1 (.t 3), none, false⟩
  (.cons ⟨(some 20), .mv (.t 0), none, false⟩
  (.cons ⟨(some 22), .mv (.t 6), none, false⟩
  (.cons ⟨(some 23), .ld true 1 (.t 3), none, false⟩
  (.cons ⟨(some 24), .mv (.t 6), none, false⟩
  (.cons ⟨(some 25), .ia 1 (.t 23) (.t 24), none, false⟩
  (.cons ⟨(some 26), .ld true 1 (.t 25), none, false⟩
  (.cons ⟨(some 27), .ld true 1 (.t 3), none, false⟩
  (.cons ⟨(some 28), .mv (.t 0), none, false⟩
  (.cons ⟨(some 29), .ia 1 (.t 27) (.t 28), none, false⟩
  (.cons ⟨(some 30), .ld true 1 (.t 29), none, false⟩
  (.cons ⟨(some 31), .ia 1 (.t 19) (.t 20), none, false⟩
  (.br [(.cons ⟨(some 21), .ld true 1 (.t 3), none, false⟩
    (.cons ⟨none, .st 1 (.t 31) (.t 26), none, false⟩
    (.cons ⟨(some 32), .ia 1 (.t 21) (.t 22), none, true⟩
    (.cons ⟨none, .st 1 (.t 32) (.t 30), none, true⟩
    .nil)))), (.cons ⟨none, .st 1 (.t 31) (.t 26), none, false⟩
    (.cons ⟨(some 21), .ld true 1 (.t 3), none, false⟩
    (.cons ⟨(some 32), .ia 1 (.t 21) (.t 22), none, true⟩
    (.cons ⟨none, .st 1 (.t 32) (.t 30), none, true⟩
    .nil))))])))))))))))))
@[reducible] def o85_8 : List Ins := [⟨(some 33), .ld true 1 (.t 4), none, true⟩,
  ⟨(some 34), .mv (.t 0), none, true⟩,
  ⟨(some 35), .bin .add (.t 34) (.k (.c (.int .i64 1))), none, true⟩,
  ⟨(some 36), .call (.t 33) [(.t 35)], none, true⟩]
@[reducible] def t85_9 : OT := (.cons ⟨(some 37), .ld true 1 (.t 3), none, false⟩
  (.cons ⟨(some 38), .mv (.t 0), none, false⟩
  (.cons ⟨(some 40), .mv (.t 6), none, false⟩
  (.cons ⟨(some 41), .ld true 1 (.t 3), none, false⟩
  (.cons ⟨(some 42), .mv (.t 6), none, false⟩
  (.cons ⟨(some 43), .ia 1 (.t 41) (.t 42), none, false⟩
  (.cons ⟨(some 44), .ld true 1 (.t 43), none, false⟩
  (.cons ⟨(some 45), .ld true 1 (.t 3), none, false⟩
  (.cons ⟨(some 46), .mv (.t 0), none, false⟩
  (.cons ⟨(some 47), .ia 1 (.t 45) (.t 46), none, false⟩
  (.cons ⟨(some 48), .ld true 1 (.t 47), none, false⟩
  (.cons ⟨(some 49), .ia 1 (.t 37) (.t 38), none, false⟩
  (.br [(.cons ⟨(some 39), .ld true 1 (.t 3), none, false⟩
    (.cons ⟨none, .st 1 (.t 49) (.t 44), none, false⟩
    (.cons ⟨(some 50), .ia 1 (.t 39) (.t 40), none, true⟩
    (.cons ⟨none, .st 1 (.t 50) (.t 48), none, true⟩
    .nil)))), (.cons ⟨none, .st 1 (.t 49) (.t 44), none, false⟩
    (.cons ⟨(some 39), .ld true 1 (.t 3), none, false⟩
    (.cons ⟨(some 50), .ia 1 (.t 39) (.t 40), none, true⟩
    (.cons ⟨none, .st 1 (.t 50) (.t 48), none, true⟩
    .nil))))])))))))))))))
@[reducible] def v85_10 : VC := (.seq (.ops o85_8) (.drw t85_9))
@[reducible] def v85_11 : VC := (.seq (.drw t85_7) v85_10)
@[reducible] def o85_12 : List Ins := [⟨(some 17), .mv (.t 6), none, true⟩,
  ⟨(some 18), .bin .add (.t 17) (.k (.c (.int .i64 1))), none, true⟩,
  ⟨(some 6), .mv (.t 18), none, true⟩]
@[reducible] def v85_13 : VC := (.seq (.block 1 v85_11) (.ops o85_12))
@[reducible] def v85_14 : VC := (.seq (.seq (.ops o85_5) v85_6) v85_13)
-- K85_1: changed and kept: [6]
@[reducible] def K85_1 : List Nat := [0, 1, 3, 4]
@[reducible] def v85_15 : VC := (.loop v85_14)
@[reducible] def v85_16 : VC := (.block 0 v85_15)
@[reducible] def v85_17 : VC := (.seq (.ops o85_4) v85_16)
def ir85 : FC := ⟨5, 51, [], (.seq (.seq (.ops o85_0) v85_3) v85_17)⟩
@[reducible] def o76_0 : List Ins := [⟨(some 2), .box 1 (.t 0), none, true⟩,
  ⟨(some 3), .box 1 (.t 1), none, true⟩]
@[reducible] def o76_1 : List Ins := [⟨(some 7), .ld true 1 (.t 2), none, true⟩,
  ⟨(some 8), .mks 3 1 8 [(.c (.int .i64 0))] (.t 7) (.t 7), none, true⟩,
  ⟨(some 4), .alloc [(.c (.raw (.slice none 0 0)))], none, true⟩,
  ⟨none, .st 1 (.t 4) (.t 8), none, true⟩]
@[reducible] def o76_2 : List Ins := [⟨(some 9), .ld true 1 (.t 4), none, true⟩,
  ⟨(some 10), .len (.t 9), none, true⟩,
  ⟨(some 11), .mv (.k (.c (.int .i64 0))), none, true⟩]
@[reducible] def o76_3 : List Ins := [⟨(some 12), .bin .lss (.t 11) (.t 10), none, true⟩]
@[reducible] def o76_4 : List Ins := [⟨(some 13), .mv (.t 11), none, true⟩,
  ⟨(some 5), .mv (.t 13), none, true⟩]
@[reducible] def o76_5 : List Ins := [⟨(some 14), .ld true 1 (.t 4), none, true⟩,
  ⟨(some 15), .mv (.t 5), none, true⟩,
  ⟨(some 16), .mv (.t 5), none, true⟩,
  ⟨(some 17), .ia 1 (.t 14) (.t 15), none, true⟩,
  ⟨none, .st 1 (.t 17) (.t 16), none, true⟩]
@[reducible] def v76_6 : VC := (.seq (.ops o76_4) (.ops o76_5))
@[reducible] def o76_7 : List Ins := [⟨(some 18), .bin .add (.t 11) (.k (.c (.int .i64 1))), none, true⟩,
  ⟨(some 11), .mv (.t 18), none, true⟩]
@[reducible] def v76_8 : VC := (.seq (.block 1 v76_6) (.ops o76_7))
@[reducible] def v76_9 : VC := (.seq (.cond (.t 12) .skip (.exit 0)) v76_8)
@[reducible] def v76_10 : VC := (.seq (.ops o76_3) v76_9)
-- K76_1: changed and kept: [11]
@[reducible] def K76_1 : List Nat := [2, 3, 4, 10]
@[reducible] def v76_11 : VC := (.loop v76_10)
@[reducible] def v76_12 : VC := (.block 0 v76_11)
@[reducible] def o76_13 : List Ins := [⟨(some 6), .alloc [(.c (.raw .nilFunc))], none, true⟩]
@[reducible] def o76_14 : List Ins := [⟨(some 19), .mkfn 85 [(.t 2), (.t 3), (.t 4), (.t 6)], none, true⟩,
  ⟨none, .st 1 (.t 6) (.t 19), none, true⟩]
@[reducible] def o76_15 : List Ins := [⟨(some 20), .ld true 1 (.t 6), none, true⟩,
  ⟨(some 21), .call (.t 20) [(.k (.c (.int .i64 0)))], none, true⟩]
@[reducible] def v76_16 : VC := (.seq (.ops o76_14) (.ops o76_15))
@[reducible] def v76_17 : VC := (.seq (.ops o76_13) v76_16)
@[reducible] def v76_18 : VC := (.seq (.seq (.ops o76_2) v76_12) v76_17)
@[reducible] def v76_19 : VC := (.seq (.ops o76_1) v76_18)
def ir76 : FC := ⟨2, 22, [], (.seq (.ops o76_0) v76_19)⟩
theorem c85 : compM Try.prog [] 85 = some ir85 := by kernel_rfl
theorem c76 : compM Try.prog [] 76 = some ir76 := by kernel_rfl



def ncd (k : Nat) : List CD := [.int .i64 (k : Int)]
theorem ncd_one (k : Nat) : (ncd k).length = 1 := rfl
def natsC (l : List Nat) : CD := .sl 1 (l.map ncd)
/-- Two places change. -/
def swapL (o : List Nat) (i j : Nat) : List Nat := (o.set i (o.getD j 0)).set j (o.getD i 0)
theorem swapL_len (o : List Nat) (i j : Nat) : (swapL o i j).length = o.length := by simp [swapL]
theorem getD_setN {l : List Nat} {i : Nat} (h : i < l.length) (k x : Nat) : (l.set i x).getD k 0 = if k = i then x else l.getD k 0 := by
  rw [List.getD_eq_getElem?_getD, List.getElem?_set]
  by_cases e : i = k
  · subst e; simp [h]
  · rw [if_neg e, if_neg (fun h => e h.symm), List.getD_eq_getElem?_getD]
theorem swapL_get {o : List Nat} {i j : Nat} (hi : i < o.length) (hj : j < o.length) (k : Nat) : (swapL o i j).getD k 0 = if k = j then o.getD i 0 else if k = i then o.getD j 0 else o.getD k 0 := by
  unfold swapL
  rw [getD_setN (by rw [List.length_set]; exact hj), getD_setN hi]
theorem ext_getDN {l m : List Nat} (hl : l.length = m.length) (h : ∀ i, i < l.length → l.getD i 0 = m.getD i 0) : l = m := by
  apply List.ext_getElem hl
  intro i h1 h2
  have := h i h1
  simpa [h1, h2] using this
theorem swapL_swap {o : List Nat} {i j : Nat} (hi : i < o.length) (hj : j < o.length) : swapL (swapL o i j) i j = o := by
  refine ext_getDN (by rw [swapL_len, swapL_len]) fun k hk => ?_
  rw [swapL_get (by rw [swapL_len]; exact hi) (by rw [swapL_len]; exact hj), swapL_get hi hj, swapL_get hi hj, swapL_get hi hj]
  by_cases h3 : k = j
  · by_cases h4 : i = j
    · simp [h3, h4]
    · simp [h3, h4]
  · by_cases h4 : k = i
    · subst h4; simp [h3]
    · simp [h3, h4]
/-- All orders behind the first places. -/
def permsF (n : Nat) : Nat → List Nat → List (List Nat)
  | 0, o => [o]
  | f + 1, o => (List.range (f + 1)).flatMap fun j => permsF n f (swapL o (n - (f + 1)) (n - (f + 1) + j))
def permsS (n : Nat) : List (List Nat) := permsF n n (List.range n)
def entO (o : List Nat) : Ent := { args := [.vw 1 2000 0 o.length o.length], wins := [cellsG ncd o 0], res := .tup [] }
theorem pure_cellsG {α : Type} (cds : α → List CD) (l : List α) (j : Nat) : AV.pureL (cellsG cds l j) = true := pureL_app (pure_cs _) (pure_non j)
def fromC (n : Nat) (g : Gst) : List AV := [.c (.pt [.int .i64 (n : Int)]), .c (.pt [.raw g.fv]), .bp 1002 0, .bp 1003 0]
def fromO (n : Nat) (g : Gst) (rem : List Ent) (o : List Nat) : List Ob := [.guest g rem, .box (cellsG ncd o 0), .box [.vw 1 1001 0 n n], .box [.fn 85 (fromC n g)]]

/-- The calls that are still to come. -/
def remE (n f : Nat) (o : List Nat) (k i : Nat) (rest : List Ent) : List Ent := (((List.range (f + 1)).drop i).flatMap fun j => permsF n f (swapL o k (k + j))).map entO ++ rest
theorem remE_zero {n f : Nat} {o : List Nat} {k : Nat} (ef : n - (f + 1) = k) (rest : List Ent) : (permsF n (f + 1) o).map entO ++ rest = remE n f o k 0 rest := by
  unfold remE; rw [List.drop_zero]; simp only [permsF, ef]
theorem remE_step {n f : Nat} {o : List Nat} {k i : Nat} (h : i < f + 1) (rest : List Ent) : remE n f o k i rest = (permsF n f (swapL o k (k + i))).map entO ++ remE n f o k (i + 1) rest := by
  unfold remE
  rw [List.drop_eq_getElem_cons (by simpa using h), List.getElem_range, List.flatMap_cons, List.map_append, List.append_assoc]
theorem remE_end {n f : Nat} {o : List Nat} {k : Nat} (rest : List Ent) : remE n f o k (f + 1) rest = rest := by
  unfold remE; rw [List.drop_of_length_le (by simp)]; rfl

set_option maxRecDepth 20000 in
set_option maxHeartbeats 8000000 in
theorem from85 (n : Nat) (hn : n ≤ 100) (g : Gst) : ∀ (f k : Nat) (o : List Nat) (rest : List Ent), k + f = n → o.length = n →
    FSpecL Try.prog 85 (iv k :: fromC n g) (fromO n g ((permsF n f o).map entO ++ rest) o) [] (fun res l' => res = .tup [] ∧ l' = fromO n g rest o) := by
  intro f
  induction f with
  | zero =>
    intro k o rest hk ho
    have hkn : k = n := by omega
    subst hkn
    refine FSpecL_of c85 (by first | simp | exact Nat.le_of_ble_eq_true rfl) (Nat.le_refl _) (by decide) (by decide) fun C hP hN hC hL => ?_; rw [init_env', ownW_upd (by first | simp | exact Nat.le_of_ble_eq_true rfl)]; simp only [ir85, updL, updLo, List.map_nil, List.map_cons, Nat.reduceAdd, fromC, fromO]
    (repeat ((first | refine WV_seq_ ?_ | refine WV_block ?_ | refine WV_ops ?_ | refine WV_skip ?_ | refine WV_exit ?_); (try simp only [go_sem, init_env', Nat.reduceEqDiff, Nat.reduceAdd, Nat.reduceMul, reduceIte, Nat.reduceLeDiff, Nat.reduceLT, Nat.reduceBEq, reduceCtorEq, hP, beq_self_eq_true]); (repeat refine qI ?_)))
    (refine WV_cond rfl (fun h => ?_) (fun h => ?_))
    rotate_left
    · simp at h
    (repeat ((first | refine WV_seq_ ?_ | refine WV_block ?_ | refine WV_ops ?_ | refine WV_skip ?_ | refine WV_exit ?_); (try simp only [go_sem, init_env', Nat.reduceEqDiff, Nat.reduceAdd, Nat.reduceMul, reduceIte, Nat.reduceLeDiff, Nat.reduceLT, Nat.reduceBEq, reduceCtorEq, hP, ]); (repeat refine qI ?_)))
    refine AS_guest 1000 [1001] (g := g) (e := entO o) (rem := rest) rfl rfl rfl rfl (by decide) ?_ ?_ ?_
    · simp only [go_sem, init_env', Nat.reduceEqDiff, Nat.reduceAdd, Nat.reduceMul, reduceIte, Nat.reduceLeDiff, Nat.reduceLT, Nat.reduceBEq, reduceCtorEq, AV.lendL, AV.lend, entO, ho]
    · refine ⟨⟨⟨_, rfl, [], List.append_nil _⟩, pure_cellsG _ _ _⟩, trivial⟩
    · simp only [go_sem, init_env', Nat.reduceEqDiff, Nat.reduceAdd, Nat.reduceMul, reduceIte, Nat.reduceLeDiff, Nat.reduceLT, Nat.reduceBEq, reduceCtorEq, hP, entO]
      (repeat ((first | refine WV_seq_ ?_ | refine WV_block ?_ | refine WV_ops ?_ | refine WV_skip ?_ | refine WV_exit ?_); (try simp only [go_sem, init_env', Nat.reduceEqDiff, Nat.reduceAdd, Nat.reduceMul, reduceIte, Nat.reduceLeDiff, Nat.reduceLT, Nat.reduceBEq, reduceCtorEq, hP, ]); (repeat refine qI ?_)))
      (refine WV_ret ?_; simp only [thenQ, inQ, RetQL, RetOkL, resAll, resA]; simp only [go_sem, init_env', Nat.reduceEqDiff, Nat.reduceAdd, Nat.reduceMul, reduceIte, Nat.reduceLeDiff, Nat.reduceLT, Nat.reduceBEq, reduceCtorEq, tupA, AV.keepP, AV.keepPL]; refine ⟨_, fromO k g rest o, rfl, KeepL_mk rfl rfl ?_ ?_ rfl, ?_⟩)
      · simp only [go_sem, init_env', Nat.reduceEqDiff, Nat.reduceAdd, Nat.reduceMul, reduceIte, Nat.reduceLeDiff, Nat.reduceLT, Nat.reduceBEq, reduceCtorEq, keepAll, Ob.keepP, AV.keepP, AV.keepPL, fromO, fromC]
      · simp only [go_sem, init_env', Nat.reduceEqDiff, Nat.reduceAdd, Nat.reduceMul, reduceIte, Nat.reduceLeDiff, Nat.reduceLT, Nat.reduceBEq, reduceCtorEq, winAll]
      · exact ⟨rfl, rfl⟩
  | succ f ih =>
    intro k o rest hk ho
    have hkn : k < n := by omega
    have hb : ((k : Int) == (n : Int)) = false := by simp; omega
    have ef : n - (f + 1) = k := by omega
    have hw1 := w64 (n := (k : Int) + 1) (by omega) (by omega)
    rw [remE_zero ef]
    simp only [fromC, fromO] at ih ⊢
    refine FSpecL_of c85 (by first | simp | exact Nat.le_of_ble_eq_true rfl) (Nat.le_refl _) (by decide) (by decide) fun C hP hN hC hL => ?_; rw [init_env', ownW_upd (by first | simp | exact Nat.le_of_ble_eq_true rfl)]; simp only [ir85, updL, updLo, List.map_nil, List.map_cons, Nat.reduceAdd, ]
    (repeat ((first | refine WV_seq_ ?_ | refine WV_block ?_ | refine WV_ops ?_ | refine WV_skip ?_ | refine WV_exit ?_); (try simp only [go_sem, init_env', Nat.reduceEqDiff, Nat.reduceAdd, Nat.reduceMul, reduceIte, Nat.reduceLeDiff, Nat.reduceLT, Nat.reduceBEq, reduceCtorEq, hP, hb]); (repeat refine qI ?_)))
    (refine WV_cond rfl (fun h => ?_) (fun h => ?_))
    · simp at h
    (repeat ((first | refine WV_seq_ ?_ | refine WV_block ?_ | refine WV_ops ?_ | refine WV_skip ?_ | refine WV_exit ?_); (try simp only [go_sem, init_env', Nat.reduceEqDiff, Nat.reduceAdd, Nat.reduceMul, reduceIte, Nat.reduceLeDiff, Nat.reduceLT, Nat.reduceBEq, reduceCtorEq, hP, ]); (repeat refine qI ?_)))
    refine WV_loopK K85_1 [1000, 1001, 1002, 1003] (fun i : Nat => i ≤ f + 1) (fun i => f + 1 - i) (fun i => [(6, iv ((k + i : Nat) : Int))])
      (fun i => [(1000, .guest g (remE n f o k i rest)), (1001, .box (cellsG ncd o 0)), (1002, .box [.vw 1 1001 0 n n]), (1003, .box [.fn 85 [.c (.pt [.int .i64 (n : Int)]), .c (.pt [.raw g.fv]), .bp 1002 0, .bp 1003 0]])]) 0 (Nat.zero_le _) ?_ ?_
    · exact Sub_au
    · intro i hi
      simp only [go_sem, init_env', Nat.reduceEqDiff, Nat.reduceAdd, Nat.reduceMul, reduceIte, Nat.reduceLeDiff, Nat.reduceLT, Nat.reduceBEq, reduceCtorEq]
      (repeat ((first | refine WV_seq_ ?_ | refine WV_block ?_ | refine WV_ops ?_ | refine WV_skip ?_ | refine WV_exit ?_); (try simp only [go_sem, init_env', Nat.reduceEqDiff, Nat.reduceAdd, Nat.reduceMul, reduceIte, Nat.reduceLeDiff, Nat.reduceLT, Nat.reduceBEq, reduceCtorEq, hP, ]); (repeat refine qI ?_)))
      (refine WV_cond rfl (fun h => ?_) (fun h => ?_))
      · have hil : i < f + 1 := by simp at h; omega
        rw [remE_step hil]
        generalize hR : remE n f o k (i + 1) rest = rest2
        have hki : k + i < n := by omega
        have hI1 : (k : Int) < (n : Int) := by omega
        have hI2 : ((k + i : Nat) : Int) < (n : Int) := by omega
        have hok : k < o.length := by omega
        have hoi : k + i < o.length := by omega
        have g1 : ∀ x, (cellsG ncd o 0).getD (k + i) x = .c (.int .i64 (o.getD (k + i) 0 : Nat)) := fun x => by
          have := cellsG_get ncd_one hoi 0 0 (d := .int .i64 (o[k + i] : Nat)) rfl x
          rw [Nat.mul_one, Nat.add_zero] at this
          rw [this]; simp [hoi]
        have g2 : ∀ x, (cellsG ncd o 0).getD k x = .c (.int .i64 (o.getD k 0 : Nat)) := fun x => by
          have := cellsG_get ncd_one hok 0 0 (d := .int .i64 (o[k] : Nat)) rfl x
          rw [Nat.mul_one, Nat.add_zero] at this
          rw [this]; simp [hok]
        have s1 : (cellsG ncd o 0).set k (.c (.int .i64 (o.getD (k + i) 0 : Nat))) = cellsG ncd (o.set k (o.getD (k + i) 0)) 0 := by
          have := cellsG_set ncd_one hok 0 0 (by decide) (.int .i64 (o.getD (k + i) 0 : Nat)) (o.getD (k + i) 0) rfl
          rwa [Nat.mul_one, Nat.add_zero] at this
        have s2 : (cellsG ncd (o.set k (o.getD (k + i) 0)) 0).set (k + i) (.c (.int .i64 (o.getD k 0 : Nat))) = cellsG ncd (swapL o k (k + i)) 0 := by
          have := cellsG_set ncd_one (l := o.set k (o.getD (k + i) 0)) (k := k + i) (by rw [List.length_set]; exact hoi) 0 0 (by decide) (.int .i64 (o.getD k 0 : Nat)) (o.getD k 0) rfl
          rwa [Nat.mul_one, Nat.add_zero] at this
        have l1 : (cellsG ncd o 0).length = n := by rw [cellsG_len ncd_one]; omega
        have l2 : (cellsG ncd (o.set k (o.getD (k + i) 0)) 0).length = n := by rw [cellsG_len ncd_one, List.length_set]; omega
        have t1 : (((k + i : Nat) : Int)).toNat = k + i := Int.toNat_natCast _
        have hsp := ih (k + 1) (swapL o k (k + i)) rest2 (by omega) (by rw [swapL_len]; exact ho)
        have hsl : (swapL o k (k + i)).length = n := by rw [swapL_len]; exact ho
        have hok' : k < (swapL o k (k + i)).length := by omega
        have hoi' : k + i < (swapL o k (k + i)).length := by omega
        have hss := swapL_swap hok hoi
        (repeat ((first | refine WV_seq_ ?_ | refine WV_block ?_ | refine WV_ops ?_ | refine WV_skip ?_ | refine WV_exit ?_); (try simp only [go_sem, init_env', Nat.reduceEqDiff, Nat.reduceAdd, Nat.reduceMul, reduceIte, Nat.reduceLeDiff, Nat.reduceLT, Nat.reduceBEq, reduceCtorEq, hP, ]); (repeat refine qI ?_)))
        (refine WV_drw ?_; simp only [go_sem, init_env', Nat.reduceEqDiff, Nat.reduceAdd, Nat.reduceMul, reduceIte, Nat.reduceLeDiff, Nat.reduceLT, Nat.reduceBEq, reduceCtorEq, hP, g1, g2, s1, s2, l1, l2, hI1, hI2, t1, Int.natCast_nonneg, hkn, hki]; (repeat' (refine And.intro ?_ ?_)))
        all_goals first
        | omega
        | skip
        clear g1 g2 s1 s2 l1 l2
        generalize swapL o k (k + i) = o2 at *
        have g1 : ∀ x, (cellsG ncd o2 0).getD (k + i) x = .c (.int .i64 (o2.getD (k + i) 0 : Nat)) := fun x => by
          have := cellsG_get ncd_one hoi' 0 0 (d := .int .i64 (o2[k + i] : Nat)) rfl x
          rw [Nat.mul_one, Nat.add_zero] at this
          rw [this]; simp [hoi']
        have g2 : ∀ x, (cellsG ncd o2 0).getD k x = .c (.int .i64 (o2.getD k 0 : Nat)) := fun x => by
          have := cellsG_get ncd_one hok' 0 0 (d := .int .i64 (o2[k] : Nat)) rfl x
          rw [Nat.mul_one, Nat.add_zero] at this
          rw [this]; simp [hok']
        have s1 : (cellsG ncd o2 0).set k (.c (.int .i64 (o2.getD (k + i) 0 : Nat))) = cellsG ncd (o2.set k (o2.getD (k + i) 0)) 0 := by
          have := cellsG_set ncd_one hok' 0 0 (by decide) (.int .i64 (o2.getD (k + i) 0 : Nat)) (o2.getD (k + i) 0) rfl
          rwa [Nat.mul_one, Nat.add_zero] at this
        have s2 : (cellsG ncd (o2.set k (o2.getD (k + i) 0)) 0).set (k + i) (.c (.int .i64 (o2.getD k 0 : Nat))) = cellsG ncd o 0 := by
          have := cellsG_set ncd_one (l := o2.set k (o2.getD (k + i) 0)) (k := k + i) (by rw [List.length_set]; exact hoi') 0 0 (by decide) (.int .i64 (o2.getD k 0 : Nat)) (o2.getD k 0) rfl
          rw [Nat.mul_one, Nat.add_zero] at this
          rw [this]
          exact congrArg (fun z => cellsG ncd z 0) hss
        have l1 : (cellsG ncd o2 0).length = n := by rw [cellsG_len ncd_one]; omega
        have l2 : (cellsG ncd (o2.set k (o2.getD (k + i) 0)) 0).length = n := by rw [cellsG_len ncd_one, List.length_set]; omega
        have hw6 := w64 (n := ((k + i : Nat) : Int) + 1) (by omega) (by omega)
        all_goals
          (repeat ((first | refine WV_seq_ ?_ | refine WV_block ?_ | refine WV_ops ?_ | refine WV_skip ?_ | refine WV_exit ?_); (try simp only [go_sem, init_env', Nat.reduceEqDiff, Nat.reduceAdd, Nat.reduceMul, reduceIte, Nat.reduceLeDiff, Nat.reduceLT, Nat.reduceBEq, reduceCtorEq, hP, hw1]); (repeat refine qI ?_)))
          refine AS_lend [1000, 1001, 1002, 1003] hsp rfl rfl rfl (by decide) ?_ ?_ ?_
          · simp only [go_sem, init_env', Nat.reduceEqDiff, Nat.reduceAdd, Nat.reduceMul, reduceIte, Nat.reduceLeDiff, Nat.reduceLT, Nat.reduceBEq, reduceCtorEq, AV.lendL, AV.lend]
            rfl
          · simp only [go_sem, init_env', Nat.reduceEqDiff, Nat.reduceAdd, Nat.reduceMul, reduceIte, Nat.reduceLeDiff, Nat.reduceLT, Nat.reduceBEq, reduceCtorEq, obsLend, Ob.lend, AV.lend, AV.lendL]
          · rintro res l' ⟨rfl, rfl⟩
            refine ⟨_, _, rfl, (by simp only [obsBack, Ob.back, AV.back, AV.backL, back_cellsG]; rfl), ?_⟩
            simp only [go_sem, init_env', Nat.reduceEqDiff, Nat.reduceAdd, Nat.reduceMul, reduceIte, Nat.reduceLeDiff, Nat.reduceLT, Nat.reduceBEq, reduceCtorEq, hP, ownBack]
            (repeat ((first | refine WV_seq_ ?_ | refine WV_block ?_ | refine WV_ops ?_ | refine WV_skip ?_ | refine WV_exit ?_); (try simp only [go_sem, init_env', Nat.reduceEqDiff, Nat.reduceAdd, Nat.reduceMul, reduceIte, Nat.reduceLeDiff, Nat.reduceLT, Nat.reduceBEq, reduceCtorEq, hP, ]); (repeat refine qI ?_)))
            (refine WV_drw ?_; simp only [go_sem, init_env', Nat.reduceEqDiff, Nat.reduceAdd, Nat.reduceMul, reduceIte, Nat.reduceLeDiff, Nat.reduceLT, Nat.reduceBEq, reduceCtorEq, hP, g1, g2, s1, s2, l1, l2, hI1, hI2, t1, Int.natCast_nonneg, hkn, hki]; (repeat' (refine And.intro ?_ ?_)))
            all_goals first
            | omega
            | skip
            all_goals
              (repeat ((first | refine WV_seq_ ?_ | refine WV_block ?_ | refine WV_ops ?_ | refine WV_skip ?_ | refine WV_exit ?_); (try simp only [go_sem, init_env', Nat.reduceEqDiff, Nat.reduceAdd, Nat.reduceMul, reduceIte, Nat.reduceLeDiff, Nat.reduceLT, Nat.reduceBEq, reduceCtorEq, hP, hw6]); (repeat refine qI ?_)))
              refine ⟨i + 1, by omega, by omega, ?_⟩
              rw [hR]
              exact Sub_au
      · have h : i = f + 1 := by simp at h; omega
        subst h
        rw [remE_end]
        (refine WV_exit ?_; simp only [go_sem, init_env', Nat.reduceEqDiff, Nat.reduceAdd, Nat.reduceMul, reduceIte, Nat.reduceLeDiff, Nat.reduceLT, Nat.reduceBEq, reduceCtorEq])
        ((try simp only [thenQ, inQ, RetQL, RetOkL, resAll, resA]); (try simp only [go_sem, init_env', Nat.reduceEqDiff, Nat.reduceAdd, Nat.reduceMul, reduceIte, Nat.reduceLeDiff, Nat.reduceLT, Nat.reduceBEq, reduceCtorEq, tupA, AV.keepP, AV.keepPL]); refine ⟨_, [.guest g rest, .box (cellsG ncd o 0), .box [.vw 1 1001 0 n n], .box [.fn 85 [.c (.pt [.int .i64 (n : Int)]), .c (.pt [.raw g.fv]), .bp 1002 0, .bp 1003 0]]], rfl, KeepL_mk rfl rfl ?_ ?_ rfl, ?_⟩)
        · simp only [go_sem, init_env', Nat.reduceEqDiff, Nat.reduceAdd, Nat.reduceMul, reduceIte, Nat.reduceLeDiff, Nat.reduceLT, Nat.reduceBEq, reduceCtorEq, keepAll, Ob.keepP, AV.keepP, AV.keepPL]
        · simp only [go_sem, init_env', Nat.reduceEqDiff, Nat.reduceAdd, Nat.reduceMul, reduceIte, Nat.reduceLeDiff, Nat.reduceLT, Nat.reduceBEq, reduceCtorEq, winAll]
        · exact ⟨rfl, rfl⟩

def fillN (n i : Nat) : List Nat := List.range i ++ List.replicate (n - i) 0
theorem fillN_len {n i : Nat} (h : i ≤ n) : (fillN n i).length = n := by simp [fillN]; omega
theorem fillN_zero (n : Nat) : (List.replicate n [iv 0]).flatten = cellsG ncd (fillN n 0) 0 := by
  have : ∀ n, (List.replicate n [iv 0]).flatten = (flatG ncd (List.replicate n 0)).map .c := by
    intro n
    induction n with
    | zero => rfl
    | succ n ih =>
      simp only [List.replicate_succ, List.flatten_cons, ih, flatG_cons]
      rfl
  rw [this]
  simp [cellsG, fillN]
theorem fillN_set {n i : Nat} (h : i < n) : (fillN n i).set i i = fillN n (i + 1) := by
  unfold fillN
  rw [List.set_append_right _ _ (by simp), List.length_range, Nat.sub_self]
  obtain ⟨m, hm⟩ : ∃ m, n - i = m + 1 := ⟨n - i - 1, by omega⟩
  rw [hm, List.replicate_succ, List.set_cons_zero, List.range_succ, List.append_assoc, show n - (i + 1) = m from by omega]
  rfl
theorem fillN_all (n : Nat) : fillN n n = List.range n := by simp [fillN]
set_option maxRecDepth 20000 in
set_option maxHeartbeats 8000000 in
theorem orders76 (n : Nat) (hn : n ≤ 100) (g : Gst) : FSpecL Try.prog 76 [iv n, .c (.raw g.fv)] [.guest g ((permsS n).map entO)] [] (fun res l' => res = .tup [] ∧ l' = [.guest g []]) := by
  have hmax : maxLen = 9223372036854775807 := rfl
  have hfr := from85 n hn g n 0 (List.range n) [] (by omega) (by simp)
  rw [List.append_nil] at hfr
  simp only [fromC, fromO] at hfr
  refine FSpecL_of c76 (by first | simp | exact Nat.le_of_ble_eq_true rfl) (Nat.le_refl _) (by decide) (by decide) fun C hP hN hC hL => ?_; rw [init_env', ownW_upd (by first | simp | exact Nat.le_of_ble_eq_true rfl)]; simp only [ir76, updL, updLo, List.map_nil, List.map_cons, Nat.reduceAdd, ]
  (refine WV_seq_ (WV_ops ?_); simp only [go_sem, init_env', Nat.reduceEqDiff, Nat.reduceAdd, Nat.reduceMul, reduceIte, Nat.reduceLeDiff, Nat.reduceLT, Nat.reduceBEq, reduceCtorEq, hP, ]; (repeat refine qI ?_))
  refine WV_freeze 2 (ds := [.int .i64 (n : Int)]) rfl rfl ?_
  simp only [go_sem, init_env', Nat.reduceEqDiff, Nat.reduceAdd, Nat.reduceMul, reduceIte, Nat.reduceLeDiff, Nat.reduceLT, Nat.reduceBEq, reduceCtorEq, List.drop_zero]
  refine WV_freeze 3 (ds := [.raw g.fv]) rfl rfl ?_
  simp only [go_sem, init_env', Nat.reduceEqDiff, Nat.reduceAdd, Nat.reduceMul, reduceIte, Nat.reduceLeDiff, Nat.reduceLT, Nat.reduceBEq, reduceCtorEq, List.drop_zero]
  (repeat ((first | refine WV_seq_ ?_ | refine WV_block ?_ | refine WV_ops ?_ | refine WV_skip ?_ | refine WV_exit ?_); (try simp only [go_sem, init_env', Nat.reduceEqDiff, Nat.reduceAdd, Nat.reduceMul, reduceIte, Nat.reduceLeDiff, Nat.reduceLT, Nat.reduceBEq, reduceCtorEq, hP, Int.toNat_natCast, fillN_zero]); (repeat refine qI ?_)))
  refine WV_loopK K76_1 [4, 8] (fun i : Nat => i ≤ n) (fun i => n - i) (fun i => [(11, iv i)]) (fun i => [(4, .box [.vw 1 8 0 n n]), (8, .box (cellsG ncd (fillN n i) 0))]) 0 (Nat.zero_le _) ?_ ?_
  · exact Sub_au
  · intro i hi
    simp only [go_sem, init_env', Nat.reduceEqDiff, Nat.reduceAdd, Nat.reduceMul, reduceIte, Nat.reduceLeDiff, Nat.reduceLT, Nat.reduceBEq, reduceCtorEq]
    (repeat ((first | refine WV_seq_ ?_ | refine WV_block ?_ | refine WV_ops ?_ | refine WV_skip ?_ | refine WV_exit ?_); (try simp only [go_sem, init_env', Nat.reduceEqDiff, Nat.reduceAdd, Nat.reduceMul, reduceIte, Nat.reduceLeDiff, Nat.reduceLT, Nat.reduceBEq, reduceCtorEq, hP, ]); (repeat refine qI ?_)))
    (refine WV_cond rfl (fun h => ?_) (fun h => ?_))
    · have hil : i < n := by simpa using h
      have hI : (i : Int) < (n : Int) := by omega
      have hw := w64 (n := (i : Int) + 1) (by omega) (by omega)
      have hfl := fillN_len hi
      have s1 : (cellsG ncd (fillN n i) 0).set i (.c (.int .i64 (i : Nat))) = cellsG ncd (fillN n (i + 1)) 0 := by
        have := cellsG_set ncd_one (l := fillN n i) (k := i) (by omega) 0 0 (by decide) (.int .i64 (i : Nat)) i rfl
        rwa [Nat.mul_one, Nat.add_zero, fillN_set hil] at this
      have l1 : (cellsG ncd (fillN n i) 0).length = n := by rw [cellsG_len ncd_one]; omega
      (repeat ((first | refine WV_seq_ ?_ | refine WV_block ?_ | refine WV_ops ?_ | refine WV_skip ?_ | refine WV_exit ?_); (try simp only [go_sem, init_env', Nat.reduceEqDiff, Nat.reduceAdd, Nat.reduceMul, reduceIte, Nat.reduceLeDiff, Nat.reduceLT, Nat.reduceBEq, reduceCtorEq, hP, Int.natCast_nonneg, hI, hw, s1, l1, hil]); (repeat refine qI ?_)))
      refine ⟨i + 1, by omega, by omega, ?_⟩
      exact Sub_au
    · have h : i = n := by simp at h; omega
      subst h
      rw [fillN_all]
      (refine WV_exit ?_; simp only [go_sem, init_env', Nat.reduceEqDiff, Nat.reduceAdd, Nat.reduceMul, reduceIte, Nat.reduceLeDiff, Nat.reduceLT, Nat.reduceBEq, reduceCtorEq])
      (repeat ((first | refine WV_seq_ ?_ | refine WV_block ?_ | refine WV_ops ?_ | refine WV_skip ?_ | refine WV_exit ?_); (try simp only [go_sem, init_env', Nat.reduceEqDiff, Nat.reduceAdd, Nat.reduceMul, reduceIte, Nat.reduceLeDiff, Nat.reduceLT, Nat.reduceBEq, reduceCtorEq, hP, ]); (repeat refine qI ?_)))
      refine AS_lend [1000, 8, 4, 6] hfr rfl rfl rfl (by decide) ?_ ?_ ?_
      · simp only [go_sem, init_env', Nat.reduceEqDiff, Nat.reduceAdd, Nat.reduceMul, reduceIte, Nat.reduceLeDiff, Nat.reduceLT, Nat.reduceBEq, reduceCtorEq, AV.lendL, AV.lend]
        rfl
      · simp only [go_sem, init_env', Nat.reduceEqDiff, Nat.reduceAdd, Nat.reduceMul, reduceIte, Nat.reduceLeDiff, Nat.reduceLT, Nat.reduceBEq, reduceCtorEq, obsLend, Ob.lend, AV.lend, AV.lendL, permsS]
      · rintro res l' ⟨rfl, rfl⟩
        refine ⟨_, _, rfl, (by simp only [obsBack, Ob.back, AV.back, AV.backL, back_cellsG]; rfl), ?_⟩
        simp only [go_sem, init_env', Nat.reduceEqDiff, Nat.reduceAdd, Nat.reduceMul, reduceIte, Nat.reduceLeDiff, Nat.reduceLT, Nat.reduceBEq, reduceCtorEq, hP, ownBack]
        ((try simp only [thenQ, inQ, RetQL, RetOkL, resAll, resA]); (try simp only [go_sem, init_env', Nat.reduceEqDiff, Nat.reduceAdd, Nat.reduceMul, reduceIte, Nat.reduceLeDiff, Nat.reduceLT, Nat.reduceBEq, reduceCtorEq, tupA, AV.keepP, AV.keepPL]); refine ⟨_, [.guest g []], rfl, KeepL_mk rfl rfl ?_ ?_ rfl, ?_⟩)
        · simp only [go_sem, init_env', Nat.reduceEqDiff, Nat.reduceAdd, Nat.reduceMul, reduceIte, Nat.reduceLeDiff, Nat.reduceLT, Nat.reduceBEq, reduceCtorEq, keepAll, Ob.keepP, AV.keepP, AV.keepPL]
        · simp only [go_sem, init_env', Nat.reduceEqDiff, Nat.reduceAdd, Nat.reduceMul, reduceIte, Nat.reduceLeDiff, Nat.reduceLT, Nat.reduceBEq, reduceCtorEq, winAll]
        · exact ⟨rfl, rfl⟩
end Go.Proofs.Ytkpgpgaojjobgaa

namespace Go.Proofs.Ytkpgpgaojjobgaa
open Go Go.V
@[reducible] def o86_0 : List Ins := [⟨(some 4), .mv (.k (.c (.int .i64 0))), none, true⟩]
@[reducible] def o86_1 : List Ins := [⟨(some 6), .mv (.t 0), none, true⟩,
  ⟨(some 7), .len (.t 6), none, true⟩,
  ⟨(some 8), .mv (.k (.c (.int .i64 0))), none, true⟩]
@[reducible] def o86_2 : List Ins := [⟨(some 9), .bin .lss (.t 8) (.t 7), none, true⟩]
@[reducible] def o86_3 : List Ins := [⟨(some 10), .mv (.t 8), none, true⟩,
  ⟨(some 5), .mv (.t 10), none, true⟩]
@[reducible] def o86_4 : List Ins := [⟨(some 11), .mv (.t 1), none, true⟩,
  ⟨(some 12), .mv (.t 0), none, true⟩,
  ⟨(some 13), .mv (.t 5), none, true⟩,
  ⟨(some 14), .ia 1 (.t 12) (.t 13), none, true⟩,
  ⟨(some 15), .ld true 1 (.t 14), none, true⟩,
  ⟨(some 16), .bin .eql (.t 11) (.t 15), none, true⟩]
@[reducible] def o86_5 : List Ins := [⟨(some 17), .mv (.t 5), none, true⟩,
  ⟨(some 4), .mv (.t 17), none, true⟩]
@[reducible] def v86_6 : VC := (.seq (.ops o86_5) .ret)
@[reducible] def v86_7 : VC := (.cond (.t 16) v86_6 .skip)
@[reducible] def v86_8 : VC := (.seq (.ops o86_4) v86_7)
@[reducible] def v86_9 : VC := (.seq (.ops o86_3) v86_8)
@[reducible] def o86_10 : List Ins := [⟨(some 18), .bin .add (.t 8) (.k (.c (.int .i64 1))), none, true⟩,
  ⟨(some 8), .mv (.t 18), none, true⟩]
@[reducible] def v86_11 : VC := (.seq (.block 1 v86_9) (.ops o86_10))
@[reducible] def v86_12 : VC := (.seq (.cond (.t 9) .skip (.exit 0)) v86_11)
@[reducible] def v86_13 : VC := (.seq (.ops o86_2) v86_12)
-- K86_1: changed and kept: [8]
@[reducible] def K86_1 : List Nat := [0, 1, 7]
@[reducible] def v86_14 : VC := (.loop v86_13)
@[reducible] def v86_15 : VC := (.block 0 v86_14)
@[reducible] def o86_16 : List Ins := [⟨(some 4), .mv (.k (.c (.int .i64 (-1)))), none, true⟩]
@[reducible] def v86_17 : VC := (.seq (.ops o86_16) .ret)
@[reducible] def v86_18 : VC := (.seq (.seq (.ops o86_1) v86_15) v86_17)
def ir86 : FC := ⟨2, 19, [.t 4], (.seq (.ops o86_0) v86_18)⟩
@[reducible] def o79_0 : List Ins := [⟨(some 2), .mv (.k (.c (.raw (.slice none 0 0)))), none, true⟩]
@[reducible] def o79_1 : List Ins := [⟨(some 3), .mv (.t 0), none, true⟩,
  ⟨(some 4), .nils false (.t 3), none, true⟩]
@[reducible] def o79_2 : List Ins := [⟨(some 2), .mv (.k (.c (.raw (.slice none 0 0)))), none, true⟩]
@[reducible] def v79_3 : VC := (.seq (.ops o79_2) .ret)
@[reducible] def v79_4 : VC := (.cond (.t 4) v79_3 .skip)
@[reducible] def o79_5 : List Ins := [⟨(some 5), .bsl 3 1 [], none, true⟩,
  ⟨(some 6), .mv (.t 0), none, true⟩,
  ⟨(some 7), .app 3 1 8 (.t 5) (.t 6), none, true⟩,
  ⟨(some 2), .mv (.t 7), none, true⟩]
@[reducible] def v79_6 : VC := (.seq (.ops o79_5) .ret)
@[reducible] def v79_7 : VC := (.seq (.seq (.ops o79_1) v79_4) v79_6)
def ir79 : FC := ⟨1, 8, [.t 2], (.seq (.ops o79_0) v79_7)⟩
@[reducible] def o78_0 : List Ins := [⟨(some 2), .box 5 (.t 0), none, true⟩,
  ⟨(some 4), .alloc [(.c (.raw (.slice none 0 0))), (.c (.int .i64 0)), (.c (.int .i64 0)), (.c (.int .i64 0)), (.c (.raw (.slice none 0 0)))], none, true⟩]
@[reducible] def o78_1 : List Ins := [⟨(some 10), .ld false 5 (.t 2), none, true⟩,
  ⟨(some 5), .alloc [(.c (.raw (.slice none 0 0))), (.c (.int .i64 0)), (.c (.int .i64 0)), (.c (.int .i64 0)), (.c (.raw (.slice none 0 0)))], none, true⟩,
  ⟨none, .st 5 (.t 5) (.t 10), none, true⟩]
@[reducible] def o78_2 : List Ins := [⟨(some 11), .fa 4 (.t 2), none, true⟩,
  ⟨(some 12), .ld true 1 (.t 11), none, true⟩,
  ⟨(some 13), .call (.k (.fn 56 [])) [(.t 12)], none, true⟩,
  ⟨(some 14), .fa 0 (.t 5), none, true⟩,
  ⟨none, .st 1 (.t 14) (.k (.c (.raw (.slice none 0 0)))), none, true⟩,
  ⟨(some 15), .fa 4 (.t 5), none, true⟩,
  ⟨none, .st 1 (.t 15) (.t 13), none, true⟩]
@[reducible] def o78_3 : List Ins := [⟨(some 16), .mv (.t 1), none, true⟩,
  ⟨(some 17), .len (.t 16), none, true⟩,
  ⟨(some 18), .mv (.k (.c (.int .i64 0))), none, true⟩]
@[reducible] def o78_4 : List Ins := [⟨(some 19), .bin .lss (.t 18) (.t 17), none, true⟩]
@[reducible] def o78_5 : List Ins := [⟨(some 20), .ia 1 (.t 16) (.t 18), none, true⟩,
  ⟨(some 21), .ld true 1 (.t 20), none, true⟩,
  ⟨(some 7), .mv (.t 21), none, true⟩]
@[reducible] def o78_6 : List Ins := [⟨(some 22), .fa 0 (.t 5), none, false⟩,
  ⟨(some 23), .ld true 1 (.t 22), none, false⟩,
  ⟨(some 24), .fa 0 (.t 2), none, false⟩,
  ⟨(some 25), .ld true 1 (.t 24), none, false⟩,
  ⟨(some 26), .mv (.t 7), none, false⟩,
  ⟨(some 27), .ia 2 (.t 25) (.t 26), none, false⟩,
  ⟨(some 28), .ld false 2 (.t 27), none, false⟩,
  ⟨(some 29), .bsl 56 2 [(.t 28)], none, false⟩,
  ⟨(some 30), .app 56 2 16 (.t 23) (.t 29), none, true⟩,
  ⟨(some 31), .fa 0 (.t 5), none, true⟩,
  ⟨none, .st 1 (.t 31) (.t 30), none, true⟩]
@[reducible] def v78_7 : VC := (.seq (.ops o78_5) (.ops o78_6))
@[reducible] def o78_8 : List Ins := [⟨(some 32), .bin .add (.t 18) (.k (.c (.int .i64 1))), none, true⟩,
  ⟨(some 18), .mv (.t 32), none, true⟩]
@[reducible] def v78_9 : VC := (.seq (.block 1 v78_7) (.ops o78_8))
@[reducible] def v78_10 : VC := (.seq (.cond (.t 19) .skip (.exit 0)) v78_9)
@[reducible] def v78_11 : VC := (.seq (.ops o78_4) v78_10)
-- K78_1: changed and kept: [18]
@[reducible] def K78_1 : List Nat := [1, 2, 4, 5, 16, 17]
@[reducible] def v78_12 : VC := (.loop v78_11)
@[reducible] def v78_13 : VC := (.block 0 v78_12)
@[reducible] def o78_14 : List Ins := [⟨(some 33), .fa 4 (.t 5), none, true⟩,
  ⟨(some 34), .ld true 1 (.t 33), none, true⟩,
  ⟨(some 35), .len (.t 34), none, true⟩,
  ⟨(some 36), .mv (.k (.c (.int .i64 0))), none, true⟩]
@[reducible] def o78_15 : List Ins := [⟨(some 37), .bin .lss (.t 36) (.t 35), none, true⟩]
@[reducible] def o78_16 : List Ins := [⟨(some 38), .mv (.t 36), none, true⟩,
  ⟨(some 39), .ia 2 (.t 34) (.t 36), none, true⟩,
  ⟨(some 40), .ld false 2 (.t 39), none, true⟩,
  ⟨(some 9), .alloc [(.c (.int .i64 0)), (.c (.int .i64 0))], none, true⟩,
  ⟨(some 8), .mv (.t 38), none, true⟩,
  ⟨none, .st 2 (.t 9) (.t 40), none, true⟩]
@[reducible] def o78_17 : List Ins := [⟨(some 41), .fa 4 (.t 5), none, false⟩,
  ⟨(some 42), .ld true 1 (.t 41), none, false⟩,
  ⟨(some 43), .mv (.t 8), none, false⟩,
  ⟨(some 44), .mv (.t 1), none, false⟩,
  ⟨(some 45), .fa 0 (.t 9), none, false⟩,
  ⟨(some 46), .ld true 1 (.t 45), none, false⟩,
  ⟨(some 47), .bin .quo (.t 46) (.k (.c (.int .i64 2))), none, false⟩,
  ⟨(some 48), .call (.k (.fn 86 [])) [(.t 44), (.t 47)], none, false⟩,
  ⟨(some 49), .bin .mul (.k (.c (.int .i64 2))) (.t 48), none, false⟩,
  ⟨(some 50), .fa 0 (.t 9), none, false⟩,
  ⟨(some 51), .ld true 1 (.t 50), none, false⟩,
  ⟨(some 52), .bin .rem (.t 51) (.k (.c (.int .i64 2))), none, false⟩,
  ⟨(some 53), .bin .add (.t 49) (.t 52), none, false⟩,
  ⟨(some 54), .ia 2 (.t 42) (.t 43), none, true⟩,
  ⟨(some 55), .fa 0 (.t 54), none, true⟩,
  ⟨none, .st 1 (.t 55) (.t 53), none, true⟩]
@[reducible] def v78_18 : VC := (.seq (.ops o78_16) (.ops o78_17))
@[reducible] def o78_19 : List Ins := [⟨(some 56), .bin .add (.t 36) (.k (.c (.int .i64 1))), none, true⟩,
  ⟨(some 36), .mv (.t 56), none, true⟩]
@[reducible] def v78_20 : VC := (.seq (.block 3 v78_18) (.ops o78_19))
@[reducible] def v78_21 : VC := (.seq (.cond (.t 37) .skip (.exit 2)) v78_20)
@[reducible] def v78_22 : VC := (.seq (.ops o78_15) v78_21)
-- K78_2: changed and kept: [36]
@[reducible] def K78_2 : List Nat := [1, 4, 5, 34, 35]
@[reducible] def v78_23 : VC := (.loop v78_22)
@[reducible] def v78_24 : VC := (.block 2 v78_23)
@[reducible] def o78_25 : List Ins := [⟨(some 57), .ld false 5 (.t 5), none, true⟩,
  ⟨none, .st 5 (.t 4) (.t 57), none, true⟩]
@[reducible] def v78_26 : VC := (.seq (.ops o78_25) .ret)
@[reducible] def v78_27 : VC := (.seq (.seq (.ops o78_14) v78_24) v78_26)
@[reducible] def v78_28 : VC := (.seq (.seq (.ops o78_3) v78_13) v78_27)
@[reducible] def v78_29 : VC := (.seq (.ops o78_2) v78_28)
@[reducible] def v78_30 : VC := (.seq (.ops o78_1) v78_29)
def ir78 : FC := ⟨2, 58, [.cell 4 false 5], (.seq (.ops o78_0) v78_30)⟩
theorem c86 : compM Try.prog [] 86 = some ir86 := by kernel_rfl
theorem c79 : compM Try.prog [] 79 = some ir79 := by kernel_rfl
theorem c78 : compM Try.prog [] 78 = some ir78 := by kernel_rfl



/-! ### Records in another order: plain -/
def IsOrd (n : Nat) (o : List Nat) : Prop := o.Perm (List.range n)
theorem IsOrd.len {n : Nat} {o : List Nat} (h : IsOrd n o) : o.length = n := by have := h.length_eq; simpa using this
theorem IsOrd.lt {n : Nat} {o : List Nat} (h : IsOrd n o) {k : Nat} (hk : k ∈ o) : k < n := List.mem_range.1 (h.mem_iff.1 hk)
theorem IsOrd.mem {n : Nat} {o : List Nat} (h : IsOrd n o) {k : Nat} (hk : k < n) : k ∈ o := h.mem_iff.2 (List.mem_range.2 hk)
/-- A press, when the records stand in another order. -/
def arrP (o : List Nat) (p : Pr) : Pr := ⟨2 * (o.idxOf (p.side.toNat / 2) : Int) + p.side % 2, p.time⟩
def arrT (t : Tray) (o : List Nat) : Tray := { t with recs := o.map t.rc, pres := t.pres.map (arrP o) }
theorem arrP_side {t : Tray} {o : List Nat} (ho : IsOrd t.n o) {p : Pr} (hp : 0 ≤ p.side ∧ p.side < 2 * (t.n : Int)) : o.idxOf (p.side.toNat / 2) < t.n ∧ p.side.toNat / 2 < t.n := by
  have h : p.side.toNat / 2 < t.n := by omega
  have := List.idxOf_lt_length_of_mem (ho.mem h)
  rw [ho.len] at this
  exact ⟨this, h⟩
theorem arr_ok {t : Tray} (ht : TrayOk t) {o : List Nat} (ho : IsOrd t.n o) : TrayOk (arrT t o) := by
  have hn : (arrT t o).n = t.n := by show (o.map t.rc).length = _; rw [List.length_map, ho.len]
  refine ⟨by rw [hn]; exact ht.n1, by rw [hn]; exact ht.n6, by rw [hn]; exact ht.at_, ht.way, ht.step, fun r hr => ?_, fun p hp => ?_, by show (t.pres.map _).length ≤ 13; rw [List.length_map]; exact ht.p13⟩
  · obtain ⟨k, hk, rfl⟩ := List.mem_map.1 hr
    exact rec_ok ht (ho.lt hk)
  · obtain ⟨q, hq, rfl⟩ := List.mem_map.1 hp
    have h1 := ht.pres q hq
    have h2 := arrP_side ho h1.1
    rw [hn]
    refine ⟨?_, h1.2⟩
    simp only [arrP]
    omega
theorem idx_step {o : List Nat} {m k : Nat} (h : k < o.length) : (o.drop k).idxOf m = if o[k] = m then 0 else (o.drop (k + 1)).idxOf m + 1 := by
  rw [List.drop_eq_getElem_cons h, List.idxOf_cons]
  by_cases e : o[k] = m
  · simp [e]
  · have : (o[k] == m) = false := by simpa using e
    rw [if_neg e, this]; rfl

set_option maxHeartbeats 4000000 in
theorem index86 (o : List Nat) (m : Nat) (ho : o.length ≤ 1000) (hm : m ∈ o) : FSpec Try.prog 86 [.c (natsC o), iv m] (iv (o.idxOf m)) := by
  refine FSpec_of c86 (Nat.le_refl _) (by decide) fun C hP hN hC hL => ?_
  simp only [ir86]
  (repeat ((first | refine WV_seq_ ?_ | refine WV_block ?_ | refine WV_ops ?_ | refine WV_skip ?_ | refine WV_exit ?_); (try simp only [go_sem, init_env', Nat.reduceEqDiff, Nat.reduceAdd, Nat.reduceMul, reduceIte, Nat.reduceLeDiff, Nat.reduceLT, Nat.reduceBEq, reduceCtorEq, hP, natsC, List.length_map]); (repeat refine qI ?_)))
  (refine WV_loopK K86_1 [] (fun k : Nat => k ≤ o.length ∧ (o.idxOf m = k + (o.drop k).idxOf m ∧ m ∈ o.drop k)) (fun k => o.length - k) (fun k => [(8, iv k)]) (fun _ => []) 0 ⟨Nat.zero_le _, ⟨by simp, by simpa using hm⟩⟩ ?_ ?_)
  · exact Sub_au
  · intro k ⟨hk, hx, hmm⟩
    simp only [go_sem, init_env', Nat.reduceEqDiff, Nat.reduceAdd, Nat.reduceMul, reduceIte, Nat.reduceLeDiff, Nat.reduceLT, Nat.reduceBEq, reduceCtorEq]
    (repeat ((first | refine WV_seq_ ?_ | refine WV_block ?_ | refine WV_ops ?_ | refine WV_skip ?_ | refine WV_exit ?_); (try simp only [go_sem, init_env', Nat.reduceEqDiff, Nat.reduceAdd, Nat.reduceMul, reduceIte, Nat.reduceLeDiff, Nat.reduceLT, Nat.reduceBEq, reduceCtorEq, hP, ]); (repeat refine qI ?_)))
    (refine WV_cond rfl (fun h => ?_) (fun h => ?_))
    · have h : k < o.length := by simpa using h
      have hI : (k : Int) < (o.length : Int) := by omega
      have hw2 := w64 (n := (k : Int) + 1) (by omega) (by omega)
      rw [idx_step h] at hx
      rw [List.drop_eq_getElem_cons h] at hmm
      (repeat ((first | refine WV_seq_ ?_ | refine WV_block ?_ | refine WV_ops ?_ | refine WV_skip ?_ | refine WV_exit ?_); (try simp only [go_sem, init_env', Nat.reduceEqDiff, Nat.reduceAdd, Nat.reduceMul, reduceIte, Nat.reduceLeDiff, Nat.reduceLT, Nat.reduceBEq, reduceCtorEq, hP, map_getD h, hI, List.length_map, ncd, Int.natCast_nonneg]); (repeat refine qI ?_)))
      have hbe : ((m : Int) == ((o[k] : Nat) : Int)) = decide (o[k] = m) := by rw [Bool.eq_iff_iff]; simp; omega
      rw [hbe]
      by_cases hb : o[k] = m
      · rw [if_pos hb] at hx
        rw [decide_eq_true hb]
        (refine WV_cond rfl (fun h => ?_) (fun h => ?_))
        · (repeat ((first | refine WV_seq_ ?_ | refine WV_block ?_ | refine WV_ops ?_ | refine WV_skip ?_ | refine WV_exit ?_); (try simp only [go_sem, init_env', Nat.reduceEqDiff, Nat.reduceAdd, Nat.reduceMul, reduceIte, Nat.reduceLeDiff, Nat.reduceLT, Nat.reduceBEq, reduceCtorEq, hP, ]); (repeat refine qI ?_)))
          (refine WV_ret ?_; simp only [thenQ, inQ, RetQ, RetOk, resAll, resA]; simp only [go_sem, init_env', Nat.reduceEqDiff, Nat.reduceAdd, Nat.reduceMul, reduceIte, Nat.reduceLeDiff, Nat.reduceLT, Nat.reduceBEq, reduceCtorEq, tupA, AV.port, AV.portL, exists_eq_left', ]; (first | exact AVle.of rfl | refine AVle.of ?_ | skip))
          rw [hx]; rfl
        · simp at h
      · rw [if_neg hb] at hx
        rw [decide_eq_false hb]
        (refine WV_cond rfl (fun h => ?_) (fun h => ?_))
        · simp at h
        · (repeat ((first | refine WV_seq_ ?_ | refine WV_block ?_ | refine WV_ops ?_ | refine WV_skip ?_ | refine WV_exit ?_); (try simp only [go_sem, init_env', Nat.reduceEqDiff, Nat.reduceAdd, Nat.reduceMul, reduceIte, Nat.reduceLeDiff, Nat.reduceLT, Nat.reduceBEq, reduceCtorEq, hP, hw2]); (repeat refine qI ?_)))
          refine ⟨k + 1, ⟨by omega, by omega, ?_⟩, by omega, ?_⟩
          · rcases List.mem_cons.1 hmm with hmm | hmm
            · exact absurd hmm.symm hb
            · exact hmm
          · exact Sub_au
    · have h : k = o.length := by simp at h; omega
      subst h
      rw [List.drop_length] at hmm
      cases hmm

theorem ncd_scal (l : List Nat) : ((l.map ncd).all fun e => e.all CD.scal) = true := by
  rw [List.all_eq_true]; intro e he; obtain ⟨n, _, rfl⟩ := List.mem_map.1 he; rfl
theorem ncds_one (l : List Nat) : ((l.map ncd).all fun e => e.length == 1) = true := by
  rw [List.all_eq_true]; intro e he; obtain ⟨n, _, rfl⟩ := List.mem_map.1 he; rfl
theorem recs_scal (l : List Rec) : ((l.map Rec.cds).all fun e => e.all CD.scal) = true := by
  rw [List.all_eq_true]; intro e he; obtain ⟨n, _, rfl⟩ := List.mem_map.1 he; rfl
theorem prs_scal (l : List Pr) : ((l.map Pr.cds).all fun e => e.all CD.scal) = true := by
  rw [List.all_eq_true]; intro e he; obtain ⟨n, _, rfl⟩ := List.mem_map.1 he; rfl
theorem cloneI79 (l : List Nat) (hlen : l.length ≤ 1000) : FSpecF Try.prog 79 [.c (natsC l)] (.c (natsC l)) := by
  refine FSpecF_of c79 (Nat.le_refl _) (by decide) fun C hP hN hC hL => ?_
  have hmax : maxLen = 9223372036854775807 := rfl
  simp only [ir79, natsC]
  cases l with
  | nil =>
    (repeat ((first | refine WV_seq_ ?_ | refine WV_block ?_ | refine WV_ops ?_ | refine WV_skip ?_ | refine WV_exit ?_); (try simp only [go_sem, init_env', Nat.reduceEqDiff, Nat.reduceAdd, Nat.reduceMul, reduceIte, Nat.reduceLeDiff, Nat.reduceLT, Nat.reduceBEq, reduceCtorEq, hP, ]); (repeat refine qI ?_)))
    intro b
    (repeat ((first | refine WV_seq_ ?_ | refine WV_block ?_ | refine WV_ops ?_ | refine WV_skip ?_ | refine WV_exit ?_); (try simp only [go_sem, init_env', Nat.reduceEqDiff, Nat.reduceAdd, Nat.reduceMul, reduceIte, Nat.reduceLeDiff, Nat.reduceLT, Nat.reduceBEq, reduceCtorEq, hP, ]); (repeat refine qI ?_)))
    (refine WV_cond rfl (fun h => ?_) (fun h => ?_))
    · (repeat ((first | refine WV_seq_ ?_ | refine WV_block ?_ | refine WV_ops ?_ | refine WV_skip ?_ | refine WV_exit ?_); (try simp only [go_sem, init_env', Nat.reduceEqDiff, Nat.reduceAdd, Nat.reduceMul, reduceIte, Nat.reduceLeDiff, Nat.reduceLT, Nat.reduceBEq, reduceCtorEq, hP, ]); (repeat refine qI ?_)))
      (refine WV_ret ?_; simp only [thenQ, inQ, RetQF, RetOkF, resAll, resA]; simp only [go_sem, init_env', Nat.reduceEqDiff, Nat.reduceAdd, Nat.reduceMul, reduceIte, Nat.reduceLeDiff, Nat.reduceLT, Nat.reduceBEq, reduceCtorEq, tupA, AV.fport, AV.fportL, CD.scal, exists_eq_left', ]; refine And.intro (by ((repeat' (first | exact NoWin_o0 | refine NoWin_upd (fun cs h => by cases h) ?_)))) ?_)
      exact AVle.nil 1
    · (repeat ((first | refine WV_seq_ ?_ | refine WV_block ?_ | refine WV_ops ?_ | refine WV_skip ?_ | refine WV_exit ?_); (try simp only [go_sem, init_env', Nat.reduceEqDiff, Nat.reduceAdd, Nat.reduceMul, reduceIte, Nat.reduceLeDiff, Nat.reduceLT, Nat.reduceBEq, reduceCtorEq, hP, ]); (repeat refine qI ?_)))
      (refine WV_ret ?_; simp only [thenQ, inQ, RetQF, RetOkF, resAll, resA]; simp only [go_sem, init_env', Nat.reduceEqDiff, Nat.reduceAdd, Nat.reduceMul, reduceIte, Nat.reduceLeDiff, Nat.reduceLT, Nat.reduceBEq, reduceCtorEq, tupA, AV.fport, AV.fportL, CD.scal, exists_eq_left', ]; refine And.intro (by ((repeat' (first | exact NoWin_o0 | refine NoWin_upd (fun cs h => by cases h) ?_)))) ?_; (first | exact AVle.of rfl | refine AVle.of ?_ | skip))
  | cons a l =>
    simp only [List.length_cons] at hlen
    have hp := ncds_one (a :: l)
    have hs := ncd_scal (a :: l)
    simp only [List.map_cons] at hp hs
    (repeat ((first | refine WV_seq_ ?_ | refine WV_block ?_ | refine WV_ops ?_ | refine WV_skip ?_ | refine WV_exit ?_); (try simp only [go_sem, init_env', Nat.reduceEqDiff, Nat.reduceAdd, Nat.reduceMul, reduceIte, Nat.reduceLeDiff, Nat.reduceLT, Nat.reduceBEq, reduceCtorEq, hP, ]); (repeat refine qI ?_)))
    (refine WV_cond rfl (fun h => ?_) (fun h => ?_))
    · cases h
    · (repeat ((first | refine WV_seq_ ?_ | refine WV_block ?_ | refine WV_ops ?_ | refine WV_skip ?_ | refine WV_exit ?_); (try simp only [go_sem, init_env', Nat.reduceEqDiff, Nat.reduceAdd, Nat.reduceMul, reduceIte, Nat.reduceLeDiff, Nat.reduceLT, Nat.reduceBEq, reduceCtorEq, hP, hp, List.length_cons]); (repeat refine qI ?_)))
      (refine WV_ret ?_; simp only [thenQ, inQ, RetQF, RetOkF, resAll, resA]; simp only [go_sem, init_env', Nat.reduceEqDiff, Nat.reduceAdd, Nat.reduceMul, reduceIte, Nat.reduceLeDiff, Nat.reduceLT, Nat.reduceBEq, reduceCtorEq, tupA, AV.fport, AV.fportL, CD.scal, exists_eq_left', hs]; refine And.intro (by ((repeat' (first | exact NoWin_o0 | refine NoWin_upd (fun cs h => by cases h) ?_)))) ?_)
      exact AVle.refl _

/-- The first k ones are other ones. -/
def mapK {α : Type} (g : α → α) (l : List α) (k : Nat) : List α := (l.take k).map g ++ l.drop k
theorem mapK_len {α : Type} (g : α → α) (l : List α) (k : Nat) : (mapK g l k).length = l.length := by simp [mapK]; omega
theorem mapK_zero {α : Type} (g : α → α) (l : List α) : mapK g l 0 = l := by simp [mapK]
theorem mapK_all {α : Type} (g : α → α) (l : List α) : mapK g l l.length = l.map g := by simp [mapK]
theorem mapK_get {α : Type} {g : α → α} {l : List α} {k : Nat} (h : k < l.length) (h' : k < (mapK g l k).length) : (mapK g l k)[k] = l[k] := by
  have hl : ((l.take k).map g).length = k := by simp; omega
  have h2 : (mapK g l k)[k]? = some l[k] := by
    unfold mapK
    rw [List.getElem?_append_right (by rw [hl]; exact Nat.le_refl _), hl, Nat.sub_self, List.getElem?_drop, Nat.add_zero, List.getElem?_eq_getElem h]
  exact (List.getElem?_eq_some_iff.1 h2).2
theorem mapK_set {α : Type} {g : α → α} {l : List α} {k : Nat} (h : k < l.length) : (mapK g l k).set k (g l[k]) = mapK g l (k + 1) := by
  have hl : ((l.take k).map g).length = k := by simp; omega
  unfold mapK
  rw [List.set_append_right _ _ (by rw [hl]; exact Nat.le_refl _), hl, Nat.sub_self, List.drop_eq_getElem_cons h, List.set_cons_zero, List.take_succ_eq_append_getElem h, List.map_append]
  simp
def recsT (t : Tray) (o : List Nat) (k : Nat) : List Rec := (o.take k).map t.rc
theorem recsT_succ (t : Tray) {o : List Nat} {k : Nat} (h : k < o.length) : recsT t o (k + 1) = recsT t o k ++ [t.rc o[k]] := by
  unfold recsT; rw [List.take_succ_eq_append_getElem h, List.map_append]; rfl
theorem recsT_all (t : Tray) (o : List Nat) : recsT t o o.length = o.map t.rc := by unfold recsT; rw [List.take_length]
theorem recsT_len (t : Tray) (o : List Nat) (k : Nat) : (recsT t o k).length ≤ k := by unfold recsT; rw [List.length_map, List.length_take]; omega

set_option maxRecDepth 20000 in
set_option maxHeartbeats 8000000 in
theorem arranged78 {t : Tray} (ht : TrayOk t) {o : List Nat} (ho : IsOrd t.n o) : FSpecF Try.prog 78 [t.av, .c (natsC o)] (arrT t o).av := by
  have hmax : maxLen = 9223372036854775807 := rfl
  have hn6 := ht.n6
  have hol := ho.len
  have h13 := ht.p13
  refine FSpecF_of c78 (Nat.le_refl _) (by decide) fun C hP hN hC hL => ?_
  simp only [ir78, Tray.av]
  (repeat ((first | refine WV_seq_ ?_ | refine WV_block ?_ | refine WV_ops ?_ | refine WV_skip ?_ | refine WV_exit ?_); (try simp only [go_sem, init_env', Nat.reduceEqDiff, Nat.reduceAdd, Nat.reduceMul, reduceIte, Nat.reduceLeDiff, Nat.reduceLT, Nat.reduceBEq, reduceCtorEq, hP, ]); (repeat refine qI ?_)))
  by_cases hpn : t.pres = []
  · refine AS_new (cloneG56 t.pres (by omega)) rfl rfl rfl rfl ?_
    rintro res os (⟨rfl, rfl⟩ | ⟨-, rfl, rfl⟩)
    · refine ⟨[900], .gr 900, [.grow 27 2 (t.pres.map Pr.cds)], by decide, rfl, by simp only [go_sem, init_env', Nat.reduceEqDiff, Nat.reduceAdd, Nat.reduceMul, reduceIte, Nat.reduceLeDiff, Nat.reduceLT, Nat.reduceBEq, reduceCtorEq, decide_true], rfl, rfl, ?_⟩
      rw [hpn]
      simp only [go_sem, init_env', Nat.reduceEqDiff, Nat.reduceAdd, Nat.reduceMul, reduceIte, Nat.reduceLeDiff, Nat.reduceLT, Nat.reduceBEq, reduceCtorEq, hP, ownBack, List.map_nil]
      (repeat refine qI ?_)
      refine WV_nilbox 5 0 30 56 2 (by decide) (by decide) (by decide) rfl rfl rfl ?_
      simp only [go_sem, init_env', Nat.reduceEqDiff, Nat.reduceAdd, Nat.reduceMul, reduceIte, Nat.reduceLeDiff, Nat.reduceLT, Nat.reduceBEq, reduceCtorEq]
      (repeat ((first | refine WV_seq_ ?_ | refine WV_block ?_ | refine WV_ops ?_ | refine WV_skip ?_ | refine WV_exit ?_); (try simp only [go_sem, init_env', Nat.reduceEqDiff, Nat.reduceAdd, Nat.reduceMul, reduceIte, Nat.reduceLeDiff, Nat.reduceLT, Nat.reduceBEq, reduceCtorEq, hP, natsC, List.length_map]); (repeat refine qI ?_)))
      refine WV_loopK K78_1 [5, 29, 30] (fun k : Nat => k ≤ o.length) (fun k => o.length - k) (fun k => [(18, iv k)]) (fun k => [(5, .box [.gr 30, iv t.at_, iv t.way, iv t.step, .gr 900]), (30, .grow 56 2 ((recsT t o k).map Rec.cds))]) 0 (Nat.zero_le _) ?_ ?_
      · exact Sub_au
      · intro k hk
        simp only [go_sem, init_env', Nat.reduceEqDiff, Nat.reduceAdd, Nat.reduceMul, reduceIte, Nat.reduceLeDiff, Nat.reduceLT, Nat.reduceBEq, reduceCtorEq]
        (repeat ((first | refine WV_seq_ ?_ | refine WV_block ?_ | refine WV_ops ?_ | refine WV_skip ?_ | refine WV_exit ?_); (try simp only [go_sem, init_env', Nat.reduceEqDiff, Nat.reduceAdd, Nat.reduceMul, reduceIte, Nat.reduceLeDiff, Nat.reduceLT, Nat.reduceBEq, reduceCtorEq, hP, ]); (repeat refine qI ?_)))
        (refine WV_cond rfl (fun h => ?_) (fun h => ?_))
        · have hkl : k < o.length := by simpa using h
          have hI : (k : Int) < (o.length : Int) := by omega
          have hw := w64 (n := (k : Int) + 1) (by omega) (by omega)
          have hlt := ho.lt (List.getElem_mem hkl)
          have hlt' : o[k] < t.recs.length := hlt
          have hI2 : ((o[k] : Nat) : Int) < (t.recs.length : Int) := by omega
          have hrc : t.rc o[k] = t.recs[o[k]] := by unfold Tray.rc; simp [hlt']
          have hsu := recsT_succ t hkl
          have hrl := recsT_len t o k
          have e9 : (recsT t o k).map Rec.cds ++ [[CD.int .i64 t.recs[o[k]].front, CD.int .i64 t.recs[o[k]].back]] = (recsT t o (k + 1)).map Rec.cds := by rw [hsu, hrc, List.map_append]; rfl
          (repeat ((first | refine WV_seq_ ?_ | refine WV_block ?_ | refine WV_ops ?_ | refine WV_skip ?_ | refine WV_exit ?_); (try simp only [go_sem, init_env', Nat.reduceEqDiff, Nat.reduceAdd, Nat.reduceMul, reduceIte, Nat.reduceLeDiff, Nat.reduceLT, Nat.reduceBEq, reduceCtorEq, hP, map_getD hkl, hI, Int.natCast_nonneg, ncd, recsC, List.length_map, map_getD hlt', hI2, Rec.cds, recs_two, hw, e9]); (repeat refine qI ?_)))
          refine ⟨k + 1, by omega, by omega, ?_⟩
          exact Sub_au
        · have h : k = o.length := by simp at h; omega
          subst h
          rw [recsT_all]
          (refine WV_exit ?_; simp only [go_sem, init_env', Nat.reduceEqDiff, Nat.reduceAdd, Nat.reduceMul, reduceIte, Nat.reduceLeDiff, Nat.reduceLT, Nat.reduceBEq, reduceCtorEq])
          (repeat ((first | refine WV_seq_ ?_ | refine WV_block ?_ | refine WV_ops ?_ | refine WV_skip ?_ | refine WV_exit ?_); (try simp only [go_sem, init_env', Nat.reduceEqDiff, Nat.reduceAdd, Nat.reduceMul, reduceIte, Nat.reduceLeDiff, Nat.reduceLT, Nat.reduceBEq, reduceCtorEq, hP, List.length_nil, Int.natCast_zero]); (repeat refine qI ?_)))
          refine WV_loopK K78_2 [] (fun _ : Unit => True) (fun _ => 0) (fun _ => [(36, iv 0)]) (fun _ => []) () trivial ?_ ?_
          · exact Sub_au
          · rintro - -
            simp only [go_sem, init_env', Nat.reduceEqDiff, Nat.reduceAdd, Nat.reduceMul, reduceIte, Nat.reduceLeDiff, Nat.reduceLT, Nat.reduceBEq, reduceCtorEq]
            (repeat ((first | refine WV_seq_ ?_ | refine WV_block ?_ | refine WV_ops ?_ | refine WV_skip ?_ | refine WV_exit ?_); (try simp only [go_sem, init_env', Nat.reduceEqDiff, Nat.reduceAdd, Nat.reduceMul, reduceIte, Nat.reduceLeDiff, Nat.reduceLT, Nat.reduceBEq, reduceCtorEq, hP, ]); (repeat refine qI ?_)))
            (refine WV_cond rfl (fun h => ?_) (fun h => ?_))
            · simp at h
            · (refine WV_exit ?_; simp only [go_sem, init_env', Nat.reduceEqDiff, Nat.reduceAdd, Nat.reduceMul, reduceIte, Nat.reduceLeDiff, Nat.reduceLT, Nat.reduceBEq, reduceCtorEq])
              (repeat ((first | refine WV_seq_ ?_ | refine WV_block ?_ | refine WV_ops ?_ | refine WV_skip ?_ | refine WV_exit ?_); (try simp only [go_sem, init_env', Nat.reduceEqDiff, Nat.reduceAdd, Nat.reduceMul, reduceIte, Nat.reduceLeDiff, Nat.reduceLT, Nat.reduceBEq, reduceCtorEq, hP, ]); (repeat refine qI ?_)))
              have hrs := recs_scal (o.map t.rc)
              have hav : (arrT t o).av = .agg [.c (.sl 2 ((o.map t.rc).map Rec.cds)), iv t.at_, iv t.way, iv t.step, .c (.sl 2 [])] := by simp [Tray.av, arrT, hpn, recsC, prsC]
              (refine WV_ret ?_; simp only [thenQ, inQ, RetQF, RetOkF, resAll, resA]; simp only [go_sem, init_env', Nat.reduceEqDiff, Nat.reduceAdd, Nat.reduceMul, reduceIte, Nat.reduceLeDiff, Nat.reduceLT, Nat.reduceBEq, reduceCtorEq, tupA, AV.fport, AV.fportL, CD.scal, exists_eq_left', hrs]; refine And.intro (by ((repeat' (first | exact NoWin_o0 | refine NoWin_upd (fun cs h => by cases h) ?_)))) ?_)
              exact AVle.agg (AVles.cons (AVle.refl _) (AVles.cons (AVle.refl _) (AVles.cons (AVle.refl _) (AVles.cons (AVle.refl _) (AVles.cons (AVle.of (by simp [arrT, hpn, prsC])) (AVles.refl _))))))
    · refine ⟨[], .c (.raw (.slice none 0 0)), [], by decide, rfl, by simp only [go_sem, init_env', Nat.reduceEqDiff, Nat.reduceAdd, Nat.reduceMul, reduceIte, Nat.reduceLeDiff, Nat.reduceLT, Nat.reduceBEq, reduceCtorEq, decide_true], rfl, rfl, ?_⟩
      simp only [go_sem, init_env', Nat.reduceEqDiff, Nat.reduceAdd, Nat.reduceMul, reduceIte, Nat.reduceLeDiff, Nat.reduceLT, Nat.reduceBEq, reduceCtorEq, hP, ownBack]
      (repeat refine qI ?_)
      refine WV_nilbox 5 0 30 56 2 (by decide) (by decide) (by decide) rfl rfl rfl ?_
      simp only [go_sem, init_env', Nat.reduceEqDiff, Nat.reduceAdd, Nat.reduceMul, reduceIte, Nat.reduceLeDiff, Nat.reduceLT, Nat.reduceBEq, reduceCtorEq]
      (repeat ((first | refine WV_seq_ ?_ | refine WV_block ?_ | refine WV_ops ?_ | refine WV_skip ?_ | refine WV_exit ?_); (try simp only [go_sem, init_env', Nat.reduceEqDiff, Nat.reduceAdd, Nat.reduceMul, reduceIte, Nat.reduceLeDiff, Nat.reduceLT, Nat.reduceBEq, reduceCtorEq, hP, natsC, List.length_map]); (repeat refine qI ?_)))
      refine WV_loopK K78_1 [5, 29, 30] (fun k : Nat => k ≤ o.length) (fun k => o.length - k) (fun k => [(18, iv k)]) (fun k => [(5, .box [.gr 30, iv t.at_, iv t.way, iv t.step, .c (.raw (.slice none 0 0))]), (30, .grow 56 2 ((recsT t o k).map Rec.cds))]) 0 (Nat.zero_le _) ?_ ?_
      · exact Sub_au
      · intro k hk
        simp only [go_sem, init_env', Nat.reduceEqDiff, Nat.reduceAdd, Nat.reduceMul, reduceIte, Nat.reduceLeDiff, Nat.reduceLT, Nat.reduceBEq, reduceCtorEq]
        (repeat ((first | refine WV_seq_ ?_ | refine WV_block ?_ | refine WV_ops ?_ | refine WV_skip ?_ | refine WV_exit ?_); (try simp only [go_sem, init_env', Nat.reduceEqDiff, Nat.reduceAdd, Nat.reduceMul, reduceIte, Nat.reduceLeDiff, Nat.reduceLT, Nat.reduceBEq, reduceCtorEq, hP, ]); (repeat refine qI ?_)))
        (refine WV_cond rfl (fun h => ?_) (fun h => ?_))
        · have hkl : k < o.length := by simpa using h
          have hI : (k : Int) < (o.length : Int) := by omega
          have hw := w64 (n := (k : Int) + 1) (by omega) (by omega)
          have hlt := ho.lt (List.getElem_mem hkl)
          have hlt' : o[k] < t.recs.length := hlt
          have hI2 : ((o[k] : Nat) : Int) < (t.recs.length : Int) := by omega
          have hrc : t.rc o[k] = t.recs[o[k]] := by unfold Tray.rc; simp [hlt']
          have hsu := recsT_succ t hkl
          have hrl := recsT_len t o k
          have e9 : (recsT t o k).map Rec.cds ++ [[CD.int .i64 t.recs[o[k]].front, CD.int .i64 t.recs[o[k]].back]] = (recsT t o (k + 1)).map Rec.cds := by rw [hsu, hrc, List.map_append]; rfl
          (repeat ((first | refine WV_seq_ ?_ | refine WV_block ?_ | refine WV_ops ?_ | refine WV_skip ?_ | refine WV_exit ?_); (try simp only [go_sem, init_env', Nat.reduceEqDiff, Nat.reduceAdd, Nat.reduceMul, reduceIte, Nat.reduceLeDiff, Nat.reduceLT, Nat.reduceBEq, reduceCtorEq, hP, map_getD hkl, hI, Int.natCast_nonneg, ncd, recsC, List.length_map, map_getD hlt', hI2, Rec.cds, recs_two, hw, e9]); (repeat refine qI ?_)))
          refine ⟨k + 1, by omega, by omega, ?_⟩
          exact Sub_au
        · have h : k = o.length := by simp at h; omega
          subst h
          rw [recsT_all]
          (refine WV_exit ?_; simp only [go_sem, init_env', Nat.reduceEqDiff, Nat.reduceAdd, Nat.reduceMul, reduceIte, Nat.reduceLeDiff, Nat.reduceLT, Nat.reduceBEq, reduceCtorEq])
          (repeat ((first | refine WV_seq_ ?_ | refine WV_block ?_ | refine WV_ops ?_ | refine WV_skip ?_ | refine WV_exit ?_); (try simp only [go_sem, init_env', Nat.reduceEqDiff, Nat.reduceAdd, Nat.reduceMul, reduceIte, Nat.reduceLeDiff, Nat.reduceLT, Nat.reduceBEq, reduceCtorEq, hP, List.length_nil, Int.natCast_zero]); (repeat refine qI ?_)))
          refine WV_loopK K78_2 [] (fun _ : Unit => True) (fun _ => 0) (fun _ => [(36, iv 0)]) (fun _ => []) () trivial ?_ ?_
          · exact Sub_au
          · rintro - -
            simp only [go_sem, init_env', Nat.reduceEqDiff, Nat.reduceAdd, Nat.reduceMul, reduceIte, Nat.reduceLeDiff, Nat.reduceLT, Nat.reduceBEq, reduceCtorEq]
            (repeat ((first | refine WV_seq_ ?_ | refine WV_block ?_ | refine WV_ops ?_ | refine WV_skip ?_ | refine WV_exit ?_); (try simp only [go_sem, init_env', Nat.reduceEqDiff, Nat.reduceAdd, Nat.reduceMul, reduceIte, Nat.reduceLeDiff, Nat.reduceLT, Nat.reduceBEq, reduceCtorEq, hP, ]); (repeat refine qI ?_)))
            (refine WV_cond rfl (fun h => ?_) (fun h => ?_))
            · simp at h
            · (refine WV_exit ?_; simp only [go_sem, init_env', Nat.reduceEqDiff, Nat.reduceAdd, Nat.reduceMul, reduceIte, Nat.reduceLeDiff, Nat.reduceLT, Nat.reduceBEq, reduceCtorEq])
              (repeat ((first | refine WV_seq_ ?_ | refine WV_block ?_ | refine WV_ops ?_ | refine WV_skip ?_ | refine WV_exit ?_); (try simp only [go_sem, init_env', Nat.reduceEqDiff, Nat.reduceAdd, Nat.reduceMul, reduceIte, Nat.reduceLeDiff, Nat.reduceLT, Nat.reduceBEq, reduceCtorEq, hP, ]); (repeat refine qI ?_)))
              have hrs := recs_scal (o.map t.rc)
              have hav : (arrT t o).av = .agg [.c (.sl 2 ((o.map t.rc).map Rec.cds)), iv t.at_, iv t.way, iv t.step, .c (.sl 2 [])] := by simp [Tray.av, arrT, hpn, recsC, prsC]
              (refine WV_ret ?_; simp only [thenQ, inQ, RetQF, RetOkF, resAll, resA]; simp only [go_sem, init_env', Nat.reduceEqDiff, Nat.reduceAdd, Nat.reduceMul, reduceIte, Nat.reduceLeDiff, Nat.reduceLT, Nat.reduceBEq, reduceCtorEq, tupA, AV.fport, AV.fportL, CD.scal, exists_eq_left', hrs]; refine And.intro (by ((repeat' (first | exact NoWin_o0 | refine NoWin_upd (fun cs h => by cases h) ?_)))) ?_)
              exact AVle.agg (AVles.cons (AVle.refl _) (AVles.cons (AVle.refl _) (AVles.cons (AVle.refl _) (AVles.cons (AVle.refl _) (AVles.cons (by rw [show (arrT t o).pres = [] by simp [arrT, hpn]]; exact AVle.nil 2) (AVles.refl _))))))
  · refine AS_new (cloneN56 t.pres (by omega) hpn) rfl rfl rfl rfl ?_
    rintro res os ⟨cap, J, h1, h2, h3, rfl, rfl⟩
    refine ⟨[900], .vw 2 900 0 t.pres.length cap, [.box (cellsG Pr.cds t.pres J)], by decide, rfl, by simp only [go_sem, init_env', Nat.reduceEqDiff, Nat.reduceAdd, Nat.reduceMul, reduceIte, Nat.reduceLeDiff, Nat.reduceLT, Nat.reduceBEq, reduceCtorEq, decide_true], rfl, (by simp only [obsBack, Ob.back, back_cellsG]; rfl), ?_⟩
    simp only [go_sem, init_env', Nat.reduceEqDiff, Nat.reduceAdd, Nat.reduceMul, reduceIte, Nat.reduceLeDiff, Nat.reduceLT, Nat.reduceBEq, reduceCtorEq, hP, ownBack]
    (repeat refine qI ?_)
    refine WV_nilbox 5 0 30 56 2 (by decide) (by decide) (by decide) rfl rfl rfl ?_
    simp only [go_sem, init_env', Nat.reduceEqDiff, Nat.reduceAdd, Nat.reduceMul, reduceIte, Nat.reduceLeDiff, Nat.reduceLT, Nat.reduceBEq, reduceCtorEq]
    (repeat ((first | refine WV_seq_ ?_ | refine WV_block ?_ | refine WV_ops ?_ | refine WV_skip ?_ | refine WV_exit ?_); (try simp only [go_sem, init_env', Nat.reduceEqDiff, Nat.reduceAdd, Nat.reduceMul, reduceIte, Nat.reduceLeDiff, Nat.reduceLT, Nat.reduceBEq, reduceCtorEq, hP, natsC, List.length_map]); (repeat refine qI ?_)))
    refine WV_loopK K78_1 [5, 29, 30] (fun k : Nat => k ≤ o.length) (fun k => o.length - k) (fun k => [(18, iv k)]) (fun k => [(5, .box [.gr 30, iv t.at_, iv t.way, iv t.step, .vw 2 900 0 t.pres.length cap]), (30, .grow 56 2 ((recsT t o k).map Rec.cds))]) 0 (Nat.zero_le _) ?_ ?_
    · exact Sub_au
    · intro k hk
      simp only [go_sem, init_env', Nat.reduceEqDiff, Nat.reduceAdd, Nat.reduceMul, reduceIte, Nat.reduceLeDiff, Nat.reduceLT, Nat.reduceBEq, reduceCtorEq]
      (repeat ((first | refine WV_seq_ ?_ | refine WV_block ?_ | refine WV_ops ?_ | refine WV_skip ?_ | refine WV_exit ?_); (try simp only [go_sem, init_env', Nat.reduceEqDiff, Nat.reduceAdd, Nat.reduceMul, reduceIte, Nat.reduceLeDiff, Nat.reduceLT, Nat.reduceBEq, reduceCtorEq, hP, ]); (repeat refine qI ?_)))
      (refine WV_cond rfl (fun h => ?_) (fun h => ?_))
      · have hkl : k < o.length := by simpa using h
        have hI : (k : Int) < (o.length : Int) := by omega
        have hw := w64 (n := (k : Int) + 1) (by omega) (by omega)
        have hlt := ho.lt (List.getElem_mem hkl)
        have hlt' : o[k] < t.recs.length := hlt
        have hI2 : ((o[k] : Nat) : Int) < (t.recs.length : Int) := by omega
        have hrc : t.rc o[k] = t.recs[o[k]] := by unfold Tray.rc; simp [hlt']
        have hsu := recsT_succ t hkl
        have hrl := recsT_len t o k
        have e9 : (recsT t o k).map Rec.cds ++ [[CD.int .i64 t.recs[o[k]].front, CD.int .i64 t.recs[o[k]].back]] = (recsT t o (k + 1)).map Rec.cds := by rw [hsu, hrc, List.map_append]; rfl
        (repeat ((first | refine WV_seq_ ?_ | refine WV_block ?_ | refine WV_ops ?_ | refine WV_skip ?_ | refine WV_exit ?_); (try simp only [go_sem, init_env', Nat.reduceEqDiff, Nat.reduceAdd, Nat.reduceMul, reduceIte, Nat.reduceLeDiff, Nat.reduceLT, Nat.reduceBEq, reduceCtorEq, hP, map_getD hkl, hI, Int.natCast_nonneg, ncd, recsC, List.length_map, map_getD hlt', hI2, Rec.cds, recs_two, hw, e9]); (repeat refine qI ?_)))
        refine ⟨k + 1, by omega, by omega, ?_⟩
        exact Sub_au
      · have h : k = o.length := by simp at h; omega
        subst h
        rw [recsT_all]
        (refine WV_exit ?_; simp only [go_sem, init_env', Nat.reduceEqDiff, Nat.reduceAdd, Nat.reduceMul, reduceIte, Nat.reduceLeDiff, Nat.reduceLT, Nat.reduceBEq, reduceCtorEq])
        (repeat ((first | refine WV_seq_ ?_ | refine WV_block ?_ | refine WV_ops ?_ | refine WV_skip ?_ | refine WV_exit ?_); (try simp only [go_sem, init_env', Nat.reduceEqDiff, Nat.reduceAdd, Nat.reduceMul, reduceIte, Nat.reduceLeDiff, Nat.reduceLT, Nat.reduceBEq, reduceCtorEq, hP, ]); (repeat refine qI ?_)))
        refine WV_loopK K78_2 [5, 9, 900] (fun k : Nat => k ≤ t.pres.length) (fun k => t.pres.length - k) (fun k => [(36, iv k)]) (fun k => [(5, .box [.gr 30, iv t.at_, iv t.way, iv t.step, .vw 2 900 0 t.pres.length cap]), (900, .box (cellsG Pr.cds (mapK (arrP o) t.pres k) J))]) 0 (Nat.zero_le _) ?_ ?_
        · rw [mapK_zero]
          exact Sub_au
        · intro k hk
          have hml := mapK_len (arrP o) t.pres k
          simp only [go_sem, init_env', Nat.reduceEqDiff, Nat.reduceAdd, Nat.reduceMul, reduceIte, Nat.reduceLeDiff, Nat.reduceLT, Nat.reduceBEq, reduceCtorEq]
          (repeat ((first | refine WV_seq_ ?_ | refine WV_block ?_ | refine WV_ops ?_ | refine WV_skip ?_ | refine WV_exit ?_); (try simp only [go_sem, init_env', Nat.reduceEqDiff, Nat.reduceAdd, Nat.reduceMul, reduceIte, Nat.reduceLeDiff, Nat.reduceLT, Nat.reduceBEq, reduceCtorEq, hP, ]); (repeat refine qI ?_)))
          (refine WV_cond rfl (fun h => ?_) (fun h => ?_))
          · have hkl : k < t.pres.length := by simpa using h
            have hI : (k : Int) < (t.pres.length : Int) := by omega
            have hw := w64 (n := (k : Int) + 1) (by omega) (by omega)
            have hlk : k < (mapK (arrP o) t.pres k).length := by omega
            have hge := cellsG_elem pr_two hlk J
            rw [mapK_get hkl hlk] at hge
            have hps := (ht.pres _ (List.getElem_mem hkl))
            have hidx := arrP_side ho hps.1
            have hix := index86 o (t.pres[k].side.toNat / 2) (by omega) (ho.mem hidx.2)
            have hset := cellsG_set pr_two hlk J 0 (by decide) (.int .i64 (2 * (o.idxOf (t.pres[k].side.toNat / 2) : Int) + t.pres[k].side % 2)) (arrP o t.pres[k]) (by rw [mapK_get hkl hlk]; rfl)
            rw [Nat.add_zero, mapK_set hkl] at hset
            have hcl : (cellsG Pr.cds (mapK (arrP o) t.pres k) J).length = t.pres.length * 2 + J := by rw [cellsG_len pr_two, hml]
            have hc1 : k * 2 < (cellsG Pr.cds (mapK (arrP o) t.pres k) J).length := by rw [hcl]; omega
            have hc2 : k * 2 + 1 ≤ (cellsG Pr.cds (mapK (arrP o) t.pres k) J).length := by rw [hcl]; omega
            have hc3 : k * 2 + 2 ≤ (cellsG Pr.cds (mapK (arrP o) t.pres k) J).length := by rw [hcl]; omega
            have hq1 : t.pres[k].side.tdiv 2 = ((t.pres[k].side.toNat / 2 : Nat) : Int) := by rw [Int.tdiv_eq_ediv_of_nonneg hps.1.1]; omega
            have hq2 : t.pres[k].side.tmod 2 = t.pres[k].side % 2 := Int.tmod_eq_emod_of_nonneg hps.1.1
            have hw1 := w64 (n := ((t.pres[k].side.toNat / 2 : Nat) : Int)) (by omega) (by omega)
            have hw2 := w64 (n := t.pres[k].side % 2) (by omega) (by omega)
            have hw3 := w64 (n := 2 * (o.idxOf (t.pres[k].side.toNat / 2) : Int)) (by omega) (by omega)
            have hw4 := w64 (n := 2 * (o.idxOf (t.pres[k].side.toNat / 2) : Int) + t.pres[k].side % 2) (by omega) (by omega)
            clear hidx
            generalize t.pres[k] = p at *
            generalize mapK (arrP o) t.pres k = M1 at *
            generalize hM2 : mapK (arrP o) t.pres (k + 1) = M2 at *
            generalize o.idxOf (p.side.toNat / 2) = I at *
            generalize p.side.toNat / 2 = m at *
            (repeat ((first | refine WV_seq_ ?_ | refine WV_block ?_ | refine WV_ops ?_ | refine WV_skip ?_ | refine WV_exit ?_); (try simp only [go_sem, init_env', Nat.reduceEqDiff, Nat.reduceAdd, Nat.reduceMul, reduceIte, Nat.reduceLeDiff, Nat.reduceLT, Nat.reduceBEq, reduceCtorEq, hP, hI, Int.natCast_nonneg, hge, hc3, Pr.cds, List.map_cons, List.map_nil, hq1, hw1]); (repeat refine qI ?_)))
            refine ACall_of hix rfl rfl rfl rfl rfl ?_
            simp only [go_sem, init_env', Nat.reduceEqDiff, Nat.reduceAdd, Nat.reduceMul, reduceIte, Nat.reduceLeDiff, Nat.reduceLT, Nat.reduceBEq, reduceCtorEq, hP, hw3, hq2, hw2, hw4, hset, hc1, hc2, hI, Int.natCast_nonneg]
            (repeat refine qI ?_)
            (repeat ((first | refine WV_seq_ ?_ | refine WV_block ?_ | refine WV_ops ?_ | refine WV_skip ?_ | refine WV_exit ?_); (try simp only [go_sem, init_env', Nat.reduceEqDiff, Nat.reduceAdd, Nat.reduceMul, reduceIte, Nat.reduceLeDiff, Nat.reduceLT, Nat.reduceBEq, reduceCtorEq, hP, hw]); (repeat refine qI ?_)))
            refine ⟨k + 1, by omega, by omega, ?_⟩
            rw [hM2]
            exact Sub_au
          · have h : k = t.pres.length := by simp at h; omega
            subst h
            rw [mapK_all]
            (refine WV_exit ?_; simp only [go_sem, init_env', Nat.reduceEqDiff, Nat.reduceAdd, Nat.reduceMul, reduceIte, Nat.reduceLeDiff, Nat.reduceLT, Nat.reduceBEq, reduceCtorEq])
            (repeat ((first | refine WV_seq_ ?_ | refine WV_block ?_ | refine WV_ops ?_ | refine WV_skip ?_ | refine WV_exit ?_); (try simp only [go_sem, init_env', Nat.reduceEqDiff, Nat.reduceAdd, Nat.reduceMul, reduceIte, Nat.reduceLeDiff, Nat.reduceLT, Nat.reduceBEq, reduceCtorEq, hP, ]); (repeat refine qI ?_)))
            have hrs := recs_scal (o.map t.rc)
            have hps := prs_scal (t.pres.map (arrP o))
            have hel : ∀ own : Nat → Ob, own 900 = .box (cellsG Pr.cds (t.pres.map (arrP o)) J) → AV.elemsV own (.vw 2 900 0 t.pres.length cap) = some (2, (t.pres.map (arrP o)).map Pr.cds) := fun own h => by
              have := elemsV_cellsG pr_two own 900 (t.pres.map (arrP o)) J cap h
              rwa [List.length_map] at this
            (refine WV_ret ?_; simp only [thenQ, inQ, RetQF, RetOkF, resAll, resA]; simp only [go_sem, init_env', Nat.reduceEqDiff, Nat.reduceAdd, Nat.reduceMul, reduceIte, Nat.reduceLeDiff, Nat.reduceLT, Nat.reduceBEq, reduceCtorEq, tupA, AV.fport, AV.fportL, CD.scal, exists_eq_left', hrs, hel, hps]; refine And.intro (by ((repeat' (first | exact NoWin_o0 | refine NoWin_upd (fun cs h => by cases h) ?_)))) ?_)
            exact AVle.of rfl
end Go.Proofs.Ytkpgpgaojjobgaa
