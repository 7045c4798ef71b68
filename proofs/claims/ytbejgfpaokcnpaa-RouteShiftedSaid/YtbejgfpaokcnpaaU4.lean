/-
  Contracts of functions of package route, of its reference and of the law RouteTimes; conditions: as each theorem states.
-/
import Derived.Test.YtbejgfpaokcnpaaU3
import Derived.Test.YtbejgfpaokcnpaaV2
set_option linter.unusedVariables false
set_option linter.unusedSimpArgs false
namespace Go.Proofs.Ytbejgfpaokcnpaa
open Go Go.V
@[reducible] def o50_0 : List Ins := [⟨(some 2), .box 1 (.t 0), none, true⟩,
  ⟨(some 3), .box 1 (.t 1), none, true⟩,
  ⟨(some 4), .mv (.k (.c (.int .i64 0))), none, true⟩]
@[reducible] def o50_1 : List Ins := [⟨(some 5), .alloc [(.c (.int .i64 0))], none, true⟩,
  ⟨none, .st 1 (.t 5) (.k (.c (.int .i64 0))), none, true⟩]
@[reducible] def o50_2 : List Ins := [⟨(some 8), .ld true 1 (.t 2), none, true⟩,
  ⟨(some 9), .call (.k (.fn 66 [])) [(.t 8)], none, true⟩]
@[reducible] def o50_3 : List Ins := [⟨(some 12), .mv (.t 6), none, true⟩,
  ⟨(some 13), .len (.t 12), none, true⟩,
  ⟨(some 14), .ld true 1 (.t 2), none, true⟩,
  ⟨(some 15), .nilc (.t 14), none, true⟩,
  ⟨(some 16), .fa 0 (.t 15), none, true⟩,
  ⟨(some 17), .ld true 1 (.t 16), none, true⟩,
  ⟨(some 18), .len (.t 17), none, true⟩,
  ⟨(some 19), .bin .lss (.t 13) (.t 18), none, true⟩]
@[reducible] def v50_4 : VC := (.cond (.t 19) (.exit 1) .skip)
@[reducible] def o50_5 : List Ins := [⟨(some 20), .ld true 1 (.t 5), none, true⟩,
  ⟨(some 21), .bin .add (.t 20) (.k (.c (.int .i64 1))), none, true⟩,
  ⟨none, .st 1 (.t 5) (.t 21), none, true⟩]
@[reducible] def o50_6 : List Ins := [⟨(some 22), .mv (.t 6), none, true⟩,
  ⟨(some 23), .len (.t 22), none, true⟩,
  ⟨(some 24), .bin .gtr (.t 23) (.k (.c (.int .i64 0))), none, true⟩]
@[reducible] def o50_7 : List Ins := [⟨(some 25), .ld false 4 (.t 7), none, true⟩,
  ⟨(some 26), .call (.k (.fn 68 [])) [(.t 25)], none, true⟩,
  ⟨none, .st 4 (.t 7) (.t 26), none, true⟩]
@[reducible] def v50_8 : VC := (.cond (.t 24) (.ops o50_7) .skip)
@[reducible] def v50_9 : VC := (.seq (.ops o50_6) v50_8)
@[reducible] def o50_10 : List Ins := [⟨(some 27), .ld true 1 (.t 3), none, true⟩,
  ⟨(some 28), .mv (.t 6), none, true⟩,
  ⟨(some 29), .ld false 4 (.t 7), none, true⟩,
  ⟨(some 30), .call (.t 27) [(.t 28), (.t 29)], none, true⟩]
@[reducible] def v50_11 : VC := (.seq (.seq (.ops o50_5) v50_9) (.ops o50_10))
@[reducible] def v50_12 : VC := (.seq (.seq (.ops o50_3) v50_4) v50_11)
@[reducible] def v50_13 : VC := (.block 1 v50_12)
@[reducible] def o50_14 : List Ins := [⟨(some 6), .mv (.t 10), none, true⟩]
@[reducible] def o50_15 : List Ins := [⟨(some 7), .alloc [(.c (.raw (.pointer none))), (.c (.int .i64 0)), (.c (.int .i64 0)), (.c (.int .i64 0))], none, true⟩,
  ⟨none, .st 4 (.t 7) (.t 11), none, true⟩]
@[reducible] def v50_16 : VC := (.seq (.ops o50_14) (.ops o50_15))
@[reducible] def K50_1 : List Nat := [2, 3, 5, 9]
@[reducible] def v50_17 : VC := (.rng (.t 9) [10, 11] v50_16 v50_13)
@[reducible] def v50_18 : VC := (.block 0 v50_17)
@[reducible] def o50_19 : List Ins := [⟨(some 31), .ld true 1 (.t 5), none, true⟩,
  ⟨(some 4), .mv (.t 31), none, true⟩]
@[reducible] def v50_20 : VC := (.seq (.ops o50_19) .ret)
@[reducible] def v50_21 : VC := (.seq (.seq (.ops o50_2) v50_18) v50_20)
@[reducible] def v50_22 : VC := (.seq (.ops o50_1) v50_21)
def ir50 : FC := ⟨2, 32, [.t 4], (.seq (.ops o50_0) v50_22)⟩
theorem c50 : compM Try.prog [] 50 = some ir50 := by kernel_rfl



/-- What is kept behind the first ones. -/
def wholeF (r : Route) (g : Gst) (pre : List (List Nat × Van)) : List Ob := [.box [iv ((pre.filter (isW r)).length : Int)], .guest g ((((goods r).drop pre.length).filter (isW r)).map (entW r))]

set_option maxHeartbeats 2000000 in
theorem whole50 {r : Route} (hr : RouteOk r) (g : Gst) : FSpecL Try.prog 50 [.c (.pt r.cds), .c (.raw g.fv)] [.guest g ((wholes r).map (entW r))] [] (fun res l' => res = iv ((wholes r).length : Int) ∧ l' = [.guest g []]) := by
  have hn7 := hr.n7
  have hst : (r.stops.length : Int) = (r.n : Int) := rfl
  have hcount := goods_count hn7
  refine FSpecL_of c50 (by simp) (Nat.le_refl _) (by decide) (by decide) fun C hP hN hC hL => ?_; rw [init_env', ownW_upd (by simp)]; simp only [ir50, updL, updLo, List.map_nil, List.map_cons, Nat.reduceAdd, ]
  (refine WV_seq_ (WV_ops ?_); simp only [go_sem, init_env', Nat.reduceEqDiff, Nat.reduceAdd, Nat.reduceMul, reduceIte, Nat.reduceLeDiff, Nat.reduceLT, Nat.reduceBEq, reduceCtorEq, hP, ]; (repeat (refine And.intro (by first | omega | (intros; simp_all; done) | (intros; simp_all; omega)) ?_)))
  refine WV_freeze 2 (ds := [.pt r.cds]) rfl rfl ?_
  refine WV_freeze 3 (ds := [.raw g.fv]) rfl rfl ?_
  simp only [go_sem, init_env', Nat.reduceEqDiff, Nat.reduceAdd, Nat.reduceMul, reduceIte, Nat.reduceLeDiff, Nat.reduceLT, Nat.reduceBEq, reduceCtorEq, List.drop_zero]
  (repeat ((first | refine WV_seq_ ?_ | refine WV_block ?_ | refine WV_ops ?_ | refine WV_skip ?_ | refine WV_exit ?_); (try simp only [go_sem, init_env', Nat.reduceEqDiff, Nat.reduceAdd, Nat.reduceMul, reduceIte, Nat.reduceLeDiff, Nat.reduceLT, Nat.reduceBEq, reduceCtorEq, hP, ]); (repeat (refine And.intro (by first | omega | (intros; simp_all; done) | (intros; simp_all; omega)) ?_))))
  (refine AS_pure (tours66 r) rfl rfl rfl rfl rfl ?_; simp only [go_sem, init_env', Nat.reduceEqDiff, Nat.reduceAdd, Nat.reduceMul, reduceIte, Nat.reduceLeDiff, Nat.reduceLT, Nat.reduceBEq, reduceCtorEq, hP, ]; (repeat (refine And.intro (by first | omega | (intros; simp_all; done) | (intros; simp_all; omega)) ?_)); (repeat ((first | refine WV_seq_ ?_ | refine WV_block ?_ | refine WV_ops ?_ | refine WV_skip ?_ | refine WV_exit ?_); (try simp only [go_sem, init_env', Nat.reduceEqDiff, Nat.reduceAdd, Nat.reduceMul, reduceIte, Nat.reduceLeDiff, Nat.reduceLT, Nat.reduceBEq, reduceCtorEq, hP, ]); (repeat (refine And.intro (by first | omega | (intros; simp_all; done) | (intros; simp_all; omega)) ?_)))))
  refine WV_keep K50_1 ?_
  simp only [go_sem, init_env', Nat.reduceEqDiff, Nat.reduceAdd, Nat.reduceMul, reduceIte, Nat.reduceLeDiff, Nat.reduceLT, Nat.reduceBEq, reduceCtorEq]
  refine WV_rng hC (L := [5, 1000]) (l := wholeF r g []) (env' := lendF [5, 1000] _ _) (rem := (goods r).map (entT r)) (Fin := fun pend lf => pend = none ∧ lf = wholeF r g (goods r)) rfl rfl rfl (by decide) (by decide) ?_ (by rw [hN]; decide) (lendF_ok _ _ _) (fun g' => ?_) ?_ ?_
  · simp only [go_sem, init_env', Nat.reduceEqDiff, Nat.reduceAdd, Nat.reduceMul, reduceIte, Nat.reduceLeDiff, Nat.reduceLT, Nat.reduceBEq, reduceCtorEq, obsLend, Ob.lend, AV.lendL, AV.lend, wholeF, wholes, List.filter_nil]
    rfl
  · rw [hP]; exact ⟨_, tours74 hr g', fun _ _ h => h⟩
  · refine RunR_pre (entT r) (wholeF r g) (goods r) (fun p => rfl) (fun t _ => ⟨rfl, rfl⟩) (fun pre p post hts => ?_) (goods r) [] rfl
    have hdr : (goods r).drop pre.length = p :: post := by rw [hts]; simp
    have hdr2 : (goods r).drop (pre ++ [p]).length = post := by rw [hts]; simp
    have hpo := goods_ok hr p (by rw [hts]; simp)
    have hple := goods_len hr (p := p) (by rw [hts]; simp)
    have hpc : pre.length ≤ 16777215 := by rw [hts] at hcount; simp at hcount; omega
    have hfc : (pre.filter (isW r)).length ≤ 16777215 := Nat.le_trans (List.length_filter_le _ _) hpc
    have hprg : ∀ d, AV.prgL d (cellsT p.1) = cellsT p.1 := fun d => prgL_pure d (cellsT_pure _)
    have hF : wholeF r g pre = [.box [iv ((pre.filter (isW r)).length : Int)], .guest g (((p :: post).filter (isW r)).map (entW r))] := by rw [← hdr]; rfl
    have hF2 : wholeF r g (pre ++ [p]) = [.box [iv (((pre ++ [p]).filter (isW r)).length : Int)], .guest g ((post.filter (isW r)).map (entW r))] := by simp only [wholeF, hdr2]
    rw [hF, hF2]
    clear hF hF2 hdr hdr2
    intro C1 h1 h2 h3
    have hP0 := hP
    replace hP := h1.trans hP0
    rw [ownW_upd (by simp)]
    have hsl : (r.stops.length : Int) = (r.n : Int) := rfl
    generalize hN : (pre.filter (isW r)).length = N at hfc ⊢
    simp only [go_sem, init_env', Nat.reduceEqDiff, Nat.reduceAdd, Nat.reduceMul, reduceIte, Nat.reduceLeDiff, Nat.reduceLT, Nat.reduceBEq, reduceCtorEq, lendF_upd, lendF_e0, AV.lend, AV.lendL, Option.getD_some, Option.getD_none, List.zip_cons_cons, List.zip_nil_right, updLo, entT, vanv]
    (repeat ((first | refine WV_seq_ ?_ | refine WV_block ?_ | refine WV_ops ?_ | refine WV_skip ?_ | refine WV_exit ?_); (try simp only [go_sem, init_env', Nat.reduceEqDiff, Nat.reduceAdd, Nat.reduceMul, reduceIte, Nat.reduceLeDiff, Nat.reduceLT, Nat.reduceBEq, reduceCtorEq, hP, ]); (repeat (refine And.intro (by first | omega | (intros; simp_all; done) | (intros; simp_all; omega)) ?_))))
    intro C2 h1 h2 h3
    replace hP := h1.trans hP0
    (repeat ((first | refine WV_seq_ ?_ | refine WV_block ?_ | refine WV_ops ?_ | refine WV_skip ?_ | refine WV_exit ?_); (try simp only [go_sem, init_env', Nat.reduceEqDiff, Nat.reduceAdd, Nat.reduceMul, reduceIte, Nat.reduceLeDiff, Nat.reduceLT, Nat.reduceBEq, reduceCtorEq, hP, hprg, Route.cds, stopsC]); (repeat (refine And.intro (by first | omega | (intros; simp_all; done) | (intros; simp_all; omega)) ?_))))
    (refine WV_cond rfl (fun h => ?_) (fun h => ?_))
    · have hw : isW r p = false := by simp only [isW, hsl, decide_eq_true_eq, Int.ofNat_lt] at h ⊢; simp [h]
      rw [List.filter_cons, hw, if_neg (by simp), List.filter_append, List.filter_cons, hw]
      simp only [Bool.false_eq_true, if_false, List.filter_nil, List.append_nil, hN]
      (repeat ((first | refine WV_seq_ ?_ | refine WV_block ?_ | refine WV_ops ?_ | refine WV_skip ?_ | refine WV_exit ?_); (try simp only [go_sem, init_env', Nat.reduceEqDiff, Nat.reduceAdd, Nat.reduceMul, reduceIte, Nat.reduceLeDiff, Nat.reduceLT, Nat.reduceBEq, reduceCtorEq, hP, ]); (repeat (refine And.intro (by first | omega | (intros; simp_all; done) | (intros; simp_all; omega)) ?_))))
      refine ⟨none, _, rfl, ?_, rfl, rfl⟩; refine KeepL_mk rfl rfl ?_ ?_ rfl
      · simp only [go_sem, init_env', Nat.reduceEqDiff, Nat.reduceAdd, Nat.reduceMul, reduceIte, Nat.reduceLeDiff, Nat.reduceLT, Nat.reduceBEq, reduceCtorEq, keepAll, Ob.keepP, AV.keepP, AV.keepPL]
      · simp only [go_sem, init_env', Nat.reduceEqDiff, Nat.reduceAdd, Nat.reduceMul, reduceIte, Nat.reduceLeDiff, Nat.reduceLT, Nat.reduceBEq, reduceCtorEq, winAll]
    · have hw : isW r p = true := by simp only [isW, hsl, decide_eq_false_iff_not, Int.ofNat_lt] at h ⊢; simp [h]
      rw [List.filter_cons, hw, if_pos rfl, List.filter_append, List.filter_cons, hw]
      simp only [if_true, List.filter_nil, List.length_append, List.length_singleton, hN, List.map_cons]
      (repeat ((first | refine WV_seq_ ?_ | refine WV_block ?_ | refine WV_ops ?_ | refine WV_skip ?_ | refine WV_exit ?_); (try simp only [go_sem, init_env', Nat.reduceEqDiff, Nat.reduceAdd, Nat.reduceMul, reduceIte, Nat.reduceLeDiff, Nat.reduceLT, Nat.reduceBEq, reduceCtorEq, hP, ]); (repeat (refine And.intro (by first | omega | (intros; simp_all; done) | (intros; simp_all; omega)) ?_))))
      rw [w64 (by omega) (by omega)]
      (repeat ((first | refine WV_seq_ ?_ | refine WV_block ?_ | refine WV_ops ?_ | refine WV_skip ?_ | refine WV_exit ?_); (try simp only [go_sem, init_env', Nat.reduceEqDiff, Nat.reduceAdd, Nat.reduceMul, reduceIte, Nat.reduceLeDiff, Nat.reduceLT, Nat.reduceBEq, reduceCtorEq, hP, ]); (repeat (refine And.intro (by first | omega | (intros; simp_all; done) | (intros; simp_all; omega)) ?_))))
      (refine WV_cond rfl (fun h => ?_) (fun h => ?_))
      · have hne : p.1 ≠ [] := by rintro e; rw [e] at h; simp at h
        (repeat ((first | refine WV_seq_ ?_ | refine WV_block ?_ | refine WV_ops ?_ | refine WV_skip ?_ | refine WV_exit ?_); (try simp only [go_sem, init_env', Nat.reduceEqDiff, Nat.reduceAdd, Nat.reduceMul, reduceIte, Nat.reduceLeDiff, Nat.reduceLT, Nat.reduceBEq, reduceCtorEq, hP, ]); (repeat (refine And.intro (by first | omega | (intros; simp_all; done) | (intros; simp_all; omega)) ?_))))
        have hh := home68 hr hpo.2.2 (by omega)
        (refine AS_pure (hh) rfl rfl rfl rfl rfl ?_; simp only [go_sem, init_env', Nat.reduceEqDiff, Nat.reduceAdd, Nat.reduceMul, reduceIte, Nat.reduceLeDiff, Nat.reduceLT, Nat.reduceBEq, reduceCtorEq, hP, vanv, Route.cds, stopsC]; (repeat (refine And.intro (by first | omega | (intros; simp_all; done) | (intros; simp_all; omega)) ?_)); (repeat ((first | refine WV_seq_ ?_ | refine WV_block ?_ | refine WV_ops ?_ | refine WV_skip ?_ | refine WV_exit ?_); (try simp only [go_sem, init_env', Nat.reduceEqDiff, Nat.reduceAdd, Nat.reduceMul, reduceIte, Nat.reduceLeDiff, Nat.reduceLT, Nat.reduceBEq, reduceCtorEq, hP, vanv, Route.cds, stopsC]); (repeat (refine And.intro (by first | omega | (intros; simp_all; done) | (intros; simp_all; omega)) ?_)))))
        refine AS_guest 1001 [2000] (g := g) (e := entW r p) (rem := (post.filter (isW r)).map (entW r)) rfl rfl rfl rfl (by decide) ?_ ?_ ?_
        · simp only [go_sem, init_env', Nat.reduceEqDiff, Nat.reduceAdd, Nat.reduceMul, reduceIte, Nat.reduceLeDiff, Nat.reduceLT, Nat.reduceBEq, reduceCtorEq, AV.lendL, AV.lend, entW, vanv, atHome, home, hne, Route.cds, stopsC]
        · exact ⟨⟨⟨_, rfl, [], List.append_nil _⟩, cellsT_pure _⟩, trivial⟩
        · simp only [go_sem, init_env', Nat.reduceEqDiff, Nat.reduceAdd, Nat.reduceMul, reduceIte, Nat.reduceLeDiff, Nat.reduceLT, Nat.reduceBEq, reduceCtorEq, hP, entW, hprg]
          (repeat ((first | refine WV_seq_ ?_ | refine WV_block ?_ | refine WV_ops ?_ | refine WV_skip ?_ | refine WV_exit ?_); (try simp only [go_sem, init_env', Nat.reduceEqDiff, Nat.reduceAdd, Nat.reduceMul, reduceIte, Nat.reduceLeDiff, Nat.reduceLT, Nat.reduceBEq, reduceCtorEq, hP, ]); (repeat (refine And.intro (by first | omega | (intros; simp_all; done) | (intros; simp_all; omega)) ?_))))
          refine ⟨none, _, rfl, ?_, rfl, rfl⟩; refine KeepL_mk rfl rfl ?_ ?_ rfl
          · simp only [go_sem, init_env', Nat.reduceEqDiff, Nat.reduceAdd, Nat.reduceMul, reduceIte, Nat.reduceLeDiff, Nat.reduceLT, Nat.reduceBEq, reduceCtorEq, keepAll, Ob.keepP, AV.keepP, AV.keepPL, Int.natCast_add, Int.natCast_one]
          · simp only [go_sem, init_env', Nat.reduceEqDiff, Nat.reduceAdd, Nat.reduceMul, reduceIte, Nat.reduceLeDiff, Nat.reduceLT, Nat.reduceBEq, reduceCtorEq, winAll]
      · have hne : p.1 = [] := by simpa using h
        (repeat ((first | refine WV_seq_ ?_ | refine WV_block ?_ | refine WV_ops ?_ | refine WV_skip ?_ | refine WV_exit ?_); (try simp only [go_sem, init_env', Nat.reduceEqDiff, Nat.reduceAdd, Nat.reduceMul, reduceIte, Nat.reduceLeDiff, Nat.reduceLT, Nat.reduceBEq, reduceCtorEq, hP, ]); (repeat (refine And.intro (by first | omega | (intros; simp_all; done) | (intros; simp_all; omega)) ?_))))
        refine AS_guest 1001 [2000] (g := g) (e := entW r p) (rem := (post.filter (isW r)).map (entW r)) rfl rfl rfl rfl (by decide) ?_ ?_ ?_
        · simp only [go_sem, init_env', Nat.reduceEqDiff, Nat.reduceAdd, Nat.reduceMul, reduceIte, Nat.reduceLeDiff, Nat.reduceLT, Nat.reduceBEq, reduceCtorEq, AV.lendL, AV.lend, entW, vanv, atHome, home, hne, Route.cds, stopsC]
        · exact ⟨⟨⟨_, rfl, [], List.append_nil _⟩, cellsT_pure _⟩, trivial⟩
        · simp only [go_sem, init_env', Nat.reduceEqDiff, Nat.reduceAdd, Nat.reduceMul, reduceIte, Nat.reduceLeDiff, Nat.reduceLT, Nat.reduceBEq, reduceCtorEq, hP, entW, hprg]
          (repeat ((first | refine WV_seq_ ?_ | refine WV_block ?_ | refine WV_ops ?_ | refine WV_skip ?_ | refine WV_exit ?_); (try simp only [go_sem, init_env', Nat.reduceEqDiff, Nat.reduceAdd, Nat.reduceMul, reduceIte, Nat.reduceLeDiff, Nat.reduceLT, Nat.reduceBEq, reduceCtorEq, hP, ]); (repeat (refine And.intro (by first | omega | (intros; simp_all; done) | (intros; simp_all; omega)) ?_))))
          refine ⟨none, _, rfl, ?_, rfl, rfl⟩; refine KeepL_mk rfl rfl ?_ ?_ rfl
          · simp only [go_sem, init_env', Nat.reduceEqDiff, Nat.reduceAdd, Nat.reduceMul, reduceIte, Nat.reduceLeDiff, Nat.reduceLT, Nat.reduceBEq, reduceCtorEq, keepAll, Ob.keepP, AV.keepP, AV.keepPL, Int.natCast_add, Int.natCast_one]
          · simp only [go_sem, init_env', Nat.reduceEqDiff, Nat.reduceAdd, Nat.reduceMul, reduceIte, Nat.reduceLeDiff, Nat.reduceLT, Nat.reduceBEq, reduceCtorEq, winAll]
  · rintro _ _ ⟨rfl, rfl⟩
    refine ⟨_, rfl, rfl, ?_⟩
    simp only [go_sem, init_env', Nat.reduceEqDiff, Nat.reduceAdd, Nat.reduceMul, reduceIte, Nat.reduceLeDiff, Nat.reduceLT, Nat.reduceBEq, reduceCtorEq, exitOf, ownBack, wholeF, List.drop_length, List.filter_nil, wholes]
    (repeat ((first | refine WV_seq_ ?_ | refine WV_block ?_ | refine WV_ops ?_ | refine WV_skip ?_ | refine WV_exit ?_); (try simp only [go_sem, init_env', Nat.reduceEqDiff, Nat.reduceAdd, Nat.reduceMul, reduceIte, Nat.reduceLeDiff, Nat.reduceLT, Nat.reduceBEq, reduceCtorEq, hP, ]); (repeat (refine And.intro (by first | omega | (intros; simp_all; done) | (intros; simp_all; omega)) ?_))))
    (refine WV_ret ?_; simp only [thenQ, inQ, RetQL, RetOkL, resAll, resA]; simp only [go_sem, init_env', Nat.reduceEqDiff, Nat.reduceAdd, Nat.reduceMul, reduceIte, Nat.reduceLeDiff, Nat.reduceLT, Nat.reduceBEq, reduceCtorEq, tupA, AV.keepP, AV.keepPL]; refine ⟨_, [.guest g []], rfl, KeepL_mk rfl rfl ?_ ?_ rfl, ?_⟩)
    · simp only [go_sem, init_env', Nat.reduceEqDiff, Nat.reduceAdd, Nat.reduceMul, reduceIte, Nat.reduceLeDiff, Nat.reduceLT, Nat.reduceBEq, reduceCtorEq, keepAll, Ob.keepP]
    · trivial
    · exact ⟨rfl, rfl⟩
end Go.Proofs.Ytbejgfpaokcnpaa

namespace Go.Proofs.Ytbejgfpaokcnpaa
open Go Go.V
@[reducible] def o61_0 : List Ins := [⟨(some 2), .box 3 (.t 0), none, true⟩,
  ⟨(some 4), .mv (.k (.c (.int .i64 0))), none, true⟩]
@[reducible] def o61_1 : List Ins := [⟨(some 6), .ld false 3 (.t 2), none, true⟩,
  ⟨(some 7), .call (.k (.fn 26 [])) [(.t 6)], none, true⟩,
  ⟨(some 5), .mv (.t 7), none, true⟩]
@[reducible] def o61_2 : List Ins := [⟨(some 8), .mv (.t 5), none, true⟩,
  ⟨(some 9), .bin .neq (.t 8) (.k (.c (.int .i64 0))), none, true⟩]
@[reducible] def o61_3 : List Ins := [⟨(some 10), .mv (.t 5), none, true⟩,
  ⟨(some 4), .mv (.t 10), none, true⟩]
@[reducible] def v61_4 : VC := (.seq (.ops o61_3) .ret)
@[reducible] def v61_5 : VC := (.cond (.t 9) v61_4 .skip)
@[reducible] def v61_6 : VC := (.seq (.ops o61_2) v61_5)
@[reducible] def o61_7 : List Ins := [⟨(some 11), .mv (.t 1), none, true⟩,
  ⟨(some 12), .call (.k (.fn 50 [])) [(.t 2), (.t 11)], none, true⟩,
  ⟨(some 13), .bin .eql (.t 12) (.k (.c (.int .i64 0))), none, true⟩]
@[reducible] def o61_8 : List Ins := [⟨(some 4), .mv (.k (.c (.int .i64 3))), none, true⟩]
@[reducible] def v61_9 : VC := (.seq (.ops o61_8) .ret)
@[reducible] def v61_10 : VC := (.cond (.t 13) v61_9 .skip)
@[reducible] def o61_11 : List Ins := [⟨(some 4), .mv (.k (.c (.int .i64 0))), none, true⟩]
@[reducible] def v61_12 : VC := (.seq (.ops o61_11) .ret)
@[reducible] def v61_13 : VC := (.seq (.seq (.ops o61_7) v61_10) v61_12)
@[reducible] def v61_14 : VC := (.seq (.seq (.ops o61_1) v61_6) v61_13)
def ir61 : FC := ⟨2, 14, [.t 4], (.seq (.ops o61_0) v61_14)⟩
theorem c61 : compM Try.prog [] 61 = some ir61 := by kernel_rfl



def wholesOf (r : Route) : List (List Nat × Van) := if r.ok then wholes r else []
def someE (r : Route) : Int := if r.ok then (if wholes r = [] then 3 else 0) else 80

set_option maxHeartbeats 1000000 in
theorem some61 (r : Route) (g : Gst) : FSpecL Try.prog 61 [r.av, .c (.raw g.fv)] [.guest g ((wholesOf r).map (entW r))] [] (fun res l' => res = iv (someE r) ∧ l' = [.guest g []]) := by
  refine FSpecL_of c61 (by simp) (Nat.le_refl _) (by decide) (by decide) fun C hP hN hC hL => ?_; rw [init_env', ownW_upd (by simp)]; simp only [ir61, updL, updLo, List.map_nil, List.map_cons, Nat.reduceAdd, Route.av]
  (repeat ((first | refine WV_seq_ ?_ | refine WV_block ?_ | refine WV_ops ?_ | refine WV_skip ?_ | refine WV_exit ?_); (try simp only [go_sem, init_env', Nat.reduceEqDiff, Nat.reduceAdd, Nat.reduceMul, reduceIte, Nat.reduceLeDiff, Nat.reduceLT, Nat.reduceBEq, reduceCtorEq, hP, ]); (repeat (refine And.intro (by first | omega | (intros; simp_all; done) | (intros; simp_all; omega)) ?_))))
  (refine AS_pure (rcheck_spec r) rfl rfl rfl rfl rfl ?_; simp only [go_sem, init_env', Nat.reduceEqDiff, Nat.reduceAdd, Nat.reduceMul, reduceIte, Nat.reduceLeDiff, Nat.reduceLT, Nat.reduceBEq, reduceCtorEq, hP, Route.av]; (repeat (refine And.intro (by first | omega | (intros; simp_all; done) | (intros; simp_all; omega)) ?_)); (repeat ((first | refine WV_seq_ ?_ | refine WV_block ?_ | refine WV_ops ?_ | refine WV_skip ?_ | refine WV_exit ?_); (try simp only [go_sem, init_env', Nat.reduceEqDiff, Nat.reduceAdd, Nat.reduceMul, reduceIte, Nat.reduceLeDiff, Nat.reduceLT, Nat.reduceBEq, reduceCtorEq, hP, Route.av]); (repeat (refine And.intro (by first | omega | (intros; simp_all; done) | (intros; simp_all; omega)) ?_)))))
  by_cases hok : r.ok = true
  · have hr := Route.ok_spec hok
    rw [show wholesOf r = wholes r from if_pos hok]
    simp only [hok, if_true]
    (refine WV_cond rfl (fun h => ?_) (fun h => ?_))
    · simp at h
    · refine WV_freeze 2 (ds := r.cds) rfl rfl ?_
      (repeat ((first | refine WV_seq_ ?_ | refine WV_block ?_ | refine WV_ops ?_ | refine WV_skip ?_ | refine WV_exit ?_); (try simp only [go_sem, init_env', Nat.reduceEqDiff, Nat.reduceAdd, Nat.reduceMul, reduceIte, Nat.reduceLeDiff, Nat.reduceLT, Nat.reduceBEq, reduceCtorEq, hP, ]); (repeat (refine And.intro (by first | omega | (intros; simp_all; done) | (intros; simp_all; omega)) ?_))))
      refine AS_lend [1000] (whole50 hr g) rfl rfl rfl (by decide) ?_ ?_ ?_
      · simp only [go_sem, init_env', Nat.reduceEqDiff, Nat.reduceAdd, Nat.reduceMul, reduceIte, Nat.reduceLeDiff, Nat.reduceLT, Nat.reduceBEq, reduceCtorEq, AV.lendL, AV.lend, Route.cds]
      · simp only [go_sem, init_env', Nat.reduceEqDiff, Nat.reduceAdd, Nat.reduceMul, reduceIte, Nat.reduceLeDiff, Nat.reduceLT, Nat.reduceBEq, reduceCtorEq, obsLend, Ob.lend, AV.lendL, AV.lend]
      · rintro res l' ⟨rfl, rfl⟩
        refine ⟨_, _, rfl, rfl, ?_⟩
        simp only [go_sem, init_env', Nat.reduceEqDiff, Nat.reduceAdd, Nat.reduceMul, reduceIte, Nat.reduceLeDiff, Nat.reduceLT, Nat.reduceBEq, reduceCtorEq, ownBack]
        (repeat ((first | refine WV_seq_ ?_ | refine WV_block ?_ | refine WV_ops ?_ | refine WV_skip ?_ | refine WV_exit ?_); (try simp only [go_sem, init_env', Nat.reduceEqDiff, Nat.reduceAdd, Nat.reduceMul, reduceIte, Nat.reduceLeDiff, Nat.reduceLT, Nat.reduceBEq, reduceCtorEq, hP, ]); (repeat (refine And.intro (by first | omega | (intros; simp_all; done) | (intros; simp_all; omega)) ?_))))
        (refine WV_cond rfl (fun h => ?_) (fun h => ?_))
        · have hw : wholes r = [] := by simpa using h
          (repeat ((first | refine WV_seq_ ?_ | refine WV_block ?_ | refine WV_ops ?_ | refine WV_skip ?_ | refine WV_exit ?_); (try simp only [go_sem, init_env', Nat.reduceEqDiff, Nat.reduceAdd, Nat.reduceMul, reduceIte, Nat.reduceLeDiff, Nat.reduceLT, Nat.reduceBEq, reduceCtorEq, hP, ]); (repeat (refine And.intro (by first | omega | (intros; simp_all; done) | (intros; simp_all; omega)) ?_))))
          (refine WV_ret ?_; simp only [thenQ, inQ, RetQL, RetOkL, resAll, resA]; simp only [go_sem, init_env', Nat.reduceEqDiff, Nat.reduceAdd, Nat.reduceMul, reduceIte, Nat.reduceLeDiff, Nat.reduceLT, Nat.reduceBEq, reduceCtorEq, tupA, AV.keepP, AV.keepPL]; refine ⟨_, [.guest g []], rfl, KeepL_mk rfl rfl ?_ ?_ rfl, ?_⟩)
          · simp only [go_sem, init_env', Nat.reduceEqDiff, Nat.reduceAdd, Nat.reduceMul, reduceIte, Nat.reduceLeDiff, Nat.reduceLT, Nat.reduceBEq, reduceCtorEq, keepAll, Ob.keepP]
          · trivial
          · simp [someE, hok, hw]
        · have hw : wholes r ≠ [] := by intro e; rw [e] at h; simp at h
          (repeat ((first | refine WV_seq_ ?_ | refine WV_block ?_ | refine WV_ops ?_ | refine WV_skip ?_ | refine WV_exit ?_); (try simp only [go_sem, init_env', Nat.reduceEqDiff, Nat.reduceAdd, Nat.reduceMul, reduceIte, Nat.reduceLeDiff, Nat.reduceLT, Nat.reduceBEq, reduceCtorEq, hP, ]); (repeat (refine And.intro (by first | omega | (intros; simp_all; done) | (intros; simp_all; omega)) ?_))))
          (refine WV_ret ?_; simp only [thenQ, inQ, RetQL, RetOkL, resAll, resA]; simp only [go_sem, init_env', Nat.reduceEqDiff, Nat.reduceAdd, Nat.reduceMul, reduceIte, Nat.reduceLeDiff, Nat.reduceLT, Nat.reduceBEq, reduceCtorEq, tupA, AV.keepP, AV.keepPL]; refine ⟨_, [.guest g []], rfl, KeepL_mk rfl rfl ?_ ?_ rfl, ?_⟩)
          · simp only [go_sem, init_env', Nat.reduceEqDiff, Nat.reduceAdd, Nat.reduceMul, reduceIte, Nat.reduceLeDiff, Nat.reduceLT, Nat.reduceBEq, reduceCtorEq, keepAll, Ob.keepP]
          · trivial
          · simp [someE, hok, hw]
  · have hok : r.ok = false := by simpa using hok
    rw [show wholesOf r = [] from by simp [wholesOf, hok]]
    simp only [hok, Bool.false_eq_true, if_false]
    (refine WV_cond rfl (fun h => ?_) (fun h => ?_))
    · (repeat ((first | refine WV_seq_ ?_ | refine WV_block ?_ | refine WV_ops ?_ | refine WV_skip ?_ | refine WV_exit ?_); (try simp only [go_sem, init_env', Nat.reduceEqDiff, Nat.reduceAdd, Nat.reduceMul, reduceIte, Nat.reduceLeDiff, Nat.reduceLT, Nat.reduceBEq, reduceCtorEq, hP, ]); (repeat (refine And.intro (by first | omega | (intros; simp_all; done) | (intros; simp_all; omega)) ?_))))
      (refine WV_ret ?_; simp only [thenQ, inQ, RetQL, RetOkL, resAll, resA]; simp only [go_sem, init_env', Nat.reduceEqDiff, Nat.reduceAdd, Nat.reduceMul, reduceIte, Nat.reduceLeDiff, Nat.reduceLT, Nat.reduceBEq, reduceCtorEq, tupA, AV.keepP, AV.keepPL]; refine ⟨_, [.guest g []], rfl, KeepL_mk rfl rfl ?_ ?_ rfl, ?_⟩)
      · simp only [go_sem, init_env', Nat.reduceEqDiff, Nat.reduceAdd, Nat.reduceMul, reduceIte, Nat.reduceLeDiff, Nat.reduceLT, Nat.reduceBEq, reduceCtorEq, keepAll, Ob.keepP]
      · trivial
      · simp [someE, hok]
    · simp at h
end Go.Proofs.Ytbejgfpaokcnpaa

namespace Go.Proofs.Ytbejgfpaokcnpaa
open Go Go.V
@[reducible] def o62_0 : List Ins := [⟨(some 4), .box 4 (.t 1), none, true⟩]
@[reducible] def o62_1 : List Ins := [⟨(some 5), .ld true 1 (.t 2), none, true⟩,
  ⟨(some 6), .bin .lss (.t 5) (.k (.c (.int .i64 0))), none, true⟩,
  ⟨(some 7), .mv (.t 6), none, true⟩,
  ⟨(some 8), .fa 2 (.t 4), (some (7, false)), true⟩,
  ⟨(some 9), .ld true 1 (.t 8), (some (7, false)), true⟩,
  ⟨(some 10), .ld true 1 (.t 2), (some (7, false)), true⟩,
  ⟨(some 11), .bin .lss (.t 9) (.t 10), (some (7, false)), true⟩,
  ⟨(some 12), .pick (.t 7) (.k (.c (.bool true))) (.t 11), none, true⟩]
@[reducible] def o62_2 : List Ins := [⟨(some 13), .fa 2 (.t 4), none, true⟩,
  ⟨(some 14), .ld true 1 (.t 13), none, true⟩,
  ⟨none, .st 1 (.t 2) (.t 14), none, true⟩]
@[reducible] def v62_3 : VC := (.cond (.t 12) (.ops o62_2) .skip)
@[reducible] def v62_4 : VC := (.seq (.ops o62_1) v62_3)
def ir62 : FC := ⟨3, 15, [], (.seq (.ops o62_0) v62_4)⟩
@[reducible] def o35_0 : List Ins := [⟨(some 1), .box 3 (.t 0), none, true⟩,
  ⟨(some 2), .mv (.k (.c (.int .i64 0))), none, true⟩,
  ⟨(some 3), .mv (.k (.c (.int .i64 0))), none, true⟩]
@[reducible] def o35_1 : List Ins := [⟨(some 4), .alloc [(.c (.int .i64 0))], none, true⟩,
  ⟨none, .st 1 (.t 4) (.k (.c (.int .i64 (-1)))), none, true⟩]
@[reducible] def o35_2 : List Ins := [⟨(some 6), .ld false 3 (.t 1), none, true⟩,
  ⟨(some 7), .mkfn 62 [(.t 4)], none, true⟩,
  ⟨(some 8), .call (.k (.fn 61 [])) [(.t 6), (.t 7)], none, true⟩,
  ⟨(some 5), .mv (.t 8), none, true⟩]
@[reducible] def o35_3 : List Ins := [⟨(some 9), .mv (.t 5), none, true⟩,
  ⟨(some 10), .bin .neq (.t 9) (.k (.c (.int .i64 0))), none, true⟩]
@[reducible] def o35_4 : List Ins := [⟨(some 11), .mv (.t 5), none, true⟩,
  ⟨(some 2), .mv (.k (.c (.int .i64 0))), none, true⟩,
  ⟨(some 3), .mv (.t 11), none, true⟩]
@[reducible] def v35_5 : VC := (.seq (.ops o35_4) .ret)
@[reducible] def v35_6 : VC := (.cond (.t 10) v35_5 .skip)
@[reducible] def v35_7 : VC := (.seq (.ops o35_3) v35_6)
@[reducible] def o35_8 : List Ins := [⟨(some 12), .ld true 1 (.t 4), none, true⟩,
  ⟨(some 2), .mv (.t 12), none, true⟩,
  ⟨(some 3), .mv (.k (.c (.int .i64 0))), none, true⟩]
@[reducible] def v35_9 : VC := (.seq (.ops o35_8) .ret)
@[reducible] def v35_10 : VC := (.seq (.seq (.ops o35_2) v35_7) v35_9)
@[reducible] def v35_11 : VC := (.seq (.ops o35_1) v35_10)
def ir35 : FC := ⟨1, 13, [.t 2, .t 3], (.seq (.ops o35_0) v35_11)⟩
theorem c62 : compM Try.prog [] 62 = some ir62 := by kernel_rfl
theorem c35 : compM Try.prog [] 35 = some ir35 := by kernel_rfl



/-- The least so far; below 0: none. -/
def lessS (b n : Int) : Int := if b < 0 ∨ n < b then n else b
def leastS (l : List Int) : Int := l.foldl lessS (-1)
theorem leastS_snoc (l : List Int) (n : Int) : leastS (l ++ [n]) = lessS (leastS l) n := by simp [leastS]

set_option maxHeartbeats 1000000 in
theorem soon62 (r : Route) (v : Van) (b : Int) (t : List Nat) : FSpecL Try.prog 62 [.vw 1 2000 0 t.length r.n, vanv r v, .bp 1000 0] [.box [iv b]] [cellsT t] (fun res l' => res = .tup [] ∧ l' = [.box [iv (lessS b v.now)]]) := by
  have hprg : ∀ d, AV.prgL d (cellsT t) = cellsT t := fun d => prgL_pure d (cellsT_pure _)
  refine FSpecL_of c62 (by simp) (Nat.le_refl _) (by decide) (by decide) fun C hP hN hC hL => ?_; rw [init_env', ownW_upd (by simp)]; simp only [ir62, updL, updLo, List.map_nil, List.map_cons, Nat.reduceAdd, vanv]
  (repeat ((first | refine WV_seq_ ?_ | refine WV_block ?_ | refine WV_ops ?_ | refine WV_skip ?_ | refine WV_exit ?_); (try simp only [go_sem, init_env', Nat.reduceEqDiff, Nat.reduceAdd, Nat.reduceMul, reduceIte, Nat.reduceLeDiff, Nat.reduceLT, Nat.reduceBEq, reduceCtorEq, hP, hprg]); (repeat (refine And.intro (by first | omega | (intros; simp_all; done) | (intros; simp_all; omega)) ?_))))
  (refine WV_cond rfl (fun h => ?_) (fun h => ?_))
  · have h : b < 0 ∨ v.now < b := by simpa using h
    have e : lessS b v.now = v.now := if_pos h
    (repeat ((first | refine WV_seq_ ?_ | refine WV_block ?_ | refine WV_ops ?_ | refine WV_skip ?_ | refine WV_exit ?_); (try simp only [go_sem, init_env', Nat.reduceEqDiff, Nat.reduceAdd, Nat.reduceMul, reduceIte, Nat.reduceLeDiff, Nat.reduceLT, Nat.reduceBEq, reduceCtorEq, hP, hprg]); (repeat (refine And.intro (by first | omega | (intros; simp_all; done) | (intros; simp_all; omega)) ?_))))
    ((try simp only [thenQ, inQ, RetQL, RetOkL, resAll, resA]); (try simp only [go_sem, init_env', Nat.reduceEqDiff, Nat.reduceAdd, Nat.reduceMul, reduceIte, Nat.reduceLeDiff, Nat.reduceLT, Nat.reduceBEq, reduceCtorEq, tupA, AV.keepP, AV.keepPL]); refine ⟨_, [.box [iv (lessS b v.now)]], rfl, KeepL_mk rfl rfl ?_ ?_ rfl, ?_⟩)
    · simp only [go_sem, init_env', Nat.reduceEqDiff, Nat.reduceAdd, Nat.reduceMul, reduceIte, Nat.reduceLeDiff, Nat.reduceLT, Nat.reduceBEq, reduceCtorEq, keepAll, Ob.keepP, AV.keepP, AV.keepPL, e]
    · simp only [go_sem, init_env', Nat.reduceEqDiff, Nat.reduceAdd, Nat.reduceMul, reduceIte, Nat.reduceLeDiff, Nat.reduceLT, Nat.reduceBEq, reduceCtorEq, winAll]
    · exact ⟨rfl, rfl⟩
  · have h : ¬ (b < 0 ∨ v.now < b) := by simpa using h
    have e : lessS b v.now = b := if_neg h
    (repeat ((first | refine WV_seq_ ?_ | refine WV_block ?_ | refine WV_ops ?_ | refine WV_skip ?_ | refine WV_exit ?_); (try simp only [go_sem, init_env', Nat.reduceEqDiff, Nat.reduceAdd, Nat.reduceMul, reduceIte, Nat.reduceLeDiff, Nat.reduceLT, Nat.reduceBEq, reduceCtorEq, hP, hprg]); (repeat (refine And.intro (by first | omega | (intros; simp_all; done) | (intros; simp_all; omega)) ?_))))
    ((try simp only [thenQ, inQ, RetQL, RetOkL, resAll, resA]); (try simp only [go_sem, init_env', Nat.reduceEqDiff, Nat.reduceAdd, Nat.reduceMul, reduceIte, Nat.reduceLeDiff, Nat.reduceLT, Nat.reduceBEq, reduceCtorEq, tupA, AV.keepP, AV.keepPL]); refine ⟨_, [.box [iv (lessS b v.now)]], rfl, KeepL_mk rfl rfl ?_ ?_ rfl, ?_⟩)
    · simp only [go_sem, init_env', Nat.reduceEqDiff, Nat.reduceAdd, Nat.reduceMul, reduceIte, Nat.reduceLeDiff, Nat.reduceLT, Nat.reduceBEq, reduceCtorEq, keepAll, Ob.keepP, AV.keepP, AV.keepPL, e]
    · simp only [go_sem, init_env', Nat.reduceEqDiff, Nat.reduceAdd, Nat.reduceMul, reduceIte, Nat.reduceLeDiff, Nat.reduceLT, Nat.reduceBEq, reduceCtorEq, winAll]
    · exact ⟨rfl, rfl⟩

def soonS (r : Route) : Int × Int := if someE r = 0 then (leastS ((wholes r).map fun p => (atHome r p).now), 0) else (0, someE r)
def soonF (r : Route) (pre : List (List Nat × Van)) : List Ob := [.box [iv (leastS (pre.map fun p => (atHome r p).now))]]
theorem someE_ok {r : Route} (h : someE r = 0) : r.ok = true ∧ wholes r ≠ [] := by
  unfold someE at h
  cases hk : r.ok with
  | false => rw [hk] at h; simp at h
  | true => rw [hk] at h; refine ⟨rfl, fun e => ?_⟩; rw [e] at h; simp at h

set_option maxHeartbeats 1000000 in
theorem soon35 (r : Route) : FSpec Try.prog 35 [r.av] (.tup [iv (soonS r).1, iv (soonS r).2]) := by
  refine FSpec_of c35 (Nat.le_refl _) (by decide) fun C hP hN hC hL => ?_
  simp only [ir35, Route.av]
  (repeat ((first | refine WV_seq_ ?_ | refine WV_block ?_ | refine WV_ops ?_ | refine WV_skip ?_ | refine WV_exit ?_); (try simp only [go_sem, init_env', Nat.reduceEqDiff, Nat.reduceAdd, Nat.reduceMul, reduceIte, Nat.reduceLeDiff, Nat.reduceLT, Nat.reduceBEq, reduceCtorEq, hP, ]); (repeat (refine And.intro (by first | omega | (intros; simp_all; done) | (intros; simp_all; omega)) ?_))))
  · refine AS_clos [4] [r.av] [] (l := soonF r []) (lf := soonF r (wholesOf r)) (r := iv (someE r)) (some61 r) rfl rfl rfl (by decide) (by decide) rfl rfl rfl rfl ?_ (soon62 r (leave r) 0 []).1 ?_ rfl ?_
    · simp only [go_sem, init_env', Nat.reduceEqDiff, Nat.reduceAdd, Nat.reduceMul, reduceIte, Nat.reduceLeDiff, Nat.reduceLT, Nat.reduceBEq, reduceCtorEq, obsLend, Ob.lend, AV.lendL, AV.lend, soonF, leastS, List.foldl_nil]
    · refine Run_pre (entW r) (soonF r) (wholesOf r) (fun p => rfl) (fun t _ => rfl) (fun pre p post hts => ?_) _ [] rfl
      have := soon62 r (atHome r p) (leastS (pre.map fun p => (atHome r p).now)) p.1
      simp only [soonF, List.map_append, List.map_cons, List.map_nil, leastS_snoc]
      exact this
    · refine ⟨_, rfl, rfl, ?_⟩
      simp only [go_sem, init_env', Nat.reduceEqDiff, Nat.reduceAdd, Nat.reduceMul, reduceIte, Nat.reduceLeDiff, Nat.reduceLT, Nat.reduceBEq, reduceCtorEq, ownBack]
      (repeat ((first | refine WV_seq_ ?_ | refine WV_block ?_ | refine WV_ops ?_ | refine WV_skip ?_ | refine WV_exit ?_); (try simp only [go_sem, init_env', Nat.reduceEqDiff, Nat.reduceAdd, Nat.reduceMul, reduceIte, Nat.reduceLeDiff, Nat.reduceLT, Nat.reduceBEq, reduceCtorEq, hP, ]); (repeat (refine And.intro (by first | omega | (intros; simp_all; done) | (intros; simp_all; omega)) ?_))))
      (refine WV_cond rfl (fun h => ?_) (fun h => ?_))
      · have h : someE r ≠ 0 := by simpa using h
        (repeat ((first | refine WV_seq_ ?_ | refine WV_block ?_ | refine WV_ops ?_ | refine WV_skip ?_ | refine WV_exit ?_); (try simp only [go_sem, init_env', Nat.reduceEqDiff, Nat.reduceAdd, Nat.reduceMul, reduceIte, Nat.reduceLeDiff, Nat.reduceLT, Nat.reduceBEq, reduceCtorEq, hP, ]); (repeat (refine And.intro (by first | omega | (intros; simp_all; done) | (intros; simp_all; omega)) ?_))))
        (refine WV_ret ?_; simp only [thenQ, inQ, RetQ, RetOk, resAll, resA]; simp only [go_sem, init_env', Nat.reduceEqDiff, Nat.reduceAdd, Nat.reduceMul, reduceIte, Nat.reduceLeDiff, Nat.reduceLT, Nat.reduceBEq, reduceCtorEq, tupA, AV.port, AV.portL, exists_eq_left', ]; (first | exact AVle.of rfl | refine AVle.of ?_ | skip))
        simp [soonS, h]
      · have h : someE r = 0 := by simpa using h
        (repeat ((first | refine WV_seq_ ?_ | refine WV_block ?_ | refine WV_ops ?_ | refine WV_skip ?_ | refine WV_exit ?_); (try simp only [go_sem, init_env', Nat.reduceEqDiff, Nat.reduceAdd, Nat.reduceMul, reduceIte, Nat.reduceLeDiff, Nat.reduceLT, Nat.reduceBEq, reduceCtorEq, hP, ]); (repeat (refine And.intro (by first | omega | (intros; simp_all; done) | (intros; simp_all; omega)) ?_))))
        (refine WV_ret ?_; simp only [thenQ, inQ, RetQ, RetOk, resAll, resA]; simp only [go_sem, init_env', Nat.reduceEqDiff, Nat.reduceAdd, Nat.reduceMul, reduceIte, Nat.reduceLeDiff, Nat.reduceLT, Nat.reduceBEq, reduceCtorEq, tupA, AV.port, AV.portL, exists_eq_left', ]; (first | exact AVle.of rfl | refine AVle.of ?_ | skip))
        simp [soonS, h, wholesOf, (someE_ok h).1]
end Go.Proofs.Ytbejgfpaokcnpaa

namespace Go.Proofs.Ytbejgfpaokcnpaa
open Go Go.V
@[reducible] def o52_0 : List Ins := [⟨(some 4), .mv (.k (.c (.int .i64 0))), none, true⟩]
@[reducible] def o52_1 : List Ins := [⟨(some 5), .mv (.k (.c (.int .i64 1440))), none, true⟩]
@[reducible] def o52_2 : List Ins := [⟨(some 8), .mv (.t 1), none, true⟩,
  ⟨(some 9), .len (.t 8), none, true⟩,
  ⟨(some 10), .bin .sub (.t 9) (.k (.c (.int .i64 1))), none, true⟩,
  ⟨(some 6), .mv (.t 10), none, true⟩]
@[reducible] def o52_3 : List Ins := [⟨(some 11), .mv (.t 6), none, true⟩,
  ⟨(some 12), .bin .geq (.t 11) (.k (.c (.int .i64 0))), none, true⟩]
@[reducible] def v52_4 : VC := (.cond (.t 12) .skip (.exit 0))
@[reducible] def o52_5 : List Ins := [⟨(some 15), .mv (.t 0), none, false⟩,
  ⟨(some 16), .nilc (.t 15), none, false⟩,
  ⟨(some 17), .fa 0 (.t 16), none, false⟩,
  ⟨(some 18), .ld true 1 (.t 17), none, false⟩,
  ⟨(some 19), .mv (.t 1), none, false⟩,
  ⟨(some 20), .mv (.t 6), none, false⟩,
  ⟨(some 21), .ia 1 (.t 19) (.t 20), none, false⟩,
  ⟨(some 22), .ld true 1 (.t 21), none, false⟩,
  ⟨(some 23), .ia 4 (.t 18) (.t 22), none, false⟩,
  ⟨(some 24), .ld false 4 (.t 23), none, false⟩,
  ⟨(some 7), .alloc [(.c (.int .i64 0)), (.c (.int .i64 0)), (.c (.int .i64 0)), (.c (.int .i64 0))], none, false⟩,
  ⟨none, .st 4 (.t 7) (.t 24), none, true⟩]
@[reducible] def o52_6 : List Ins := [⟨(some 25), .mv (.t 6), none, true⟩,
  ⟨(some 26), .mv (.t 1), none, true⟩,
  ⟨(some 27), .len (.t 26), none, true⟩,
  ⟨(some 28), .bin .sub (.t 27) (.k (.c (.int .i64 1))), none, true⟩,
  ⟨(some 29), .bin .eql (.t 25) (.t 28), none, true⟩]
@[reducible] def o52_7 : List Ins := [⟨(some 30), .fa 1 (.t 7), none, true⟩,
  ⟨(some 31), .ld true 1 (.t 30), none, true⟩,
  ⟨(some 5), .mv (.t 31), none, true⟩]
@[reducible] def o52_8 : List Ins := [⟨(some 32), .fa 1 (.t 7), none, false⟩,
  ⟨(some 33), .ld true 1 (.t 32), none, false⟩,
  ⟨(some 34), .mv (.t 5), none, false⟩,
  ⟨(some 35), .mv (.t 0), none, false⟩,
  ⟨(some 36), .nilc (.t 35), none, false⟩,
  ⟨(some 37), .fa 1 (.t 36), none, false⟩,
  ⟨(some 38), .ld true 1 (.t 37), none, false⟩,
  ⟨(some 39), .mv (.t 1), none, false⟩,
  ⟨(some 40), .mv (.t 6), none, false⟩,
  ⟨(some 41), .ia 1 (.t 39) (.t 40), none, false⟩,
  ⟨(some 42), .ld true 1 (.t 41), none, false⟩,
  ⟨(some 43), .ia 1 (.t 38) (.t 42), none, false⟩,
  ⟨(some 44), .ld true 1 (.t 43), none, false⟩,
  ⟨(some 45), .mv (.t 1), none, false⟩,
  ⟨(some 46), .mv (.t 6), none, false⟩,
  ⟨(some 47), .bin .add (.t 46) (.k (.c (.int .i64 1))), none, false⟩,
  ⟨(some 48), .ia 1 (.t 45) (.t 47), none, false⟩,
  ⟨(some 49), .ld true 1 (.t 48), none, false⟩,
  ⟨(some 50), .ia 1 (.t 44) (.t 49), none, false⟩,
  ⟨(some 51), .ld true 1 (.t 50), none, false⟩,
  ⟨(some 52), .bin .sub (.t 34) (.t 51), none, false⟩,
  ⟨(some 53), .fa 2 (.t 7), none, false⟩,
  ⟨(some 54), .ld true 1 (.t 53), none, false⟩,
  ⟨(some 55), .bin .sub (.t 52) (.t 54), none, false⟩,
  ⟨(some 56), .mm false (.t 33) (.t 55), none, true⟩,
  ⟨(some 5), .mv (.t 56), none, true⟩]
@[reducible] def o52_9 : List Ins := [⟨(some 57), .mv (.t 5), none, true⟩,
  ⟨(some 58), .fa 0 (.t 7), none, true⟩,
  ⟨(some 59), .ld true 1 (.t 58), none, true⟩,
  ⟨(some 60), .bin .lss (.t 57) (.t 59), none, true⟩]
@[reducible] def o52_10 : List Ins := [⟨(some 4), .mv (.k (.c (.int .i64 (-1)))), none, true⟩]
@[reducible] def v52_11 : VC := (.seq (.ops o52_10) .ret)
@[reducible] def v52_12 : VC := (.cond (.t 60) v52_11 .skip)
@[reducible] def v52_13 : VC := (.seq (.ops o52_9) v52_12)
@[reducible] def v52_14 : VC := (.seq (.ops o52_8) v52_13)
@[reducible] def v52_15 : VC := (.cond (.t 29) (.ops o52_7) v52_14)
@[reducible] def v52_16 : VC := (.seq (.ops o52_6) v52_15)
@[reducible] def v52_17 : VC := (.seq (.ops o52_5) v52_16)
@[reducible] def o52_18 : List Ins := [⟨(some 13), .mv (.t 6), none, true⟩,
  ⟨(some 14), .bin .sub (.t 13) (.k (.c (.int .i64 1))), none, true⟩,
  ⟨(some 6), .mv (.t 14), none, true⟩]
@[reducible] def v52_19 : VC := (.seq (.block 1 v52_17) (.ops o52_18))
@[reducible] def v52_20 : VC := (.seq (.seq (.ops o52_3) v52_4) v52_19)
-- K52_1: changed and kept: [6, 5]
@[reducible] def K52_1 : List Nat := [0, 1]
@[reducible] def v52_21 : VC := (.loop v52_20)
@[reducible] def v52_22 : VC := (.block 0 v52_21)
@[reducible] def o52_23 : List Ins := [⟨(some 61), .mv (.t 1), none, true⟩,
  ⟨(some 62), .len (.t 61), none, true⟩,
  ⟨(some 63), .bin .gtr (.t 62) (.k (.c (.int .i64 0))), none, true⟩]
@[reducible] def o52_24 : List Ins := [⟨(some 64), .mv (.t 5), none, false⟩,
  ⟨(some 65), .mv (.t 0), none, false⟩,
  ⟨(some 66), .nilc (.t 65), none, false⟩,
  ⟨(some 67), .fa 1 (.t 66), none, false⟩,
  ⟨(some 68), .ld true 1 (.t 67), none, false⟩,
  ⟨(some 69), .mv (.t 0), none, false⟩,
  ⟨(some 70), .nilc (.t 69), none, false⟩,
  ⟨(some 71), .fa 0 (.t 70), none, false⟩,
  ⟨(some 72), .ld true 1 (.t 71), none, false⟩,
  ⟨(some 73), .len (.t 72), none, false⟩,
  ⟨(some 74), .ia 1 (.t 68) (.t 73), none, false⟩,
  ⟨(some 75), .ld true 1 (.t 74), none, false⟩,
  ⟨(some 76), .mv (.t 1), none, false⟩,
  ⟨(some 77), .ia 1 (.t 76) (.k (.c (.int .i64 0))), none, false⟩,
  ⟨(some 78), .ld true 1 (.t 77), none, false⟩,
  ⟨(some 79), .ia 1 (.t 75) (.t 78), none, false⟩,
  ⟨(some 80), .ld true 1 (.t 79), none, false⟩,
  ⟨(some 81), .bin .sub (.t 64) (.t 80), none, true⟩,
  ⟨(some 82), .mm false (.k (.c (.int .i64 1440))) (.t 81), none, true⟩,
  ⟨(some 5), .mv (.t 82), none, true⟩]
@[reducible] def v52_25 : VC := (.cond (.t 63) (.ops o52_24) .skip)
@[reducible] def o52_26 : List Ins := [⟨(some 83), .mv (.t 5), none, true⟩,
  ⟨(some 4), .mv (.t 83), none, true⟩]
@[reducible] def v52_27 : VC := (.seq (.ops o52_26) .ret)
@[reducible] def v52_28 : VC := (.seq (.seq (.ops o52_23) v52_25) v52_27)
@[reducible] def v52_29 : VC := (.seq (.seq (.ops o52_2) v52_22) v52_28)
@[reducible] def v52_30 : VC := (.seq (.ops o52_1) v52_29)
def ir52 : FC := ⟨2, 84, [.t 4], (.seq (.ops o52_0) v52_30)⟩
theorem c52 : compM Try.prog [] 52 = some ir52 := by kernel_rfl



/-- The latest minute in which the first visit can begin; none: there is none. -/
def backL (r : Route) : List Nat → Option Int
  | [] => some 1440
  | [k] => some (r.s k).cl
  | k :: k' :: ks => match backL r (k' :: ks) with
    | none => none
    | some b => if min (r.s k).cl (b - r.d k k' - (r.s k).st) < (r.s k).op then none else some (min (r.s k).cl (b - r.d k k' - (r.s k).st))
def leavesS (r : Route) (t : List Nat) : Int := match backL r t with
  | none => -1
  | some b => match t with
    | [] => b
    | k :: _ => min 1440 (b - r.d r.n k)
theorem backL_some {r : Route} (hr : RouteOk r) : ∀ (t : List Nat) (b : Int), (∀ k ∈ t, k < r.n) → backL r t = some b → 0 ≤ b ∧ b ≤ 1440
  | [], b, _, h => by simp [backL] at h; omega
  | [k], b, hk, h => by
    have := hr.stop k (hk k (by simp))
    simp [backL] at h; omega
  | k :: k' :: ks, b, hk, h => by
    have hs := hr.stop k (hk k (by simp))
    simp only [backL] at h
    split at h
    · cases h
    · split at h
      · cases h
      · simp only [Option.some.injEq] at h
        omega
theorem backL_none {r : Route} : ∀ (t u : List Nat), u ≠ [] → backL r u = none → backL r (t ++ u) = none
  | [], u, _, h => h
  | [k], u :: us, _, h => by simp [backL, h]
  | k :: k' :: ks, u, hu, h => by
    have := backL_none (k' :: ks) u hu h
    simp only [List.cons_append] at this ⊢
    simp only [backL, this]

set_option maxHeartbeats 4000000 in
theorem leaves52 {r : Route} (hr : RouteOk r) {t : List Nat} (ht : ∀ k ∈ t, k < r.n) (hlen : t.length ≤ 20) : FSpec Try.prog 52 [.c (.pt r.cds), .c (nats t)] (iv (leavesS r t)) := by
  refine FSpec_of c52 (Nat.le_refl _) (by decide) fun C hP hN hC hL => ?_
  have hn7 := hr.n7
  simp only [ir52, nats]
  (repeat ((first | refine WV_seq_ ?_ | refine WV_block ?_ | refine WV_ops ?_ | refine WV_skip ?_ | refine WV_exit ?_); (try simp only [go_sem, init_env', Nat.reduceEqDiff, Nat.reduceAdd, Nat.reduceMul, reduceIte, Nat.reduceLeDiff, Nat.reduceLT, Nat.reduceBEq, reduceCtorEq, hP, ints]); (repeat (refine And.intro (by first | omega | (intros; simp_all; done) | (intros; simp_all; omega)) ?_))))
  rw [w64 (by omega) (by omega)]
  (repeat ((first | refine WV_seq_ ?_ | refine WV_block ?_ | refine WV_ops ?_ | refine WV_skip ?_ | refine WV_exit ?_); (try simp only [go_sem, init_env', Nat.reduceEqDiff, Nat.reduceAdd, Nat.reduceMul, reduceIte, Nat.reduceLeDiff, Nat.reduceLT, Nat.reduceBEq, reduceCtorEq, hP, ]); (repeat (refine And.intro (by first | omega | (intros; simp_all; done) | (intros; simp_all; omega)) ?_))))
  refine WV_loopK K52_1 [] (fun s : Nat × Int => s.1 ≤ t.length ∧ backL r (t.drop s.1) = some s.2) (fun s => s.1) (fun s => [(6, iv ((s.1 : Int) - 1)), (5, iv s.2)]) (fun _ => []) (t.length, 1440) ⟨Nat.le_refl _, by simp [backL]⟩ ?_ ?_
  · (refine Sub_of (by simp only [go_sem, init_env', Nat.reduceEqDiff, Nat.reduceAdd, Nat.reduceMul, reduceIte, Nat.reduceLeDiff, Nat.reduceLT, Nat.reduceBEq, reduceCtorEq]; ((repeat' (first | exact EnvLe_e0 _ _ | refine EnvLe_upd ?_ ?_)) <;> ((try simp only [upd_app, e0_app, o0_app, Nat.reduceEqDiff, reduceIte]); first | exact AWk.refl _ _ | exact AWk.int (by omega) | exact AWk.int (by rw [w64 (by omega) (by omega)]; omega) | exact AWk.grow rfl | exact AWk.nil _ | exact AWk.of (by simp)))) (by simp only [go_sem, init_env', Nat.reduceEqDiff, Nat.reduceAdd, Nat.reduceMul, reduceIte, Nat.reduceLeDiff, Nat.reduceLT, Nat.reduceBEq, reduceCtorEq]; ((repeat' (first | exact ObjLe_o0 _ | exact ObjLe.rfl' _ | refine ObjLe_same ?_ | refine ObjLe_upd ?_ ?_ | refine ObjLe_new rfl ?_)) <;> rfl)))
  · rintro ⟨m, b⟩ ⟨hm, hb⟩
    simp only at hm hb
    have hbd := backL_some hr _ _ (fun k hk => ht k (List.mem_of_mem_drop hk)) hb
    simp only [go_sem, init_env', Nat.reduceEqDiff, Nat.reduceAdd, Nat.reduceMul, reduceIte, Nat.reduceLeDiff, Nat.reduceLT, Nat.reduceBEq, reduceCtorEq]
    (repeat ((first | refine WV_seq_ ?_ | refine WV_block ?_ | refine WV_ops ?_ | refine WV_skip ?_ | refine WV_exit ?_); (try simp only [go_sem, init_env', Nat.reduceEqDiff, Nat.reduceAdd, Nat.reduceMul, reduceIte, Nat.reduceLeDiff, Nat.reduceLT, Nat.reduceBEq, reduceCtorEq, hP, ]); (repeat (refine And.intro (by first | omega | (intros; simp_all; done) | (intros; simp_all; omega)) ?_))))
    (refine WV_cond rfl (fun h => ?_) (fun h => ?_))
    · obtain ⟨k, rfl⟩ : ∃ k, m = k + 1 := by
        cases m with
        | zero => simp at h
        | succ k => exact ⟨k, rfl⟩
      have hkt : k < t.length := by omega
      have hkn : t[k] < r.n := ht _ (List.getElem_mem hkt)
      have hd1 : t[k] < r.stops.length := hkn
      have e1 : r.stops[t[k]] = r.s t[k] := by simp [Route.s, hd1]
      have hs := hr.stop _ hkn
      have ek : (((k + 1 : Nat) : Int) - 1) = (k : Int) := by omega
      rw [ek]
      clear h
      have hkl : k < (t.map fun (n : Nat) => (n : Int)).length := by simpa using hkt
      (repeat ((first | refine WV_seq_ ?_ | refine WV_block ?_ | refine WV_ops ?_ | refine WV_skip ?_ | refine WV_exit ?_); (try simp only [go_sem, init_env', Nat.reduceEqDiff, Nat.reduceAdd, Nat.reduceMul, reduceIte, Nat.reduceLeDiff, Nat.reduceLT, Nat.reduceBEq, reduceCtorEq, hP, Int.toNat_natCast, map_getD hkl, map_getD hd1, List.getElem_map, Route.cds, stopsC, Stop.cds, e1, Int.ofNat_lt, hkt, hd1, Int.natCast_nonneg]); (repeat (refine And.intro (by first | omega | (intros; simp_all; done) | (intros; simp_all; omega)) ?_))))
      rw [w64 (by omega) (by omega)]
      (repeat ((first | refine WV_seq_ ?_ | refine WV_block ?_ | refine WV_ops ?_ | refine WV_skip ?_ | refine WV_exit ?_); (try simp only [go_sem, init_env', Nat.reduceEqDiff, Nat.reduceAdd, Nat.reduceMul, reduceIte, Nat.reduceLeDiff, Nat.reduceLT, Nat.reduceBEq, reduceCtorEq, hP, ]); (repeat (refine And.intro (by first | omega | (intros; simp_all; done) | (intros; simp_all; omega)) ?_))))
      (refine WV_cond rfl (fun h => ?_) (fun h => ?_))
      · have h : k + 1 = t.length := by simp at h; omega
        have hd : t.drop k = [t[k]] := by rw [List.drop_eq_getElem_cons hkt, h, List.drop_length]
        (repeat ((first | refine WV_seq_ ?_ | refine WV_block ?_ | refine WV_ops ?_ | refine WV_skip ?_ | refine WV_exit ?_); (try simp only [go_sem, init_env', Nat.reduceEqDiff, Nat.reduceAdd, Nat.reduceMul, reduceIte, Nat.reduceLeDiff, Nat.reduceLT, Nat.reduceBEq, reduceCtorEq, hP, ]); (repeat (refine And.intro (by first | omega | (intros; simp_all; done) | (intros; simp_all; omega)) ?_))))
        rw [w64 (by omega) (by omega)]
        (repeat ((first | refine WV_seq_ ?_ | refine WV_block ?_ | refine WV_ops ?_ | refine WV_skip ?_ | refine WV_exit ?_); (try simp only [go_sem, init_env', Nat.reduceEqDiff, Nat.reduceAdd, Nat.reduceMul, reduceIte, Nat.reduceLeDiff, Nat.reduceLT, Nat.reduceBEq, reduceCtorEq, hP, ]); (repeat (refine And.intro (by first | omega | (intros; simp_all; done) | (intros; simp_all; omega)) ?_))))
        refine ⟨(k, (r.s t[k]).cl), ⟨by omega, by rw [hd]; rfl⟩, by simp only; omega, ?_⟩
        (refine Sub_of (by simp only [go_sem, init_env', Nat.reduceEqDiff, Nat.reduceAdd, Nat.reduceMul, reduceIte, Nat.reduceLeDiff, Nat.reduceLT, Nat.reduceBEq, reduceCtorEq]; ((repeat' (first | exact EnvLe_e0 _ _ | refine EnvLe_upd ?_ ?_)) <;> ((try simp only [upd_app, e0_app, o0_app, Nat.reduceEqDiff, reduceIte]); first | exact AWk.refl _ _ | exact AWk.int (by omega) | exact AWk.int (by rw [w64 (by omega) (by omega)]; omega) | exact AWk.grow rfl | exact AWk.nil _ | exact AWk.of (by simp)))) (by simp only [go_sem, init_env', Nat.reduceEqDiff, Nat.reduceAdd, Nat.reduceMul, reduceIte, Nat.reduceLeDiff, Nat.reduceLT, Nat.reduceBEq, reduceCtorEq]; ((repeat' (first | exact ObjLe_o0 _ | exact ObjLe.rfl' _ | refine ObjLe_same ?_ | refine ObjLe_upd ?_ ?_ | refine ObjLe_new rfl ?_)) <;> rfl)))
      · have h : k + 1 < t.length := by simp at h; omega
        have hd : t.drop k = t[k] :: t[k + 1] :: t.drop (k + 2) := by rw [List.drop_eq_getElem_cons hkt, List.drop_eq_getElem_cons h]
        have hd' : t.drop (k + 1) = t[k + 1] :: t.drop (k + 2) := by rw [List.drop_eq_getElem_cons h]
        have hkn' : t[k + 1] < r.n := ht _ (List.getElem_mem h)
        have hc := hr.cell t[k] t[k + 1] (by omega) (by omega)
        have hkl' : k + 1 < (t.map fun (n : Nat) => (n : Int)).length := by simpa using h
        have hd2 : t[k] < r.drive.length := by rw [hr.dl]; omega
        have hrow := hr.row t[k] (by omega)
        have e2 : r.drive.getD t[k] [] = r.drive[t[k]] := by simp [hd2]
        rw [e2] at hrow
        have hd3 : t[k + 1] < r.drive[t[k]].length := by omega
        have e3 : r.drive[t[k]][t[k + 1]] = r.d t[k] t[k + 1] := by simp [Route.d, hd2, hd3]
        have hw1 : IntKind.i64.wrap ((k : Int) + 1) = ((k + 1 : Nat) : Int) := by rw [w64 (by omega) (by omega)]; omega
        have hw2 := w64 (n := b - r.d t[k] t[k + 1]) (by omega) (by omega)
        have hw3 := w64 (n := b - r.d t[k] t[k + 1] - (r.s t[k]).st) (by omega) (by omega)
        have hw4 := w64 (n := (k : Int) - 1) (by omega) (by omega)
        (repeat ((first | refine WV_seq_ ?_ | refine WV_block ?_ | refine WV_ops ?_ | refine WV_skip ?_ | refine WV_exit ?_); (try simp only [go_sem, init_env', Nat.reduceEqDiff, Nat.reduceAdd, Nat.reduceMul, reduceIte, Nat.reduceLeDiff, Nat.reduceLT, Nat.reduceBEq, reduceCtorEq, hP, hw1, hw2, hw3, Int.toNat_natCast, map_getD hkl, map_getD hkl', map_getD hd1, map_getD hd2, map_getD hd3, e3, ints, driveC, List.getElem_map, Route.cds, stopsC, Stop.cds, e1, Int.ofNat_lt, hkt, h, hd1, hd2, hd3, Int.natCast_nonneg]); (repeat (refine And.intro (by first | omega | (intros; simp_all; done) | (intros; simp_all; omega)) ?_))))
        (refine WV_cond rfl (fun h => ?_) (fun h => ?_))
        · have h' : min (r.s t[k]).cl (b - r.d t[k] t[k + 1] - (r.s t[k]).st) < (r.s t[k]).op := by simpa using h
          have hbn : backL r (t.drop k) = none := by rw [hd]; rw [hd'] at hb; simp only [backL, hb]; rw [if_pos h']
          have hbt : backL r t = none := by
            have := backL_none (t.take k) (t.drop k) (by intro e; rw [hd] at e; cases e) hbn
            rwa [List.take_append_drop] at this
          have e : leavesS r t = -1 := by simp only [leavesS, hbt]
          rw [e]
          (repeat ((first | refine WV_seq_ ?_ | refine WV_block ?_ | refine WV_ops ?_ | refine WV_skip ?_ | refine WV_exit ?_); (try simp only [go_sem, init_env', Nat.reduceEqDiff, Nat.reduceAdd, Nat.reduceMul, reduceIte, Nat.reduceLeDiff, Nat.reduceLT, Nat.reduceBEq, reduceCtorEq, hP, ]); (repeat (refine And.intro (by first | omega | (intros; simp_all; done) | (intros; simp_all; omega)) ?_))))
          (refine WV_ret ?_; simp only [thenQ, inQ, RetQ, RetOk, resAll, resA]; simp only [go_sem, init_env', Nat.reduceEqDiff, Nat.reduceAdd, Nat.reduceMul, reduceIte, Nat.reduceLeDiff, Nat.reduceLT, Nat.reduceBEq, reduceCtorEq, tupA, AV.port, AV.portL, exists_eq_left', ]; (first | exact AVle.of rfl | refine AVle.of ?_ | skip))
        · have h' : ¬ min (r.s t[k]).cl (b - r.d t[k] t[k + 1] - (r.s t[k]).st) < (r.s t[k]).op := by simpa using h
          have hbn : backL r (t.drop k) = some (min (r.s t[k]).cl (b - r.d t[k] t[k + 1] - (r.s t[k]).st)) := by rw [hd]; rw [hd'] at hb; simp only [backL, hb]; rw [if_neg h']
          (repeat ((first | refine WV_seq_ ?_ | refine WV_block ?_ | refine WV_ops ?_ | refine WV_skip ?_ | refine WV_exit ?_); (try simp only [go_sem, init_env', Nat.reduceEqDiff, Nat.reduceAdd, Nat.reduceMul, reduceIte, Nat.reduceLeDiff, Nat.reduceLT, Nat.reduceBEq, reduceCtorEq, hP, hw4]); (repeat (refine And.intro (by first | omega | (intros; simp_all; done) | (intros; simp_all; omega)) ?_))))
          refine ⟨(k, min (r.s t[k]).cl (b - r.d t[k] t[k + 1] - (r.s t[k]).st)), ⟨by omega, hbn⟩, by simp only; omega, ?_⟩
          (refine Sub_of (by simp only [go_sem, init_env', Nat.reduceEqDiff, Nat.reduceAdd, Nat.reduceMul, reduceIte, Nat.reduceLeDiff, Nat.reduceLT, Nat.reduceBEq, reduceCtorEq]; ((repeat' (first | exact EnvLe_e0 _ _ | refine EnvLe_upd ?_ ?_)) <;> ((try simp only [upd_app, e0_app, o0_app, Nat.reduceEqDiff, reduceIte]); first | exact AWk.refl _ _ | exact AWk.int (by omega) | exact AWk.int (by rw [w64 (by omega) (by omega)]; omega) | exact AWk.grow rfl | exact AWk.nil _ | exact AWk.of (by simp)))) (by simp only [go_sem, init_env', Nat.reduceEqDiff, Nat.reduceAdd, Nat.reduceMul, reduceIte, Nat.reduceLeDiff, Nat.reduceLT, Nat.reduceBEq, reduceCtorEq]; ((repeat' (first | exact ObjLe_o0 _ | exact ObjLe.rfl' _ | refine ObjLe_same ?_ | refine ObjLe_upd ?_ ?_ | refine ObjLe_new rfl ?_)) <;> rfl)))
    · have h : m = 0 := by simp at h; omega
      subst h
      simp only [List.drop_zero] at hb
      (repeat ((first | refine WV_seq_ ?_ | refine WV_block ?_ | refine WV_ops ?_ | refine WV_skip ?_ | refine WV_exit ?_); (try simp only [go_sem, init_env', Nat.reduceEqDiff, Nat.reduceAdd, Nat.reduceMul, reduceIte, Nat.reduceLeDiff, Nat.reduceLT, Nat.reduceBEq, reduceCtorEq, hP, ]); (repeat (refine And.intro (by first | omega | (intros; simp_all; done) | (intros; simp_all; omega)) ?_))))
      (refine WV_cond rfl (fun h => ?_) (fun h => ?_))
      · cases t with
        | nil => simp at h
        | cons k ks =>
          have hkn : k < r.n := ht _ (by simp)
          have e : leavesS r (k :: ks) = min 1440 (b - r.d r.n k) := by simp only [leavesS, hb]
          have hc := hr.cell r.n k (by omega) (by omega)
          have hd2 : r.stops.length < r.drive.length := by rw [hr.dl]; exact Nat.lt_succ_self _
          have hrow := hr.row r.n (by omega)
          have e2 : r.drive.getD r.n [] = r.drive[r.stops.length] := by simp [Route.n, hd2]
          rw [e2] at hrow
          have hd3 : k < r.drive[r.stops.length].length := by omega
          have e3 : r.drive[r.stops.length][k] = r.d r.n k := by simp [Route.d, Route.n, hd2, hd3]
          have hw := w64 (n := b - r.d r.n k) (by omega) (by omega)
          rw [e]
          (repeat ((first | refine WV_seq_ ?_ | refine WV_block ?_ | refine WV_ops ?_ | refine WV_skip ?_ | refine WV_exit ?_); (try simp only [go_sem, init_env', Nat.reduceEqDiff, Nat.reduceAdd, Nat.reduceMul, reduceIte, Nat.reduceLeDiff, Nat.reduceLT, Nat.reduceBEq, reduceCtorEq, hP, hw, Int.toNat_natCast, map_getD hd2, map_getD hd3, e3, ints, driveC, Route.cds, stopsC, Int.ofNat_lt, hd2, hd3, Int.natCast_nonneg]); (repeat (refine And.intro (by first | omega | (intros; simp_all; done) | (intros; simp_all; omega)) ?_))))
          simp only [go_sem, init_env', Nat.reduceEqDiff, Nat.reduceAdd, Nat.reduceMul, reduceIte, Nat.reduceLeDiff, Nat.reduceLT, Nat.reduceBEq, reduceCtorEq, hw, Int.toNat_natCast, map_getD hd2, map_getD hd3, e3, ints, driveC, Route.cds, stopsC, Int.ofNat_lt, hd2, hd3, Int.natCast_nonneg]
          (repeat ((first | refine WV_seq_ ?_ | refine WV_block ?_ | refine WV_ops ?_ | refine WV_skip ?_ | refine WV_exit ?_); (try simp only [go_sem, init_env', Nat.reduceEqDiff, Nat.reduceAdd, Nat.reduceMul, reduceIte, Nat.reduceLeDiff, Nat.reduceLT, Nat.reduceBEq, reduceCtorEq, hP, ]); (repeat (refine And.intro (by first | omega | (intros; simp_all; done) | (intros; simp_all; omega)) ?_))))
          (refine WV_ret ?_; simp only [thenQ, inQ, RetQ, RetOk, resAll, resA]; simp only [go_sem, init_env', Nat.reduceEqDiff, Nat.reduceAdd, Nat.reduceMul, reduceIte, Nat.reduceLeDiff, Nat.reduceLT, Nat.reduceBEq, reduceCtorEq, tupA, AV.port, AV.portL, exists_eq_left', ]; (first | exact AVle.of rfl | refine AVle.of ?_ | skip))
      · have e : t = [] := by cases t with | nil => rfl | cons a l => simp at h
        subst e
        simp only [backL, Option.some.injEq] at hb
        subst hb
        (repeat ((first | refine WV_seq_ ?_ | refine WV_block ?_ | refine WV_ops ?_ | refine WV_skip ?_ | refine WV_exit ?_); (try simp only [go_sem, init_env', Nat.reduceEqDiff, Nat.reduceAdd, Nat.reduceMul, reduceIte, Nat.reduceLeDiff, Nat.reduceLT, Nat.reduceBEq, reduceCtorEq, hP, ]); (repeat (refine And.intro (by first | omega | (intros; simp_all; done) | (intros; simp_all; omega)) ?_))))
        (refine WV_ret ?_; simp only [thenQ, inQ, RetQ, RetOk, resAll, resA]; simp only [go_sem, init_env', Nat.reduceEqDiff, Nat.reduceAdd, Nat.reduceMul, reduceIte, Nat.reduceLeDiff, Nat.reduceLT, Nat.reduceBEq, reduceCtorEq, tupA, AV.port, AV.portL, exists_eq_left', ]; (first | exact AVle.of rfl | refine AVle.of ?_ | skip))
end Go.Proofs.Ytbejgfpaokcnpaa

namespace Go.Proofs.Ytbejgfpaokcnpaa
open Go Go.V
@[reducible] def o51_0 : List Ins := [⟨(some 5), .box 4 (.t 1), none, true⟩]
@[reducible] def t51_1 : OT := (.cons ⟨(some 7), .mv (.t 0), none, false⟩
  (.br [(.cons ⟨(some 6), .ld true 1 (.t 2), none, false⟩
    (.cons ⟨(some 8), .call (.k (.fn 52 [])) [(.t 3), (.t 7)], none, true⟩
    (.cons ⟨(some 9), .mm true (.t 6) (.t 8), none, true⟩
    (.cons ⟨none, .st 1 (.t 2) (.t 9), none, true⟩
    .nil)))), (.cons ⟨(some 8), .call (.k (.fn 52 [])) [(.t 3), (.t 7)], none, true⟩
    (.cons ⟨(some 6), .ld true 1 (.t 2), none, false⟩
    (.cons ⟨(some 9), .mm true (.t 6) (.t 8), none, true⟩
    (.cons ⟨none, .st 1 (.t 2) (.t 9), none, true⟩
    .nil))))]))
def ir51 : FC := ⟨4, 10, [], (.seq (.ops o51_0) (.drw t51_1))⟩
@[reducible] def o15_0 : List Ins := [⟨(some 1), .box 3 (.t 0), none, true⟩,
  ⟨(some 2), .mv (.k (.c (.int .i64 0))), none, true⟩,
  ⟨(some 3), .mv (.k (.c (.int .i64 0))), none, true⟩]
@[reducible] def o15_1 : List Ins := [⟨(some 7), .ld false 3 (.t 1), none, true⟩,
  ⟨(some 8), .call (.k (.fn 26 [])) [(.t 7)], none, true⟩,
  ⟨(some 4), .mv (.t 8), none, true⟩]
@[reducible] def o15_2 : List Ins := [⟨(some 9), .mv (.t 4), none, true⟩,
  ⟨(some 10), .bin .neq (.t 9) (.k (.c (.int .i64 0))), none, true⟩]
@[reducible] def o15_3 : List Ins := [⟨(some 11), .mv (.t 4), none, true⟩,
  ⟨(some 2), .mv (.k (.c (.int .i64 0))), none, true⟩,
  ⟨(some 3), .mv (.t 11), none, true⟩]
@[reducible] def v15_4 : VC := (.seq (.ops o15_3) .ret)
@[reducible] def v15_5 : VC := (.cond (.t 10) v15_4 .skip)
@[reducible] def v15_6 : VC := (.seq (.ops o15_2) v15_5)
@[reducible] def o15_7 : List Ins := [⟨(some 5), .alloc [(.c (.int .i64 0))], none, true⟩,
  ⟨none, .st 1 (.t 5) (.k (.c (.int .i64 (-1)))), none, true⟩]
@[reducible] def o15_8 : List Ins := [⟨(some 12), .ld false 3 (.t 1), none, true⟩,
  ⟨(some 6), .alloc [(.c (.raw (.slice none 0 0))), (.c (.raw (.slice none 0 0))), (.c (.int .i64 0))], none, true⟩,
  ⟨none, .st 3 (.t 6) (.t 12), none, true⟩]
@[reducible] def o15_9 : List Ins := [⟨(some 13), .fa 2 (.t 6), none, true⟩,
  ⟨none, .st 1 (.t 13) (.k (.c (.int .i64 0))), none, true⟩]
@[reducible] def o15_10 : List Ins := [⟨(some 14), .mkfn 51 [(.t 5), (.t 1)], none, true⟩,
  ⟨(some 15), .call (.k (.fn 50 [])) [(.t 6), (.t 14)], none, true⟩]
@[reducible] def o15_11 : List Ins := [⟨(some 16), .ld true 1 (.t 5), none, true⟩,
  ⟨(some 17), .bin .lss (.t 16) (.k (.c (.int .i64 0))), none, true⟩]
@[reducible] def o15_12 : List Ins := [⟨(some 2), .mv (.k (.c (.int .i64 0))), none, true⟩,
  ⟨(some 3), .mv (.k (.c (.int .i64 3))), none, true⟩]
@[reducible] def v15_13 : VC := (.seq (.ops o15_12) .ret)
@[reducible] def v15_14 : VC := (.cond (.t 17) v15_13 .skip)
@[reducible] def o15_15 : List Ins := [⟨(some 18), .ld true 1 (.t 5), none, true⟩,
  ⟨(some 2), .mv (.t 18), none, true⟩,
  ⟨(some 3), .mv (.k (.c (.int .i64 0))), none, true⟩]
@[reducible] def v15_16 : VC := (.seq (.ops o15_15) .ret)
@[reducible] def v15_17 : VC := (.seq (.seq (.ops o15_11) v15_14) v15_16)
@[reducible] def v15_18 : VC := (.seq (.ops o15_10) v15_17)
@[reducible] def v15_19 : VC := (.seq (.ops o15_9) v15_18)
@[reducible] def v15_20 : VC := (.seq (.ops o15_8) v15_19)
@[reducible] def v15_21 : VC := (.seq (.ops o15_7) v15_20)
@[reducible] def v15_22 : VC := (.seq (.seq (.ops o15_1) v15_6) v15_21)
def ir15 : FC := ⟨1, 19, [.t 2, .t 3], (.seq (.ops o15_0) v15_22)⟩
theorem c51 : compM Try.prog [8] 51 = some ir51 := by kernel_rfl
theorem c15 : compM Try.prog [] 15 = some ir15 := by kernel_rfl



def zero (r : Route) : Route := { r with start := 0 }
theorem zero_ok {r : Route} (hr : RouteOk r) : RouteOk (zero r) := ⟨hr.n7, hr.dl, by simp [zero], hr.stop, hr.row, hr.cell, hr.diag⟩

theorem elemsV_win {own : Nat → Ob} {n cap : Nat} {t : List Nat} (h : own n = .win (cellsT t)) : AV.elemsV own (.vw 1 n 0 t.length cap) = some (1, (t.map fun (k : Nat) => (k : Int)).map fun n => [CD.int .i64 n]) :=
  elemsV_T (t := t) (junk := []) (by rw [h]; simp [Ob.cellsR]) rfl

set_option maxHeartbeats 1000000 in
theorem late51 {r : Route} (hr : RouteOk r) (v : Van) (b : Int) {t : List Nat} (ht : ∀ k ∈ t, k < r.n) (hlen : t.length ≤ r.n) : FSpecL Try.prog 51 [.vw 1 2000 0 t.length r.n, vanv (zero r) v, .bp 1000 0, .c (.pt r.cds)] [.box [iv b]] [cellsT t] (fun res l' => res = .tup [] ∧ l' = [.box [iv (max b (leavesS r t))]]) := by
  have hprg : ∀ d, AV.prgL d (cellsT t) = cellsT t := fun d => prgL_pure d (cellsT_pure _)
  have hn7 := hr.n7
  refine FSpecL_of c51 (by simp) (Nat.le_refl _) (by decide) (by decide) fun C hP hN hC hL => ?_; rw [init_env', ownW_upd (by simp)]; simp only [ir51, updL, updLo, List.map_nil, List.map_cons, Nat.reduceAdd, vanv]
  (repeat ((first | refine WV_seq_ ?_ | refine WV_block ?_ | refine WV_ops ?_ | refine WV_skip ?_ | refine WV_exit ?_); (try simp only [go_sem, init_env', Nat.reduceEqDiff, Nat.reduceAdd, Nat.reduceMul, reduceIte, Nat.reduceLeDiff, Nat.reduceLT, Nat.reduceBEq, reduceCtorEq, hP, hprg]); (repeat (refine And.intro (by first | omega | (intros; simp_all; done) | (intros; simp_all; omega)) ?_))))
  (refine WV_drw ?_; simp only [go_sem, init_env', Nat.reduceEqDiff, Nat.reduceAdd, Nat.reduceMul, reduceIte, Nat.reduceLeDiff, Nat.reduceLT, Nat.reduceBEq, reduceCtorEq, hP, hprg]; (repeat' (refine And.intro ?_ ?_)))
  all_goals
    refine AS_vol (leaves52 hr ht (by omega)) rfl rfl rfl rfl ?_ rfl ?_
    · simp only [go_sem, init_env', Nat.reduceEqDiff, Nat.reduceAdd, Nat.reduceMul, reduceIte, Nat.reduceLeDiff, Nat.reduceLT, Nat.reduceBEq, reduceCtorEq, AV.vportL, AV.vport]
      rw [elemsV_win (t := t) rfl]
      rfl
    · simp only [go_sem, init_env', Nat.reduceEqDiff, Nat.reduceAdd, Nat.reduceMul, reduceIte, Nat.reduceLeDiff, Nat.reduceLT, Nat.reduceBEq, reduceCtorEq, hP, hprg]
      (repeat ((first | refine WV_seq_ ?_ | refine WV_block ?_ | refine WV_ops ?_ | refine WV_skip ?_ | refine WV_exit ?_); (try simp only [go_sem, init_env', Nat.reduceEqDiff, Nat.reduceAdd, Nat.reduceMul, reduceIte, Nat.reduceLeDiff, Nat.reduceLT, Nat.reduceBEq, reduceCtorEq, hP, hprg]); (repeat (refine And.intro (by first | omega | (intros; simp_all; done) | (intros; simp_all; omega)) ?_))))
      ((try simp only [thenQ, inQ, RetQL, RetOkL, resAll, resA]); (try simp only [go_sem, init_env', Nat.reduceEqDiff, Nat.reduceAdd, Nat.reduceMul, reduceIte, Nat.reduceLeDiff, Nat.reduceLT, Nat.reduceBEq, reduceCtorEq, tupA, AV.keepP, AV.keepPL]); refine ⟨_, [.box [iv (max b (leavesS r t))]], rfl, KeepL_mk rfl rfl ?_ ?_ rfl, ?_⟩)
      · simp only [go_sem, init_env', Nat.reduceEqDiff, Nat.reduceAdd, Nat.reduceMul, reduceIte, Nat.reduceLeDiff, Nat.reduceLT, Nat.reduceBEq, reduceCtorEq, keepAll, Ob.keepP, AV.keepP, AV.keepPL]
      · simp only [go_sem, init_env', Nat.reduceEqDiff, Nat.reduceAdd, Nat.reduceMul, reduceIte, Nat.reduceLeDiff, Nat.reduceLT, Nat.reduceBEq, reduceCtorEq, winAll]
      · exact ⟨rfl, rfl⟩

def latestB (r : Route) (l : List (List Nat × Van)) : Int := (l.map fun p => leavesS r p.1).foldl max (-1)
theorem latestB_snoc (r : Route) (l : List (List Nat × Van)) (p : List Nat × Van) : latestB r (l ++ [p]) = max (latestB r l) (leavesS r p.1) := by simp [latestB]
def latestS (r : Route) : Int × Int := if r.ok then (if latestB r (wholes (zero r)) < 0 then (0, 3) else (latestB r (wholes (zero r)), 0)) else (0, 80)

set_option maxHeartbeats 1000000 in
theorem latest15 (r : Route) : FSpec Try.prog 15 [r.av] (.tup [iv (latestS r).1, iv (latestS r).2]) := by
  refine FSpec_of c15 (Nat.le_refl _) (by decide) fun C hP hN hC hL => ?_
  simp only [ir15, Route.av]
  (repeat ((first | refine WV_seq_ ?_ | refine WV_block ?_ | refine WV_ops ?_ | refine WV_skip ?_ | refine WV_exit ?_); (try simp only [go_sem, init_env', Nat.reduceEqDiff, Nat.reduceAdd, Nat.reduceMul, reduceIte, Nat.reduceLeDiff, Nat.reduceLT, Nat.reduceBEq, reduceCtorEq, hP, ]); (repeat (refine And.intro (by first | omega | (intros; simp_all; done) | (intros; simp_all; omega)) ?_))))
  (refine AS_pure (rcheck_spec r) rfl rfl rfl rfl rfl ?_; simp only [go_sem, init_env', Nat.reduceEqDiff, Nat.reduceAdd, Nat.reduceMul, reduceIte, Nat.reduceLeDiff, Nat.reduceLT, Nat.reduceBEq, reduceCtorEq, hP, Route.av]; (repeat (refine And.intro (by first | omega | (intros; simp_all; done) | (intros; simp_all; omega)) ?_)); (repeat ((first | refine WV_seq_ ?_ | refine WV_block ?_ | refine WV_ops ?_ | refine WV_skip ?_ | refine WV_exit ?_); (try simp only [go_sem, init_env', Nat.reduceEqDiff, Nat.reduceAdd, Nat.reduceMul, reduceIte, Nat.reduceLeDiff, Nat.reduceLT, Nat.reduceBEq, reduceCtorEq, hP, Route.av]); (repeat (refine And.intro (by first | omega | (intros; simp_all; done) | (intros; simp_all; omega)) ?_)))))
  by_cases hok : r.ok = true
  · have hr := Route.ok_spec hok
    simp only [hok, if_true]
    (refine WV_cond rfl (fun h => ?_) (fun h => ?_))
    · simp at h
    · (refine WV_skip ?_; simp only [go_sem, init_env', Nat.reduceEqDiff, Nat.reduceAdd, Nat.reduceMul, reduceIte, Nat.reduceLeDiff, Nat.reduceLT, Nat.reduceBEq, reduceCtorEq])
      (refine WV_seq_ (WV_ops ?_); simp only [go_sem, init_env', Nat.reduceEqDiff, Nat.reduceAdd, Nat.reduceMul, reduceIte, Nat.reduceLeDiff, Nat.reduceLT, Nat.reduceBEq, reduceCtorEq, hP, ]; (repeat (refine And.intro (by first | omega | (intros; simp_all; done) | (intros; simp_all; omega)) ?_)))
      (refine WV_seq_ (WV_ops ?_); simp only [go_sem, init_env', Nat.reduceEqDiff, Nat.reduceAdd, Nat.reduceMul, reduceIte, Nat.reduceLeDiff, Nat.reduceLT, Nat.reduceBEq, reduceCtorEq, hP, ]; (repeat (refine And.intro (by first | omega | (intros; simp_all; done) | (intros; simp_all; omega)) ?_)))
      (refine WV_seq_ (WV_ops ?_); simp only [go_sem, init_env', Nat.reduceEqDiff, Nat.reduceAdd, Nat.reduceMul, reduceIte, Nat.reduceLeDiff, Nat.reduceLT, Nat.reduceBEq, reduceCtorEq, hP, ]; (repeat (refine And.intro (by first | omega | (intros; simp_all; done) | (intros; simp_all; omega)) ?_)))
      refine WV_freeze 1 (ds := r.cds) rfl rfl ?_
      simp only [go_sem, init_env', Nat.reduceEqDiff, Nat.reduceAdd, Nat.reduceMul, reduceIte, Nat.reduceLeDiff, Nat.reduceLT, Nat.reduceBEq, reduceCtorEq]
      refine WV_freeze 6 (ds := (zero r).cds) rfl rfl ?_
      simp only [go_sem, init_env', Nat.reduceEqDiff, Nat.reduceAdd, Nat.reduceMul, reduceIte, Nat.reduceLeDiff, Nat.reduceLT, Nat.reduceBEq, reduceCtorEq]
      (repeat ((first | refine WV_seq_ ?_ | refine WV_block ?_ | refine WV_ops ?_ | refine WV_skip ?_ | refine WV_exit ?_); (try simp only [go_sem, init_env', Nat.reduceEqDiff, Nat.reduceAdd, Nat.reduceMul, reduceIte, Nat.reduceLeDiff, Nat.reduceLT, Nat.reduceBEq, reduceCtorEq, hP, ]); (repeat (refine And.intro (by first | omega | (intros; simp_all; done) | (intros; simp_all; omega)) ?_))))
      refine AS_clos [5] [.c (.pt (zero r).cds)] [] (l := [.box [iv (latestB r [])]]) (lf := [.box [iv (latestB r (wholes (zero r)))]]) (r := iv ((wholes (zero r)).length : Int)) (whole50 (zero_ok hr)) rfl rfl rfl (by decide) (by decide) rfl rfl rfl rfl ?_ (late51 hr (leave r) 0 (t := []) (by simp) (by simp)).1 ?_ rfl ?_
      · simp only [go_sem, init_env', Nat.reduceEqDiff, Nat.reduceAdd, Nat.reduceMul, reduceIte, Nat.reduceLeDiff, Nat.reduceLT, Nat.reduceBEq, reduceCtorEq, obsLend, Ob.lend, AV.lendL, AV.lend, latestB, List.foldl_nil]
      · refine Run_pre (entW (zero r)) (fun pre => [.box [iv (latestB r pre)]]) (wholes (zero r)) (fun p => rfl) (fun t _ => rfl) (fun pre p post hts => ?_) _ [] rfl
        have hp : p ∈ goods (zero r) := by
          have : p ∈ wholes (zero r) := by rw [hts]; simp
          exact (List.mem_filter.1 this).1
        have hpo := goods_ok (zero_ok hr) p hp
        have hpl := goods_len (zero_ok hr) hp
        have := late51 hr (atHome (zero r) p) (latestB r pre) hpo.2.1 hpl
        simp only [latestB_snoc]
        exact this
      · refine ⟨_, rfl, rfl, ?_⟩
        simp only [go_sem, init_env', Nat.reduceEqDiff, Nat.reduceAdd, Nat.reduceMul, reduceIte, Nat.reduceLeDiff, Nat.reduceLT, Nat.reduceBEq, reduceCtorEq, ownBack]
        (repeat ((first | refine WV_seq_ ?_ | refine WV_block ?_ | refine WV_ops ?_ | refine WV_skip ?_ | refine WV_exit ?_); (try simp only [go_sem, init_env', Nat.reduceEqDiff, Nat.reduceAdd, Nat.reduceMul, reduceIte, Nat.reduceLeDiff, Nat.reduceLT, Nat.reduceBEq, reduceCtorEq, hP, ]); (repeat (refine And.intro (by first | omega | (intros; simp_all; done) | (intros; simp_all; omega)) ?_))))
        (refine WV_cond rfl (fun h => ?_) (fun h => ?_))
        · have h : latestB r (wholes (zero r)) < 0 := by simpa using h
          (repeat ((first | refine WV_seq_ ?_ | refine WV_block ?_ | refine WV_ops ?_ | refine WV_skip ?_ | refine WV_exit ?_); (try simp only [go_sem, init_env', Nat.reduceEqDiff, Nat.reduceAdd, Nat.reduceMul, reduceIte, Nat.reduceLeDiff, Nat.reduceLT, Nat.reduceBEq, reduceCtorEq, hP, ]); (repeat (refine And.intro (by first | omega | (intros; simp_all; done) | (intros; simp_all; omega)) ?_))))
          (refine WV_ret ?_; simp only [thenQ, inQ, RetQ, RetOk, resAll, resA]; simp only [go_sem, init_env', Nat.reduceEqDiff, Nat.reduceAdd, Nat.reduceMul, reduceIte, Nat.reduceLeDiff, Nat.reduceLT, Nat.reduceBEq, reduceCtorEq, tupA, AV.port, AV.portL, exists_eq_left', ]; (first | exact AVle.of rfl | refine AVle.of ?_ | skip))
          simp [latestS, hok, h]
        · have h : ¬ latestB r (wholes (zero r)) < 0 := by simpa using h
          (repeat ((first | refine WV_seq_ ?_ | refine WV_block ?_ | refine WV_ops ?_ | refine WV_skip ?_ | refine WV_exit ?_); (try simp only [go_sem, init_env', Nat.reduceEqDiff, Nat.reduceAdd, Nat.reduceMul, reduceIte, Nat.reduceLeDiff, Nat.reduceLT, Nat.reduceBEq, reduceCtorEq, hP, ]); (repeat (refine And.intro (by first | omega | (intros; simp_all; done) | (intros; simp_all; omega)) ?_))))
          (refine WV_ret ?_; simp only [thenQ, inQ, RetQ, RetOk, resAll, resA]; simp only [go_sem, init_env', Nat.reduceEqDiff, Nat.reduceAdd, Nat.reduceMul, reduceIte, Nat.reduceLeDiff, Nat.reduceLT, Nat.reduceBEq, reduceCtorEq, tupA, AV.port, AV.portL, exists_eq_left', ]; (first | exact AVle.of rfl | refine AVle.of ?_ | skip))
          simp [latestS, hok, h]
  · have hok : r.ok = false := by simpa using hok
    simp only [hok, Bool.false_eq_true, if_false]
    (refine WV_cond rfl (fun h => ?_) (fun h => ?_))
    · (repeat ((first | refine WV_seq_ ?_ | refine WV_block ?_ | refine WV_ops ?_ | refine WV_skip ?_ | refine WV_exit ?_); (try simp only [go_sem, init_env', Nat.reduceEqDiff, Nat.reduceAdd, Nat.reduceMul, reduceIte, Nat.reduceLeDiff, Nat.reduceLT, Nat.reduceBEq, reduceCtorEq, hP, ]); (repeat (refine And.intro (by first | omega | (intros; simp_all; done) | (intros; simp_all; omega)) ?_))))
      (refine WV_ret ?_; simp only [thenQ, inQ, RetQ, RetOk, resAll, resA]; simp only [go_sem, init_env', Nat.reduceEqDiff, Nat.reduceAdd, Nat.reduceMul, reduceIte, Nat.reduceLeDiff, Nat.reduceLT, Nat.reduceBEq, reduceCtorEq, tupA, AV.port, AV.portL, exists_eq_left', ]; (first | exact AVle.of rfl | refine AVle.of ?_ | skip))
      simp [latestS, hok]
    · simp at h
end Go.Proofs.Ytbejgfpaokcnpaa

namespace Go.Proofs.Ytbejgfpaokcnpaa
open Go Go.V
@[reducible] def o69_0 : List Ins := [⟨(some 5), .box 4 (.t 1), none, true⟩]
@[reducible] def o69_1 : List Ins := [⟨(some 6), .ld true 1 (.t 2), none, true⟩,
  ⟨(some 7), .bin .lss (.t 6) (.k (.c (.int .i64 0))), none, true⟩,
  ⟨(some 8), .mv (.t 7), none, true⟩,
  ⟨(some 9), .fa 3 (.t 5), (some (8, false)), true⟩,
  ⟨(some 10), .ld true 1 (.t 9), (some (8, false)), true⟩,
  ⟨(some 11), .ld true 1 (.t 2), (some (8, false)), true⟩,
  ⟨(some 12), .bin .lss (.t 10) (.t 11), (some (8, false)), true⟩,
  ⟨(some 13), .pick (.t 8) (.k (.c (.bool true))) (.t 12), none, true⟩]
@[reducible] def t69_2 : OT := (.cons ⟨(some 14), .mv (.t 0), none, false⟩
  (.br [(.cons ⟨(some 15), .call (.k (.fn 70 [])) [(.t 14)], none, true⟩
    (.br [(.cons ⟨(some 16), .fa 3 (.t 5), none, false⟩
      (.br [(.cons ⟨(some 17), .ld true 1 (.t 16), none, false⟩
        (.cons ⟨none, .st 1 (.t 3) (.t 15), none, false⟩
        (.cons ⟨none, .st 1 (.t 2) (.t 17), none, true⟩
        .nil))), (.cons ⟨none, .st 1 (.t 3) (.t 15), none, false⟩
        (.cons ⟨(some 17), .ld true 1 (.t 16), none, false⟩
        (.cons ⟨none, .st 1 (.t 2) (.t 17), none, true⟩
        .nil)))])), (.cons ⟨none, .st 1 (.t 3) (.t 15), none, false⟩
      (.cons ⟨(some 16), .fa 3 (.t 5), none, false⟩
      (.cons ⟨(some 17), .ld true 1 (.t 16), none, false⟩
      (.cons ⟨none, .st 1 (.t 2) (.t 17), none, true⟩
      .nil))))])), (.cons ⟨(some 16), .fa 3 (.t 5), none, false⟩
    (.br [(.cons ⟨(some 15), .call (.k (.fn 70 [])) [(.t 14)], none, true⟩
      (.br [(.cons ⟨(some 17), .ld true 1 (.t 16), none, false⟩
        (.cons ⟨none, .st 1 (.t 3) (.t 15), none, false⟩
        (.cons ⟨none, .st 1 (.t 2) (.t 17), none, true⟩
        .nil))), (.cons ⟨none, .st 1 (.t 3) (.t 15), none, false⟩
        (.cons ⟨(some 17), .ld true 1 (.t 16), none, false⟩
        (.cons ⟨none, .st 1 (.t 2) (.t 17), none, true⟩
        .nil)))])), (.cons ⟨(some 17), .ld true 1 (.t 16), none, false⟩
      (.cons ⟨(some 15), .call (.k (.fn 70 [])) [(.t 14)], none, true⟩
      (.cons ⟨none, .st 1 (.t 3) (.t 15), none, false⟩
      (.cons ⟨none, .st 1 (.t 2) (.t 17), none, true⟩
      .nil))))]))]))
@[reducible] def v69_3 : VC := (.cond (.t 13) (.drw t69_2) .skip)
@[reducible] def v69_4 : VC := (.seq (.ops o69_1) v69_3)
def ir69 : FC := ⟨4, 18, [], (.seq (.ops o69_0) v69_4)⟩
@[reducible] def o53_0 : List Ins := [⟨(some 1), .box 3 (.t 0), none, true⟩,
  ⟨(some 2), .alloc [(.c (.raw (.slice none 0 0)))], none, true⟩,
  ⟨(some 3), .alloc [(.c (.int .i64 0))], none, true⟩,
  ⟨(some 4), .mv (.k (.c (.int .i64 0))), none, true⟩]
@[reducible] def o53_1 : List Ins := [⟨none, .st 1 (.t 3) (.k (.c (.int .i64 (-1)))), none, true⟩]
@[reducible] def o53_2 : List Ins := [⟨(some 5), .ld false 3 (.t 1), none, true⟩,
  ⟨(some 6), .mkfn 69 [(.t 3), (.t 2)], none, true⟩,
  ⟨(some 7), .call (.k (.fn 61 [])) [(.t 5), (.t 6)], none, true⟩,
  ⟨(some 4), .mv (.t 7), none, true⟩]
@[reducible] def t53_3 : OT := (.cons ⟨(some 8), .ld true 1 (.t 2), none, false⟩
  (.br [(.cons ⟨(some 9), .ld true 1 (.t 3), none, false⟩
    (.cons ⟨none, .st 1 (.t 2) (.t 8), none, false⟩
    (.cons ⟨none, .st 1 (.t 3) (.t 9), none, false⟩
    (.cons ⟨(some 10), .mv (.t 4), none, false⟩
    (.cons ⟨(some 4), .mv (.t 10), none, true⟩
    .nil))))), (.cons ⟨(some 10), .mv (.t 4), none, false⟩
    (.br [(.cons ⟨(some 9), .ld true 1 (.t 3), none, false⟩
      (.cons ⟨none, .st 1 (.t 2) (.t 8), none, false⟩
      (.cons ⟨none, .st 1 (.t 3) (.t 9), none, false⟩
      (.cons ⟨(some 4), .mv (.t 10), none, true⟩
      .nil)))), (.cons ⟨none, .st 1 (.t 2) (.t 8), none, false⟩
      (.cons ⟨(some 9), .ld true 1 (.t 3), none, false⟩
      (.cons ⟨none, .st 1 (.t 3) (.t 9), none, false⟩
      (.cons ⟨(some 4), .mv (.t 10), none, true⟩
      .nil))))])), (.cons ⟨none, .st 1 (.t 2) (.t 8), none, false⟩
    (.cons ⟨(some 9), .ld true 1 (.t 3), none, false⟩
    (.cons ⟨none, .st 1 (.t 3) (.t 9), none, false⟩
    (.cons ⟨(some 10), .mv (.t 4), none, false⟩
    (.cons ⟨(some 4), .mv (.t 10), none, true⟩
    .nil)))))]))
@[reducible] def v53_4 : VC := (.seq (.drw t53_3) .ret)
@[reducible] def v53_5 : VC := (.seq (.ops o53_2) v53_4)
@[reducible] def v53_6 : VC := (.seq (.ops o53_1) v53_5)
def ir53 : FC := ⟨1, 11, [.cell 2 true 1, .cell 3 true 1, .t 4], (.seq (.ops o53_0) v53_6)⟩
@[reducible] def o20_0 : List Ins := [⟨(some 1), .box 3 (.t 0), none, true⟩,
  ⟨(some 2), .mv (.k (.c (.int .i64 0))), none, true⟩,
  ⟨(some 3), .mv (.k (.c (.int .i64 0))), none, true⟩]
@[reducible] def o20_1 : List Ins := [⟨(some 8), .ld false 3 (.t 1), none, true⟩,
  ⟨(some 9), .call (.k (.fn 53 [])) [(.t 8)], none, true⟩,
  ⟨(some 7), .mv (.t 9), none, true⟩,
  ⟨(some 10), .ext (.t 7) 0, none, true⟩,
  ⟨(some 11), .ext (.t 7) 1, none, true⟩,
  ⟨(some 12), .ext (.t 7) 2, none, true⟩,
  ⟨(some 4), .mv (.t 10), none, true⟩,
  ⟨(some 5), .mv (.t 11), none, true⟩,
  ⟨(some 6), .mv (.t 12), none, true⟩]
@[reducible] def o20_2 : List Ins := [⟨(some 13), .mv (.t 6), none, true⟩,
  ⟨(some 14), .bin .neq (.t 13) (.k (.c (.int .i64 0))), none, true⟩]
@[reducible] def o20_3 : List Ins := [⟨(some 15), .mv (.t 6), none, true⟩,
  ⟨(some 2), .mv (.k (.c (.int .i64 0))), none, true⟩,
  ⟨(some 3), .mv (.t 15), none, true⟩]
@[reducible] def v20_4 : VC := (.seq (.ops o20_3) .ret)
@[reducible] def v20_5 : VC := (.cond (.t 14) v20_4 .skip)
@[reducible] def o20_6 : List Ins := [⟨(some 16), .mv (.t 5), none, true⟩,
  ⟨(some 2), .mv (.t 16), none, true⟩,
  ⟨(some 3), .mv (.k (.c (.int .i64 0))), none, true⟩]
@[reducible] def v20_7 : VC := (.seq (.ops o20_6) .ret)
@[reducible] def v20_8 : VC := (.seq (.seq (.ops o20_2) v20_5) v20_7)
@[reducible] def v20_9 : VC := (.seq (.ops o20_1) v20_8)
def ir20 : FC := ⟨1, 17, [.t 2, .t 3], (.seq (.ops o20_0) v20_9)⟩
theorem c69 : compM Try.prog [15] 69 = some ir69 := by kernel_rfl
theorem c53 : compM Try.prog [] 53 = some ir53 := by kernel_rfl
theorem c20 : compM Try.prog [] 20 = some ir20 := by kernel_rfl
def wayC : Option (List Nat) → CD
  | none => .raw (.slice none 0 0)
  | some t => nats t
def shortT (s : Int × Option (List Nat)) (n : Int) (t : List Nat) : Int × Option (List Nat) := if s.1 < 0 ∨ n < s.1 then (n, some t) else s
def shortB (r : Route) (l : List (List Nat × Van)) : Int × Option (List Nat) := l.foldl (fun s p => shortT s (atHome r p).long p.1) (-1, none)
theorem shortB_snoc (r : Route) (l : List (List Nat × Van)) (p : List Nat × Van) : shortB r (l ++ [p]) = shortT (shortB r l) (atHome r p).long p.1 := by simp [shortB]
def shortO (s : Int × Option (List Nat)) : List Ob := [.box [iv s.1], .box [.c (wayC s.2)]]

set_option maxHeartbeats 1000000 in
theorem short69 (r : Route) (v : Van) (s : Int × Option (List Nat)) {t : List Nat} (hlen : t.length ≤ 100) : FSpecL Try.prog 69 [.vw 1 2000 0 t.length r.n, vanv r v, .bp 1000 0, .bp 1001 0] [.box [iv s.1], .box [.c (wayC s.2)]] [cellsT t] (fun res l' => res = .tup [] ∧ l' = shortO (shortT s v.long t)) := by
  have hprg : ∀ d, AV.prgL d (cellsT t) = cellsT t := fun d => prgL_pure d (cellsT_pure _)
  refine FSpecL_of c69 (by simp) (Nat.le_refl _) (by decide) (by decide) fun C hP hN hC hL => ?_; rw [init_env', ownW_upd (by simp)]; simp only [ir69, updL, updLo, List.map_nil, List.map_cons, Nat.reduceAdd, vanv, shortO]
  (repeat ((first | refine WV_seq_ ?_ | refine WV_block ?_ | refine WV_ops ?_ | refine WV_skip ?_ | refine WV_exit ?_); (try simp only [go_sem, init_env', Nat.reduceEqDiff, Nat.reduceAdd, Nat.reduceMul, reduceIte, Nat.reduceLeDiff, Nat.reduceLT, Nat.reduceBEq, reduceCtorEq, hP, hprg]); (repeat (refine And.intro (by first | omega | (intros; simp_all; done) | (intros; simp_all; omega)) ?_))))
  (refine WV_cond rfl (fun h => ?_) (fun h => ?_))
  · have h : s.1 < 0 ∨ v.long < s.1 := by simpa using h
    have e : shortT s v.long t = (v.long, some t) := if_pos h
    rw [e]
    (refine WV_drw ?_; simp only [go_sem, init_env', Nat.reduceEqDiff, Nat.reduceAdd, Nat.reduceMul, reduceIte, Nat.reduceLeDiff, Nat.reduceLT, Nat.reduceBEq, reduceCtorEq, hP, hprg]; (repeat' (refine And.intro ?_ ?_)))
    all_goals
      refine AS_fresh (clone70 (t.map fun (k : Nat) => (k : Int)) (by simp; omega)) rfl rfl rfl ?_ rfl ?_
      · simp only [go_sem, init_env', Nat.reduceEqDiff, Nat.reduceAdd, Nat.reduceMul, reduceIte, Nat.reduceLeDiff, Nat.reduceLT, Nat.reduceBEq, reduceCtorEq, AV.vportL, AV.vport]
        rw [elemsV_win (t := t) rfl]
        rfl
      · simp only [go_sem, init_env', Nat.reduceEqDiff, Nat.reduceAdd, Nat.reduceMul, reduceIte, Nat.reduceLeDiff, Nat.reduceLT, Nat.reduceBEq, reduceCtorEq, hP, hprg]
        try refine ⟨trivial, ?_⟩
        ((try simp only [thenQ, inQ, RetQL, RetOkL, resAll, resA]); (try simp only [go_sem, init_env', Nat.reduceEqDiff, Nat.reduceAdd, Nat.reduceMul, reduceIte, Nat.reduceLeDiff, Nat.reduceLT, Nat.reduceBEq, reduceCtorEq, tupA, AV.keepP, AV.keepPL]); refine ⟨_, [.box [iv v.long], .box [.c (wayC (some t))]], rfl, KeepL_mk rfl rfl ?_ ?_ rfl, ?_⟩)
        · simp only [go_sem, init_env', Nat.reduceEqDiff, Nat.reduceAdd, Nat.reduceMul, reduceIte, Nat.reduceLeDiff, Nat.reduceLT, Nat.reduceBEq, reduceCtorEq, keepAll, Ob.keepP, AV.keepP, AV.keepPL, wayC, nats]
        · simp only [go_sem, init_env', Nat.reduceEqDiff, Nat.reduceAdd, Nat.reduceMul, reduceIte, Nat.reduceLeDiff, Nat.reduceLT, Nat.reduceBEq, reduceCtorEq, winAll]
        · exact ⟨rfl, rfl⟩
  · have h : ¬ (s.1 < 0 ∨ v.long < s.1) := by simpa using h
    have e : shortT s v.long t = s := if_neg h
    rw [e]
    (repeat ((first | refine WV_seq_ ?_ | refine WV_block ?_ | refine WV_ops ?_ | refine WV_skip ?_ | refine WV_exit ?_); (try simp only [go_sem, init_env', Nat.reduceEqDiff, Nat.reduceAdd, Nat.reduceMul, reduceIte, Nat.reduceLeDiff, Nat.reduceLT, Nat.reduceBEq, reduceCtorEq, hP, hprg]); (repeat (refine And.intro (by first | omega | (intros; simp_all; done) | (intros; simp_all; omega)) ?_))))
    ((try simp only [thenQ, inQ, RetQL, RetOkL, resAll, resA]); (try simp only [go_sem, init_env', Nat.reduceEqDiff, Nat.reduceAdd, Nat.reduceMul, reduceIte, Nat.reduceLeDiff, Nat.reduceLT, Nat.reduceBEq, reduceCtorEq, tupA, AV.keepP, AV.keepPL]); refine ⟨_, [.box [iv s.1], .box [.c (wayC s.2)]], rfl, KeepL_mk rfl rfl ?_ ?_ rfl, ?_⟩)
    · simp only [go_sem, init_env', Nat.reduceEqDiff, Nat.reduceAdd, Nat.reduceMul, reduceIte, Nat.reduceLeDiff, Nat.reduceLT, Nat.reduceBEq, reduceCtorEq, keepAll, Ob.keepP, AV.keepP, AV.keepPL, e]
    · simp only [go_sem, init_env', Nat.reduceEqDiff, Nat.reduceAdd, Nat.reduceMul, reduceIte, Nat.reduceLeDiff, Nat.reduceLT, Nat.reduceBEq, reduceCtorEq, winAll]
    · exact ⟨rfl, rfl⟩

set_option maxHeartbeats 1000000 in
theorem short53 (r : Route) : FSpec Try.prog 53 [r.av] (.tup [.c (wayC (shortB r (wholesOf r)).2), iv (shortB r (wholesOf r)).1, iv (someE r)]) := by
  refine FSpec_of c53 (Nat.le_refl _) (by decide) fun C hP hN hC hL => ?_
  simp only [ir53, Route.av]
  (repeat ((first | refine WV_seq_ ?_ | refine WV_block ?_ | refine WV_ops ?_ | refine WV_skip ?_ | refine WV_exit ?_); (try simp only [go_sem, init_env', Nat.reduceEqDiff, Nat.reduceAdd, Nat.reduceMul, reduceIte, Nat.reduceLeDiff, Nat.reduceLT, Nat.reduceBEq, reduceCtorEq, hP, ]); (repeat (refine And.intro (by first | omega | (intros; simp_all; done) | (intros; simp_all; omega)) ?_))))
  · refine AS_clos [3, 2] [r.av] [] (l := shortO (shortB r [])) (lf := shortO (shortB r (wholesOf r))) (r := iv (someE r)) (some61 r) rfl rfl rfl (by decide) (by decide) rfl rfl rfl rfl ?_ (short69 r (leave r) (0, none) (t := []) (by simp)).1 ?_ rfl ?_
    · simp only [go_sem, init_env', Nat.reduceEqDiff, Nat.reduceAdd, Nat.reduceMul, reduceIte, Nat.reduceLeDiff, Nat.reduceLT, Nat.reduceBEq, reduceCtorEq, obsLend, Ob.lend, AV.lendL, AV.lend, shortO, shortB, List.foldl_nil, wayC]
    · refine Run_pre (entW r) (fun pre => shortO (shortB r pre)) (wholesOf r) (fun p => rfl) (fun t _ => rfl) (fun pre p post hts => ?_) _ [] rfl
      have hp : p ∈ wholesOf r := by rw [hts]; simp
      have hl : p.1.length ≤ 100 := by
        unfold wholesOf at hp
        split at hp
        · rename_i hok
          have hr := Route.ok_spec hok
          have h7 := hr.n7
          have := goods_len hr (List.mem_filter.1 hp).1
          omega
        · cases hp
      have := short69 r (atHome r p) (shortB r pre) hl
      simp only [shortB_snoc]
      exact this
    · refine ⟨_, rfl, rfl, ?_⟩
      simp only [go_sem, init_env', Nat.reduceEqDiff, Nat.reduceAdd, Nat.reduceMul, reduceIte, Nat.reduceLeDiff, Nat.reduceLT, Nat.reduceBEq, reduceCtorEq, ownBack]
      (repeat ((first | refine WV_seq_ ?_ | refine WV_block ?_ | refine WV_ops ?_ | refine WV_skip ?_ | refine WV_exit ?_); (try simp only [go_sem, init_env', Nat.reduceEqDiff, Nat.reduceAdd, Nat.reduceMul, reduceIte, Nat.reduceLeDiff, Nat.reduceLT, Nat.reduceBEq, reduceCtorEq, hP, ]); (repeat (refine And.intro (by first | omega | (intros; simp_all; done) | (intros; simp_all; omega)) ?_))))
      (refine WV_drw ?_; simp only [go_sem, init_env', Nat.reduceEqDiff, Nat.reduceAdd, Nat.reduceMul, reduceIte, Nat.reduceLeDiff, Nat.reduceLT, Nat.reduceBEq, reduceCtorEq, hP, ]; (repeat' (refine And.intro ?_ ?_)))
      all_goals ((refine WV_ret ?_; simp only [thenQ, inQ, RetQ, RetOk, resAll, resA]; simp only [go_sem, init_env', Nat.reduceEqDiff, Nat.reduceAdd, Nat.reduceMul, reduceIte, Nat.reduceLeDiff, Nat.reduceLT, Nat.reduceBEq, reduceCtorEq, tupA, AV.port, AV.portL, exists_eq_left', ]; (first | exact AVle.of rfl | refine AVle.of ?_ | skip)))

def shortestS (r : Route) : Int × Int := if someE r = 0 then ((shortB r (wholes r)).1, 0) else (0, someE r)
theorem shortest20 (r : Route) : FSpec Try.prog 20 [r.av] (.tup [iv (shortestS r).1, iv (shortestS r).2]) := by
  refine FSpec_of c20 (Nat.le_refl _) (by decide) fun C hP hN hC hL => ?_
  simp only [ir20, Route.av]
  (repeat ((first | refine WV_seq_ ?_ | refine WV_block ?_ | refine WV_ops ?_ | refine WV_skip ?_ | refine WV_exit ?_); (try simp only [go_sem, init_env', Nat.reduceEqDiff, Nat.reduceAdd, Nat.reduceMul, reduceIte, Nat.reduceLeDiff, Nat.reduceLT, Nat.reduceBEq, reduceCtorEq, hP, ]); (repeat (refine And.intro (by first | omega | (intros; simp_all; done) | (intros; simp_all; omega)) ?_))))
  (refine AS_pure (short53 r) rfl rfl rfl rfl rfl ?_; simp only [go_sem, init_env', Nat.reduceEqDiff, Nat.reduceAdd, Nat.reduceMul, reduceIte, Nat.reduceLeDiff, Nat.reduceLT, Nat.reduceBEq, reduceCtorEq, hP, Route.av]; (repeat (refine And.intro (by first | omega | (intros; simp_all; done) | (intros; simp_all; omega)) ?_)); (repeat ((first | refine WV_seq_ ?_ | refine WV_block ?_ | refine WV_ops ?_ | refine WV_skip ?_ | refine WV_exit ?_); (try simp only [go_sem, init_env', Nat.reduceEqDiff, Nat.reduceAdd, Nat.reduceMul, reduceIte, Nat.reduceLeDiff, Nat.reduceLT, Nat.reduceBEq, reduceCtorEq, hP, Route.av]); (repeat (refine And.intro (by first | omega | (intros; simp_all; done) | (intros; simp_all; omega)) ?_)))))
  (refine WV_cond rfl (fun h => ?_) (fun h => ?_))
  · have h : someE r ≠ 0 := by simpa using h
    (repeat ((first | refine WV_seq_ ?_ | refine WV_block ?_ | refine WV_ops ?_ | refine WV_skip ?_ | refine WV_exit ?_); (try simp only [go_sem, init_env', Nat.reduceEqDiff, Nat.reduceAdd, Nat.reduceMul, reduceIte, Nat.reduceLeDiff, Nat.reduceLT, Nat.reduceBEq, reduceCtorEq, hP, ]); (repeat (refine And.intro (by first | omega | (intros; simp_all; done) | (intros; simp_all; omega)) ?_))))
    (refine WV_ret ?_; simp only [thenQ, inQ, RetQ, RetOk, resAll, resA]; simp only [go_sem, init_env', Nat.reduceEqDiff, Nat.reduceAdd, Nat.reduceMul, reduceIte, Nat.reduceLeDiff, Nat.reduceLT, Nat.reduceBEq, reduceCtorEq, tupA, AV.port, AV.portL, exists_eq_left', ]; (first | exact AVle.of rfl | refine AVle.of ?_ | skip))
    simp [shortestS, h]
  · have h : someE r = 0 := by simpa using h
    (repeat ((first | refine WV_seq_ ?_ | refine WV_block ?_ | refine WV_ops ?_ | refine WV_skip ?_ | refine WV_exit ?_); (try simp only [go_sem, init_env', Nat.reduceEqDiff, Nat.reduceAdd, Nat.reduceMul, reduceIte, Nat.reduceLeDiff, Nat.reduceLT, Nat.reduceBEq, reduceCtorEq, hP, ]); (repeat (refine And.intro (by first | omega | (intros; simp_all; done) | (intros; simp_all; omega)) ?_))))
    (refine WV_ret ?_; simp only [thenQ, inQ, RetQ, RetOk, resAll, resA]; simp only [go_sem, init_env', Nat.reduceEqDiff, Nat.reduceAdd, Nat.reduceMul, reduceIte, Nat.reduceLeDiff, Nat.reduceLT, Nat.reduceBEq, reduceCtorEq, tupA, AV.port, AV.portL, exists_eq_left', ]; (first | exact AVle.of rfl | refine AVle.of ?_ | skip))
    simp [shortestS, h, wholesOf, (someE_ok h).1]

end Go.Proofs.Ytbejgfpaokcnpaa

namespace Go.Proofs.Ytbejgfpaokcnpaa
open Go Go.V
@[reducible] def o41_0 : List Ins := [⟨(some 1), .box 3 (.t 0), none, true⟩,
  ⟨(some 2), .mv (.k (.c (.int .i64 0))), none, true⟩,
  ⟨(some 3), .mv (.k (.c (.int .i64 0))), none, true⟩]
@[reducible] def o41_1 : List Ins := [⟨(some 10), .ld false 3 (.t 1), none, true⟩,
  ⟨(some 11), .call (.k (.fn 26 [])) [(.t 10)], none, true⟩,
  ⟨(some 4), .mv (.t 11), none, true⟩]
@[reducible] def o41_2 : List Ins := [⟨(some 12), .mv (.t 4), none, true⟩,
  ⟨(some 13), .bin .neq (.t 12) (.k (.c (.int .i64 0))), none, true⟩]
@[reducible] def o41_3 : List Ins := [⟨(some 14), .mv (.t 4), none, true⟩,
  ⟨(some 2), .mv (.k (.c (.int .i64 0))), none, true⟩,
  ⟨(some 3), .mv (.t 14), none, true⟩]
@[reducible] def v41_4 : VC := (.seq (.ops o41_3) .ret)
@[reducible] def v41_5 : VC := (.cond (.t 13) v41_4 .skip)
@[reducible] def v41_6 : VC := (.seq (.ops o41_2) v41_5)
@[reducible] def o41_7 : List Ins := [⟨(some 5), .alloc [(.c (.int .i64 0))], none, true⟩,
  ⟨none, .st 1 (.t 5) (.k (.c (.int .i64 0))), none, true⟩]
@[reducible] def o41_8 : List Ins := [⟨(some 15), .call (.k (.fn 66 [])) [(.t 1)], none, true⟩]
@[reducible] def o41_9 : List Ins := [⟨(some 7), .mv (.k (.c (.int .i64 0))), none, true⟩]
@[reducible] def o41_10 : List Ins := [⟨(some 18), .mv (.t 6), none, true⟩,
  ⟨(some 19), .len (.t 18), none, true⟩,
  ⟨(some 20), .mv (.k (.c (.int .i64 0))), none, true⟩]
@[reducible] def o41_11 : List Ins := [⟨(some 21), .bin .lss (.t 20) (.t 19), none, true⟩]
@[reducible] def o41_12 : List Ins := [⟨(some 22), .ia 1 (.t 18) (.t 20), none, true⟩,
  ⟨(some 23), .ld true 1 (.t 22), none, true⟩,
  ⟨(some 9), .mv (.t 23), none, true⟩]
@[reducible] def o41_13 : List Ins := [⟨(some 24), .mv (.t 7), none, true⟩,
  ⟨(some 25), .fa 0 (.t 1), none, true⟩,
  ⟨(some 26), .ld true 1 (.t 25), none, true⟩,
  ⟨(some 27), .mv (.t 9), none, true⟩,
  ⟨(some 28), .ia 4 (.t 26) (.t 27), none, true⟩,
  ⟨(some 29), .fa 3 (.t 28), none, true⟩,
  ⟨(some 30), .ld true 1 (.t 29), none, true⟩,
  ⟨(some 31), .bin .add (.t 24) (.t 30), none, true⟩,
  ⟨(some 7), .mv (.t 31), none, true⟩]
@[reducible] def v41_14 : VC := (.seq (.ops o41_12) (.ops o41_13))
@[reducible] def o41_15 : List Ins := [⟨(some 32), .bin .add (.t 20) (.k (.c (.int .i64 1))), none, true⟩,
  ⟨(some 20), .mv (.t 32), none, true⟩]
@[reducible] def v41_16 : VC := (.seq (.block 3 v41_14) (.ops o41_15))
@[reducible] def v41_17 : VC := (.seq (.cond (.t 21) .skip (.exit 2)) v41_16)
@[reducible] def v41_18 : VC := (.seq (.ops o41_11) v41_17)
-- K41_2: changed and kept: [20, 7]
@[reducible] def K41_2 : List Nat := [1, 5, 18, 19]
@[reducible] def v41_19 : VC := (.loop v41_18)
@[reducible] def v41_20 : VC := (.block 2 v41_19)
@[reducible] def o41_21 : List Ins := [⟨(some 33), .ld true 1 (.t 5), none, true⟩,
  ⟨(some 34), .mv (.t 7), none, true⟩,
  ⟨(some 35), .mm true (.t 33) (.t 34), none, true⟩,
  ⟨none, .st 1 (.t 5) (.t 35), none, true⟩]
@[reducible] def v41_22 : VC := (.seq (.seq (.ops o41_10) v41_20) (.ops o41_21))
@[reducible] def v41_23 : VC := (.seq (.ops o41_9) v41_22)
@[reducible] def v41_24 : VC := (.block 1 v41_23)
@[reducible] def o41_25 : List Ins := [⟨(some 6), .mv (.t 16), none, true⟩]
@[reducible] def K41_1 : List Nat := [1, 5, 15]
@[reducible] def v41_26 : VC := (.rng (.t 15) [16, 17] (.ops o41_25) v41_24)
@[reducible] def v41_27 : VC := (.block 0 v41_26)
@[reducible] def o41_28 : List Ins := [⟨(some 36), .ld true 1 (.t 5), none, true⟩,
  ⟨(some 2), .mv (.t 36), none, true⟩,
  ⟨(some 3), .mv (.k (.c (.int .i64 0))), none, true⟩]
@[reducible] def v41_29 : VC := (.seq (.ops o41_28) .ret)
@[reducible] def v41_30 : VC := (.seq (.seq (.ops o41_8) v41_27) v41_29)
@[reducible] def v41_31 : VC := (.seq (.ops o41_7) v41_30)
@[reducible] def v41_32 : VC := (.seq (.seq (.ops o41_1) v41_6) v41_31)
def ir41 : FC := ⟨1, 37, [.t 2, .t 3], (.seq (.ops o41_0) v41_32)⟩
theorem c41 : compM Try.prog [] 41 = some ir41 := by kernel_rfl



def cashS (r : Route) (t : List Nat) : Int := (t.map fun k => (r.s k).ca).sum
theorem cashS_snoc (r : Route) (t : List Nat) (k : Nat) : cashS r (t ++ [k]) = cashS r t + (r.s k).ca := by simp [cashS]
theorem cashS_ok {r : Route} (hr : RouteOk r) : ∀ {t : List Nat}, (∀ k ∈ t, k < r.n) → 0 ≤ cashS r t ∧ cashS r t ≤ 99999 * t.length
  | [], _ => by simp [cashS]
  | k :: t, h => by
    have ih := cashS_ok hr (t := t) fun j hj => h j (by simp [hj])
    have hk := hr.stop k (h k (by simp))
    simp only [cashS, List.map_cons, List.sum_cons, List.length_cons] at ih ⊢
    omega
def mostB (r : Route) (l : List (List Nat × Van)) : Int := (l.map fun p => cashS r p.1).foldl max 0
theorem mostB_snoc (r : Route) (l : List (List Nat × Van)) (p : List Nat × Van) : mostB r (l ++ [p]) = max (mostB r l) (cashS r p.1) := by simp [mostB]
def mostS (r : Route) : Int × Int := if r.ok then (mostB r (goods r), 0) else (0, 80)
theorem cellsT_getD {t : List Nat} {k : Nat} (h : k < t.length) (d : AV) : (cellsT t).getD k d = iv (t[k] : Int) := by simp [cellsT, h]

set_option maxHeartbeats 4000000 in
theorem most41 (r : Route) : FSpec Try.prog 41 [r.av] (.tup [iv (mostS r).1, iv (mostS r).2]) := by
  refine FSpec_of c41 (Nat.le_refl _) (by decide) fun C hP hN hC hL => ?_
  simp only [ir41, Route.av]
  (repeat ((first | refine WV_seq_ ?_ | refine WV_block ?_ | refine WV_ops ?_ | refine WV_skip ?_ | refine WV_exit ?_); (try simp only [go_sem, init_env', Nat.reduceEqDiff, Nat.reduceAdd, Nat.reduceMul, reduceIte, Nat.reduceLeDiff, Nat.reduceLT, Nat.reduceBEq, reduceCtorEq, hP, ]); (repeat (refine And.intro (by first | omega | (intros; simp_all; done) | (intros; simp_all; omega)) ?_))))
  (refine AS_pure (rcheck_spec r) rfl rfl rfl rfl rfl ?_; simp only [go_sem, init_env', Nat.reduceEqDiff, Nat.reduceAdd, Nat.reduceMul, reduceIte, Nat.reduceLeDiff, Nat.reduceLT, Nat.reduceBEq, reduceCtorEq, hP, Route.av]; (repeat (refine And.intro (by first | omega | (intros; simp_all; done) | (intros; simp_all; omega)) ?_)); (repeat ((first | refine WV_seq_ ?_ | refine WV_block ?_ | refine WV_ops ?_ | refine WV_skip ?_ | refine WV_exit ?_); (try simp only [go_sem, init_env', Nat.reduceEqDiff, Nat.reduceAdd, Nat.reduceMul, reduceIte, Nat.reduceLeDiff, Nat.reduceLT, Nat.reduceBEq, reduceCtorEq, hP, Route.av]); (repeat (refine And.intro (by first | omega | (intros; simp_all; done) | (intros; simp_all; omega)) ?_)))))
  by_cases hok : r.ok = true
  · have hr := Route.ok_spec hok
    have hn7 := hr.n7
    simp only [hok, if_true]
    (refine WV_cond rfl (fun h => ?_) (fun h => ?_))
    · simp at h
    · clear h
      have hsl : (r.stops.length : Int) = (r.n : Int) := rfl
      refine WV_freeze 1 (ds := r.cds) rfl rfl ?_
      (repeat ((first | refine WV_seq_ ?_ | refine WV_block ?_ | refine WV_ops ?_ | refine WV_skip ?_ | refine WV_exit ?_); (try simp only [go_sem, init_env', Nat.reduceEqDiff, Nat.reduceAdd, Nat.reduceMul, reduceIte, Nat.reduceLeDiff, Nat.reduceLT, Nat.reduceBEq, reduceCtorEq, hP, ]); (repeat (refine And.intro (by first | omega | (intros; simp_all; done) | (intros; simp_all; omega)) ?_))))
      (refine AS_pure (tours66 r) rfl rfl rfl rfl rfl ?_; simp only [go_sem, init_env', Nat.reduceEqDiff, Nat.reduceAdd, Nat.reduceMul, reduceIte, Nat.reduceLeDiff, Nat.reduceLT, Nat.reduceBEq, reduceCtorEq, hP, ]; (repeat (refine And.intro (by first | omega | (intros; simp_all; done) | (intros; simp_all; omega)) ?_)); (repeat ((first | refine WV_seq_ ?_ | refine WV_block ?_ | refine WV_ops ?_ | refine WV_skip ?_ | refine WV_exit ?_); (try simp only [go_sem, init_env', Nat.reduceEqDiff, Nat.reduceAdd, Nat.reduceMul, reduceIte, Nat.reduceLeDiff, Nat.reduceLT, Nat.reduceBEq, reduceCtorEq, hP, ]); (repeat (refine And.intro (by first | omega | (intros; simp_all; done) | (intros; simp_all; omega)) ?_)))))
      refine WV_keep K41_1 ?_
      simp only [go_sem, init_env', Nat.reduceEqDiff, Nat.reduceAdd, Nat.reduceMul, reduceIte, Nat.reduceLeDiff, Nat.reduceLT, Nat.reduceBEq, reduceCtorEq]
      refine WV_rng hC (L := [5]) (l := [.box [iv (mostB r [])]]) (env' := lendF [5] _ _) (rem := (goods r).map (entT r)) (Fin := fun pend lf => pend = none ∧ lf = [.box [iv (mostB r (goods r))]]) rfl rfl rfl (by decide) (by decide) ?_ (by rw [hN]; decide) (lendF_ok _ _ _) (fun g' => ?_) ?_ ?_
      · simp only [go_sem, init_env', Nat.reduceEqDiff, Nat.reduceAdd, Nat.reduceMul, reduceIte, Nat.reduceLeDiff, Nat.reduceLT, Nat.reduceBEq, reduceCtorEq, obsLend, Ob.lend, AV.lendL, AV.lend, mostB, List.foldl_nil]
      · rw [hP]; exact ⟨_, tours74 hr g', fun _ _ h => h⟩
      · refine RunR_pre (entT r) (fun pre => [.box [iv (mostB r pre)]]) (goods r) (fun p => rfl) (fun t _ => ⟨rfl, rfl⟩) (fun pre p post hts => ?_) (goods r) [] rfl
        have hpo := goods_ok hr p (by rw [hts]; simp)
        have hple := goods_len hr (p := p) (by rw [hts]; simp)
        have hprg : ∀ d, AV.prgL d (cellsT p.1) = cellsT p.1 := fun d => prgL_pure d (cellsT_pure _)
        simp only [mostB_snoc]
        intro C1 h1 h2 h3
        have hP0 := hP
        replace hP := h1.trans hP0
        rw [ownW_upd (by simp)]
        generalize mostB r pre = b
        simp only [go_sem, init_env', Nat.reduceEqDiff, Nat.reduceAdd, Nat.reduceMul, reduceIte, Nat.reduceLeDiff, Nat.reduceLT, Nat.reduceBEq, reduceCtorEq, lendF_upd, lendF_e0, AV.lend, AV.lendL, Option.getD_some, Option.getD_none, List.zip_cons_cons, List.zip_nil_right, updLo, entT, vanv]
        (repeat ((first | refine WV_seq_ ?_ | refine WV_block ?_ | refine WV_ops ?_ | refine WV_skip ?_ | refine WV_exit ?_); (try simp only [go_sem, init_env', Nat.reduceEqDiff, Nat.reduceAdd, Nat.reduceMul, reduceIte, Nat.reduceLeDiff, Nat.reduceLT, Nat.reduceBEq, reduceCtorEq, hP, ]); (repeat (refine And.intro (by first | omega | (intros; simp_all; done) | (intros; simp_all; omega)) ?_))))
        intro C2 h1 h2 h3
        replace hP := h1.trans hP0
        (repeat ((first | refine WV_seq_ ?_ | refine WV_block ?_ | refine WV_ops ?_ | refine WV_skip ?_ | refine WV_exit ?_); (try simp only [go_sem, init_env', Nat.reduceEqDiff, Nat.reduceAdd, Nat.reduceMul, reduceIte, Nat.reduceLeDiff, Nat.reduceLT, Nat.reduceBEq, reduceCtorEq, hP, hprg, Route.cds, stopsC]); (repeat (refine And.intro (by first | omega | (intros; simp_all; done) | (intros; simp_all; omega)) ?_))))
        refine WV_loopK K41_2 [] (fun k : Nat => k ≤ p.1.length) (fun k => p.1.length - k) (fun k => [(20, iv k), (7, iv (cashS r (p.1.take k)))]) (fun _ => []) 0 (Nat.zero_le _) ?_ ?_
        · (refine Sub_of (by simp only [go_sem, init_env', Nat.reduceEqDiff, Nat.reduceAdd, Nat.reduceMul, reduceIte, Nat.reduceLeDiff, Nat.reduceLT, Nat.reduceBEq, reduceCtorEq]; ((repeat' (first | exact EnvLe_e0 _ _ | refine EnvLe_upd ?_ ?_)) <;> ((try simp only [upd_app, e0_app, o0_app, Nat.reduceEqDiff, reduceIte]); first | exact AWk.refl _ _ | exact AWk.int (by omega) | exact AWk.int (by rw [w64 (by omega) (by omega)]; omega) | exact AWk.grow rfl | exact AWk.nil _ | exact AWk.of (by simp)))) (by simp only [go_sem, init_env', Nat.reduceEqDiff, Nat.reduceAdd, Nat.reduceMul, reduceIte, Nat.reduceLeDiff, Nat.reduceLT, Nat.reduceBEq, reduceCtorEq]; ((repeat' (first | exact ObjLe_o0 _ | exact ObjLe.rfl' _ | refine ObjLe_same ?_ | refine ObjLe_upd ?_ ?_ | refine ObjLe_new rfl ?_)) <;> rfl)))
        · intro k hk
          simp only [go_sem, init_env', Nat.reduceEqDiff, Nat.reduceAdd, Nat.reduceMul, reduceIte, Nat.reduceLeDiff, Nat.reduceLT, Nat.reduceBEq, reduceCtorEq]
          (repeat ((first | refine WV_seq_ ?_ | refine WV_block ?_ | refine WV_ops ?_ | refine WV_skip ?_ | refine WV_exit ?_); (try simp only [go_sem, init_env', Nat.reduceEqDiff, Nat.reduceAdd, Nat.reduceMul, reduceIte, Nat.reduceLeDiff, Nat.reduceLT, Nat.reduceBEq, reduceCtorEq, hP, ]); (repeat (refine And.intro (by first | omega | (intros; simp_all; done) | (intros; simp_all; omega)) ?_))))
          (refine WV_cond rfl (fun h => ?_) (fun h => ?_))
          · have h : k < p.1.length := by simpa using h
            have hkk := hpo.2.1 _ (List.getElem_mem h)
            have hd1 : p.1[k] < r.stops.length := hkk
            have e1 : r.stops[p.1[k]] = r.s p.1[k] := by simp [Route.s, hd1]
            have hcs := cashS_ok hr (t := p.1.take k) fun j hj => hpo.2.1 j (List.mem_of_mem_take hj)
            have htl : (p.1.take k).length ≤ 7 := by rw [List.length_take]; omega
            have hca := hr.stop _ hkk
            have hw := w64 (n := cashS r (p.1.take k) + (r.s p.1[k]).ca) (by omega) (by omega)
            have hw2 := w64 (n := (k : Int) + 1) (by omega) (by omega)
            (repeat ((first | refine WV_seq_ ?_ | refine WV_block ?_ | refine WV_ops ?_ | refine WV_skip ?_ | refine WV_exit ?_); (try simp only [go_sem, init_env', Nat.reduceEqDiff, Nat.reduceAdd, Nat.reduceMul, reduceIte, Nat.reduceLeDiff, Nat.reduceLT, Nat.reduceBEq, reduceCtorEq, hP, hprg, Route.cds, stopsC, cellsT_len, cellsT_getD h, Int.toNat_natCast, Nat.mul_one, map_getD hd1, e1, Stop.cds, Int.ofNat_lt, h, hd1, Int.natCast_nonneg, hw, hw2]); (repeat (refine And.intro (by first | omega | (intros; simp_all; done) | (intros; simp_all; omega)) ?_))))
            refine ⟨k + 1, by omega, by omega, ?_⟩
            rw [List.take_succ_eq_append_getElem (by assumption), cashS_snoc]
            (refine Sub_of (by simp only [go_sem, init_env', Nat.reduceEqDiff, Nat.reduceAdd, Nat.reduceMul, reduceIte, Nat.reduceLeDiff, Nat.reduceLT, Nat.reduceBEq, reduceCtorEq]; ((repeat' (first | exact EnvLe_e0 _ _ | refine EnvLe_upd ?_ ?_)) <;> ((try simp only [upd_app, e0_app, o0_app, Nat.reduceEqDiff, reduceIte]); first | exact AWk.refl _ _ | exact AWk.int (by omega) | exact AWk.int (by rw [w64 (by omega) (by omega)]; omega) | exact AWk.grow rfl | exact AWk.nil _ | exact AWk.of (by simp)))) (by simp only [go_sem, init_env', Nat.reduceEqDiff, Nat.reduceAdd, Nat.reduceMul, reduceIte, Nat.reduceLeDiff, Nat.reduceLT, Nat.reduceBEq, reduceCtorEq]; ((repeat' (first | exact ObjLe_o0 _ | exact ObjLe.rfl' _ | refine ObjLe_same ?_ | refine ObjLe_upd ?_ ?_ | refine ObjLe_new rfl ?_)) <;> rfl)))
          · have h : k = p.1.length := by simp at h; omega
            subst h
            rw [List.take_length]
            (repeat ((first | refine WV_seq_ ?_ | refine WV_block ?_ | refine WV_ops ?_ | refine WV_skip ?_ | refine WV_exit ?_); (try simp only [go_sem, init_env', Nat.reduceEqDiff, Nat.reduceAdd, Nat.reduceMul, reduceIte, Nat.reduceLeDiff, Nat.reduceLT, Nat.reduceBEq, reduceCtorEq, hP, hprg]); (repeat (refine And.intro (by first | omega | (intros; simp_all; done) | (intros; simp_all; omega)) ?_))))
            refine ⟨none, _, rfl, ?_, rfl, rfl⟩
            refine KeepL_mk rfl rfl ?_ ?_ rfl
            · simp only [go_sem, init_env', Nat.reduceEqDiff, Nat.reduceAdd, Nat.reduceMul, reduceIte, Nat.reduceLeDiff, Nat.reduceLT, Nat.reduceBEq, reduceCtorEq, keepAll, Ob.keepP, AV.keepP, AV.keepPL]
            · simp only [go_sem, init_env', Nat.reduceEqDiff, Nat.reduceAdd, Nat.reduceMul, reduceIte, Nat.reduceLeDiff, Nat.reduceLT, Nat.reduceBEq, reduceCtorEq, winAll]
      · rintro _ _ ⟨rfl, rfl⟩
        refine ⟨_, rfl, rfl, ?_⟩
        simp only [go_sem, init_env', Nat.reduceEqDiff, Nat.reduceAdd, Nat.reduceMul, reduceIte, Nat.reduceLeDiff, Nat.reduceLT, Nat.reduceBEq, reduceCtorEq, exitOf, ownBack]
        (repeat ((first | refine WV_seq_ ?_ | refine WV_block ?_ | refine WV_ops ?_ | refine WV_skip ?_ | refine WV_exit ?_); (try simp only [go_sem, init_env', Nat.reduceEqDiff, Nat.reduceAdd, Nat.reduceMul, reduceIte, Nat.reduceLeDiff, Nat.reduceLT, Nat.reduceBEq, reduceCtorEq, hP, ]); (repeat (refine And.intro (by first | omega | (intros; simp_all; done) | (intros; simp_all; omega)) ?_))))
        (refine WV_ret ?_; simp only [thenQ, inQ, RetQ, RetOk, resAll, resA]; simp only [go_sem, init_env', Nat.reduceEqDiff, Nat.reduceAdd, Nat.reduceMul, reduceIte, Nat.reduceLeDiff, Nat.reduceLT, Nat.reduceBEq, reduceCtorEq, tupA, AV.port, AV.portL, exists_eq_left', ]; (first | exact AVle.of rfl | refine AVle.of ?_ | skip))
        simp [mostS, hok]
  · have hok : r.ok = false := by simpa using hok
    simp only [hok, Bool.false_eq_true, if_false]
    (refine WV_cond rfl (fun h => ?_) (fun h => ?_))
    · (repeat ((first | refine WV_seq_ ?_ | refine WV_block ?_ | refine WV_ops ?_ | refine WV_skip ?_ | refine WV_exit ?_); (try simp only [go_sem, init_env', Nat.reduceEqDiff, Nat.reduceAdd, Nat.reduceMul, reduceIte, Nat.reduceLeDiff, Nat.reduceLT, Nat.reduceBEq, reduceCtorEq, hP, ]); (repeat (refine And.intro (by first | omega | (intros; simp_all; done) | (intros; simp_all; omega)) ?_))))
      (refine WV_ret ?_; simp only [thenQ, inQ, RetQ, RetOk, resAll, resA]; simp only [go_sem, init_env', Nat.reduceEqDiff, Nat.reduceAdd, Nat.reduceMul, reduceIte, Nat.reduceLeDiff, Nat.reduceLT, Nat.reduceBEq, reduceCtorEq, tupA, AV.port, AV.portL, exists_eq_left', ]; (first | exact AVle.of rfl | refine AVle.of ?_ | skip))
      simp [mostS, hok]
    · simp at h
end Go.Proofs.Ytbejgfpaokcnpaa

namespace Go.Proofs.Ytbejgfpaokcnpaa
open Go Go.V
end Go.Proofs.Ytbejgfpaokcnpaa

namespace Go.Proofs.Ytbejgfpaokcnpaa
open Go Go.V
/-- Where it is behind the first stops, and how long the way was. -/
def longP (r : Route) (t : List Nat) : Nat × Int := t.foldl (fun s k => (k, s.2 + r.d s.1 k)) (r.n, 0)
def longS (r : Route) (t : List Nat) : Int := (longP r t).2 + r.d (longP r t).1 r.n
end Go.Proofs.Ytbejgfpaokcnpaa

namespace Go.Proofs.Ytbejgfpaokcnpaa
open Go Go.V
/-- What comes of a tour: times, the first stop that is missed (-1: none), when it is back. -/
def goS (r : Route) (t : List Nat) : List Int × Int × Int := match ride r (leave r) t with
  | (ts, some k, _) => (ts, (k : Int), 0)
  | (ts, none, v) => (ts, -1, v.now + r.d v.at_ r.n)
theorem ride_stop (r : Route) : ∀ (ks : List Nat) (v : Van) (l : List Nat), (ride r v ks).2.1 ≠ none → ride r v (ks ++ l) = ride r v ks
  | [], v, l, h => by simp [ride] at h
  | a :: ks, v, l, h => by
    simp only [List.cons_append, ride] at h ⊢
    by_cases hv : (visit r v a).2.2 = true
    · simp only [hv, if_true] at h ⊢
      rw [ride_stop r ks _ l h]
    · simp only [hv]; rfl

end Go.Proofs.Ytbejgfpaokcnpaa

namespace Go.Proofs.Ytbejgfpaokcnpaa
open Go Go.V
theorem home_back {r : Route} (hr : RouteOk r) (t : List Nat) {w : Van} {ts : List Int} (h : ride r (leave r) t = (ts, none, w)) : (home r t w).now = w.now + r.d w.at_ r.n ∧ (home r t w).long = w.long + r.d w.at_ r.n := by
  unfold home
  by_cases ht : t = []
  · subst ht
    simp only [ride, Prod.mk.injEq] at h
    obtain ⟨_, _, rfl⟩ := h
    have := hr.diag r.n (Nat.lt_succ_self _)
    simp [leave, this]
  · rw [if_neg ht]; exact ⟨rfl, rfl⟩

end Go.Proofs.Ytbejgfpaokcnpaa

namespace Go.Proofs.Ytbejgfpaokcnpaa
open Go Go.V
/-- All tours that begin with t, of at most f more stops. -/
def toursR (n : Nat) : Nat → List Nat → List (List Nat)
  | 0, t => [t]
  | f + 1, t => t :: (List.range n).flatMap fun k => if k ∈ t then [] else toursR n f (t ++ [k])
theorem ints_one (l : List Int) : ((l.map fun n => [CD.int .i64 n]).all fun e => e.length == 1) = true := by
  rw [List.all_eq_true]; intro e he; obtain ⟨n, _, rfl⟩ := List.mem_map.1 he; rfl
end Go.Proofs.Ytbejgfpaokcnpaa

namespace Go.Proofs.Ytbejgfpaokcnpaa
open Go Go.V
theorem toursR_ok {n : Nat} : ∀ (f : Nat) (t : List Nat), t.Nodup → (∀ k ∈ t, k < n) → ∀ p ∈ toursR n f t, p.Nodup ∧ (∀ k ∈ p, k < n)
  | 0, t, h1, h2, p, hp => by simp only [toursR, List.mem_singleton] at hp; subst hp; exact ⟨h1, h2⟩
  | f + 1, t, h1, h2, p, hp => by
    simp only [toursR, List.mem_cons, List.mem_flatMap, List.mem_range] at hp
    rcases hp with rfl | ⟨k, hk, hp⟩
    · exact ⟨h1, h2⟩
    · split at hp
      · cases hp
      · rename_i hnk
        refine toursR_ok f (t ++ [k]) ?_ ?_ p hp
        · rw [List.nodup_append]
          exact ⟨h1, by simp, fun a ha b hb => by simp at hb; subst hb; rintro rfl; exact hnk ha⟩
        · intro j hj
          rcases List.mem_append.1 hj with hj | hj
          · exact h2 j hj
          · simp at hj; omega
def allR (r : Route) : List (List Nat) := toursR r.n (r.n + 1) []
theorem allR_ok {r : Route} : ∀ p ∈ allR r, p.Nodup ∧ (∀ k ∈ p, k < r.n) := toursR_ok _ _ List.nodup_nil (by simp)
theorem allR_len {r : Route} {p : List Nat} (hp : p ∈ allR r) : p.length ≤ r.n := tour_len (allR_ok p hp).1 (allR_ok p hp).2
def ridden (r : Route) (t : List Nat) : Bool := (ride r (leave r) t).2.1.isNone
def goodP (r : Route) (w : Bool) (t : List Nat) : Bool := (!w || t.length == r.n) && ridden r t
def goodR (r : Route) (w : Bool) : List (List Nat) := (allR r).filter (goodP r w)
end Go.Proofs.Ytbejgfpaokcnpaa

namespace Go.Proofs.Ytbejgfpaokcnpaa
open Go Go.V
def wholesL (r : Route) : List (List Nat) := if r.ok then goodR r true else []
def errR (r : Route) : Int := if r.ok then (if goodR r true = [] then 3 else 0) else 80
theorem errR_eq {r : Route} (h : errR r = 0) : RouteOk r ∧ wholesL r = goodR r true ∧ 0 < (goodR r true).length := by
  unfold errR at h
  cases hk : r.ok with
  | false => rw [hk] at h; simp at h
  | true =>
    rw [hk] at h
    refine ⟨Route.ok_spec hk, by simp [wholesL, hk], ?_⟩
    rcases Nat.eq_zero_or_pos (goodR r true).length with e | e
    · rw [List.length_eq_zero_iff] at e; rw [e] at h; simp at h
    · exact e
theorem goodR_mem {r : Route} {w : Bool} {t : List Nat} (h : t ∈ goodR r w) : t.Nodup ∧ (∀ k ∈ t, k < r.n) ∧ t.length ≤ r.n ∧ goodP r w t = true := by
  have := List.mem_filter.1 h
  exact ⟨(allR_ok _ this.1).1, (allR_ok _ this.1).2, allR_len this.1, this.2⟩

def minS (f : List Nat → Int) (l : List (List Nat)) (k : Nat) : Int := (l.take k).foldl (fun b t => min b (f t)) (f (l.getD 0 []))
def rsoonS (r : Route) : Int × Int := if errR r = 0 then (minS (fun t => (goS r t).2.2) (goodR r true) (goodR r true).length, 0) else (0, errR r)
def rshortS (r : Route) : Int × Int := if errR r = 0 then (minS (longS r) (goodR r true) (goodR r true).length, 0) else (0, errR r)

end Go.Proofs.Ytbejgfpaokcnpaa

namespace Go.Proofs.Ytbejgfpaokcnpaa
open Go Go.V
def rmostB (r : Route) (l : List (List Nat)) : Int := l.foldl (fun b t => max b (cashS r t)) 0
def rmostS (r : Route) : Int × Int := if r.ok then (rmostB r (goodR r false), 0) else (0, 80)
end Go.Proofs.Ytbejgfpaokcnpaa

namespace Go.Proofs.Ytbejgfpaokcnpaa
open Go Go.V
@[reducible] def o49_0 : List Ins := [⟨(some 0), .alloc [(.c (.raw (.slice none 0 0))), (.c (.raw (.slice none 0 0))), (.c (.int .i64 0))], none, true⟩]
@[reducible] def o49_1 : List Ins := [⟨(some 1), .bld [(.c (.int .i64 0)), (.c (.int .i64 0)), (.c (.int .i64 0)), (.c (.int .i64 0))] [(0, 1, (.k (.c (.int .i64 60)))), (1, 1, (.k (.c (.int .i64 100)))), (2, 1, (.k (.c (.int .i64 10)))), (3, 1, (.k (.c (.int .i64 500))))], none, true⟩,
  ⟨(some 2), .bld [(.c (.int .i64 0)), (.c (.int .i64 0)), (.c (.int .i64 0)), (.c (.int .i64 0))] [(1, 1, (.k (.c (.int .i64 30)))), (2, 1, (.k (.c (.int .i64 5)))), (3, 1, (.k (.c (.int .i64 200))))], none, true⟩,
  ⟨(some 3), .bld [(.c (.int .i64 0)), (.c (.int .i64 0)), (.c (.int .i64 0)), (.c (.int .i64 0))] [(0, 1, (.k (.c (.int .i64 50)))), (1, 1, (.k (.c (.int .i64 200)))), (2, 1, (.k (.c (.int .i64 20)))), (3, 1, (.k (.c (.int .i64 900))))], none, true⟩,
  ⟨(some 4), .bsl 53 4 [(.t 1), (.t 2), (.t 3)], none, true⟩,
  ⟨(some 5), .bsl 3 1 [(.k (.c (.int .i64 0))), (.k (.c (.int .i64 15))), (.k (.c (.int .i64 30))), (.k (.c (.int .i64 20)))], none, true⟩,
  ⟨(some 6), .bsl 3 1 [(.k (.c (.int .i64 15))), (.k (.c (.int .i64 0))), (.k (.c (.int .i64 25))), (.k (.c (.int .i64 10)))], none, true⟩,
  ⟨(some 7), .bsl 3 1 [(.k (.c (.int .i64 30))), (.k (.c (.int .i64 25))), (.k (.c (.int .i64 0))), (.k (.c (.int .i64 40)))], none, true⟩,
  ⟨(some 8), .bsl 3 1 [(.k (.c (.int .i64 20))), (.k (.c (.int .i64 10))), (.k (.c (.int .i64 40))), (.k (.c (.int .i64 0)))], none, true⟩,
  ⟨(some 9), .bsl 33 1 [(.t 5), (.t 6), (.t 7), (.t 8)], none, true⟩,
  ⟨(some 10), .bld [(.c (.raw (.slice none 0 0))), (.c (.raw (.slice none 0 0))), (.c (.int .i64 0))] [(0, 1, (.t 4)), (1, 1, (.t 9))], none, true⟩,
  ⟨none, .st 3 (.t 0) (.t 10), none, true⟩]
@[reducible] def v49_2 : VC := (.seq (.ops o49_1) .ret)
def ir49 : FC := ⟨0, 11, [.cell 0 false 3], (.seq (.ops o49_0) v49_2)⟩
@[reducible] def o14_0 : List Ins := [⟨(some 0), .mv (.k (.c (.bool false))), none, true⟩]
@[reducible] def o14_1 : List Ins := [⟨(some 14), .call (.k (.fn 49 [])) [], none, true⟩,
  ⟨(some 1), .alloc [(.c (.raw (.slice none 0 0))), (.c (.raw (.slice none 0 0))), (.c (.int .i64 0))], none, true⟩,
  ⟨none, .st 3 (.t 1) (.t 14), none, true⟩]
@[reducible] def o14_2 : List Ins := [⟨(some 16), .ld false 3 (.t 1), none, true⟩,
  ⟨(some 17), .bsl 3 1 [(.k (.c (.int .i64 1))), (.k (.c (.int .i64 2))), (.k (.c (.int .i64 0)))], none, true⟩,
  ⟨(some 18), .call (.k (.fn 28 [])) [(.t 16), (.t 17)], none, true⟩,
  ⟨(some 15), .mv (.t 18), none, true⟩,
  ⟨(some 19), .ext (.t 15) 0, none, true⟩,
  ⟨(some 20), .ext (.t 15) 1, none, true⟩,
  ⟨(some 2), .mv (.t 19), none, true⟩,
  ⟨(some 3), .mv (.t 20), none, true⟩]
@[reducible] def o14_3 : List Ins := [⟨(some 22), .ld false 3 (.t 1), none, true⟩,
  ⟨(some 23), .call (.k (.fn 35 [])) [(.t 22)], none, true⟩,
  ⟨(some 21), .mv (.t 23), none, true⟩,
  ⟨(some 24), .ext (.t 21) 0, none, true⟩,
  ⟨(some 25), .ext (.t 21) 1, none, true⟩,
  ⟨(some 4), .mv (.t 24), none, true⟩,
  ⟨(some 5), .mv (.t 25), none, true⟩]
@[reducible] def o14_4 : List Ins := [⟨(some 27), .ld false 3 (.t 1), none, true⟩,
  ⟨(some 28), .call (.k (.fn 15 [])) [(.t 27)], none, true⟩,
  ⟨(some 26), .mv (.t 28), none, true⟩,
  ⟨(some 29), .ext (.t 26) 0, none, true⟩,
  ⟨(some 30), .ext (.t 26) 1, none, true⟩,
  ⟨(some 6), .mv (.t 29), none, true⟩,
  ⟨(some 7), .mv (.t 30), none, true⟩]
@[reducible] def o14_5 : List Ins := [⟨(some 32), .ld false 3 (.t 1), none, true⟩,
  ⟨(some 33), .call (.k (.fn 20 [])) [(.t 32)], none, true⟩,
  ⟨(some 31), .mv (.t 33), none, true⟩,
  ⟨(some 34), .ext (.t 31) 0, none, true⟩,
  ⟨(some 35), .ext (.t 31) 1, none, true⟩,
  ⟨(some 8), .mv (.t 34), none, true⟩,
  ⟨(some 9), .mv (.t 35), none, true⟩]
@[reducible] def o14_6 : List Ins := [⟨(some 37), .ld false 3 (.t 1), none, true⟩,
  ⟨(some 38), .bsl 3 1 [(.k (.c (.int .i64 0))), (.k (.c (.int .i64 1))), (.k (.c (.int .i64 2)))], none, true⟩,
  ⟨(some 39), .call (.k (.fn 30 [])) [(.t 37), (.t 38)], none, true⟩,
  ⟨(some 36), .mv (.t 39), none, true⟩,
  ⟨(some 40), .ext (.t 36) 0, none, true⟩,
  ⟨(some 41), .ext (.t 36) 1, none, true⟩,
  ⟨(some 10), .mv (.t 40), none, true⟩,
  ⟨(some 11), .mv (.t 41), none, true⟩]
@[reducible] def o14_7 : List Ins := [⟨(some 42), .fa 2 (.t 1), none, true⟩,
  ⟨none, .st 1 (.t 42) (.k (.c (.int .i64 50))), none, true⟩]
@[reducible] def o14_8 : List Ins := [⟨(some 44), .ld false 3 (.t 1), none, true⟩,
  ⟨(some 45), .call (.k (.fn 41 [])) [(.t 44)], none, true⟩,
  ⟨(some 43), .mv (.t 45), none, true⟩,
  ⟨(some 46), .ext (.t 43) 0, none, true⟩,
  ⟨(some 47), .ext (.t 43) 1, none, true⟩,
  ⟨(some 12), .mv (.t 46), none, true⟩,
  ⟨(some 13), .mv (.t 47), none, true⟩]
@[reducible] def o14_9 : List Ins := [⟨(some 48), .mv (.t 3), none, true⟩,
  ⟨(some 49), .bin .eql (.t 48) (.k (.c (.int .i64 0))), none, true⟩,
  ⟨(some 50), .mv (.t 49), none, true⟩,
  ⟨(some 51), .mv (.t 5), (some (50, true)), true⟩,
  ⟨(some 52), .bin .eql (.t 51) (.k (.c (.int .i64 0))), (some (50, true)), true⟩,
  ⟨(some 53), .pick (.t 50) (.t 52) (.k (.c (.bool false))), none, true⟩,
  ⟨(some 54), .mv (.t 53), none, true⟩,
  ⟨(some 55), .mv (.t 7), (some (54, true)), true⟩,
  ⟨(some 56), .bin .eql (.t 55) (.k (.c (.int .i64 0))), (some (54, true)), true⟩,
  ⟨(some 57), .pick (.t 54) (.t 56) (.k (.c (.bool false))), none, true⟩,
  ⟨(some 58), .mv (.t 57), none, true⟩,
  ⟨(some 59), .mv (.t 9), (some (58, true)), true⟩,
  ⟨(some 60), .bin .eql (.t 59) (.k (.c (.int .i64 0))), (some (58, true)), true⟩,
  ⟨(some 61), .pick (.t 58) (.t 60) (.k (.c (.bool false))), none, true⟩,
  ⟨(some 62), .mv (.t 61), none, true⟩,
  ⟨(some 63), .mv (.t 11), (some (62, true)), true⟩,
  ⟨(some 64), .bin .eql (.t 63) (.k (.c (.int .i64 81))), (some (62, true)), true⟩,
  ⟨(some 65), .pick (.t 62) (.t 64) (.k (.c (.bool false))), none, true⟩,
  ⟨(some 66), .mv (.t 65), none, true⟩,
  ⟨(some 67), .mv (.t 13), (some (66, true)), true⟩,
  ⟨(some 68), .bin .eql (.t 67) (.k (.c (.int .i64 0))), (some (66, true)), true⟩,
  ⟨(some 69), .pick (.t 66) (.t 68) (.k (.c (.bool false))), none, true⟩,
  ⟨(some 70), .mv (.t 69), none, true⟩,
  ⟨(some 71), .mv (.t 2), (some (70, true)), true⟩,
  ⟨(some 72), .bsl 3 1 [(.k (.c (.int .i64 10))), (.k (.c (.int .i64 50))), (.k (.c (.int .i64 100)))], (some (70, true)), true⟩,
  ⟨(some 73), .call (.k (.fn 34 [])) [(.t 71), (.t 72)], (some (70, true)), true⟩,
  ⟨(some 74), .pick (.t 70) (.t 73) (.k (.c (.bool false))), none, true⟩,
  ⟨(some 75), .mv (.t 74), none, true⟩,
  ⟨(some 76), .mv (.t 4), (some (75, true)), true⟩,
  ⟨(some 77), .bin .eql (.t 76) (.k (.c (.int .i64 130))), (some (75, true)), true⟩,
  ⟨(some 78), .pick (.t 75) (.t 77) (.k (.c (.bool false))), none, true⟩,
  ⟨(some 79), .mv (.t 78), none, true⟩,
  ⟨(some 80), .mv (.t 6), (some (79, true)), true⟩,
  ⟨(some 81), .bin .eql (.t 80) (.k (.c (.int .i64 20))), (some (79, true)), true⟩,
  ⟨(some 82), .pick (.t 79) (.t 81) (.k (.c (.bool false))), none, true⟩,
  ⟨(some 83), .mv (.t 82), none, true⟩,
  ⟨(some 84), .mv (.t 8), (some (83, true)), true⟩,
  ⟨(some 85), .bin .eql (.t 84) (.k (.c (.int .i64 85))), (some (83, true)), true⟩,
  ⟨(some 86), .pick (.t 83) (.t 85) (.k (.c (.bool false))), none, true⟩,
  ⟨(some 87), .mv (.t 86), none, true⟩,
  ⟨(some 88), .mv (.t 12), (some (87, true)), true⟩,
  ⟨(some 89), .bin .eql (.t 88) (.k (.c (.int .i64 1400))), (some (87, true)), true⟩,
  ⟨(some 90), .pick (.t 87) (.t 89) (.k (.c (.bool false))), none, true⟩,
  ⟨(some 0), .mv (.t 90), none, true⟩]
@[reducible] def v14_10 : VC := (.seq (.ops o14_9) .ret)
@[reducible] def v14_11 : VC := (.seq (.ops o14_8) v14_10)
@[reducible] def v14_12 : VC := (.seq (.ops o14_7) v14_11)
@[reducible] def v14_13 : VC := (.seq (.ops o14_6) v14_12)
@[reducible] def v14_14 : VC := (.seq (.ops o14_5) v14_13)
@[reducible] def v14_15 : VC := (.seq (.ops o14_4) v14_14)
@[reducible] def v14_16 : VC := (.seq (.ops o14_3) v14_15)
@[reducible] def v14_17 : VC := (.seq (.ops o14_2) v14_16)
@[reducible] def v14_18 : VC := (.seq (.ops o14_1) v14_17)
def ir14 : FC := ⟨0, 91, [.t 0], (.seq (.ops o14_0) v14_18)⟩
theorem c49 : compM Try.prog [] 49 = some ir49 := by kernel_rfl
theorem c14 : compM Try.prog [] 14 = some ir14 := by kernel_rfl



/-- The route of the chapter's examples. -/
def exR : Route := ⟨[⟨60, 100, 10, 500⟩, ⟨0, 30, 5, 200⟩, ⟨50, 200, 20, 900⟩], [[0, 15, 30, 20], [15, 0, 25, 10], [30, 25, 0, 40], [20, 10, 40, 0]], 0⟩
def exR50 : Route := { exR with start := 50 }

theorem example49 : FSpec Try.prog 49 [] exR.av := by
  refine FSpec_of c49 (Nat.le_refl _) (by decide) fun C hP hN hC hL => ?_
  simp only [ir49]
  (repeat ((first | refine WV_seq_ ?_ | refine WV_block ?_ | refine WV_ops ?_ | refine WV_skip ?_ | refine WV_exit ?_); (try simp only [go_sem, init_env', Nat.reduceEqDiff, Nat.reduceAdd, Nat.reduceMul, reduceIte, Nat.reduceLeDiff, Nat.reduceLT, Nat.reduceBEq, reduceCtorEq, hP, ]); (repeat (refine And.intro (by first | omega | (intros; simp_all; done) | (intros; simp_all; omega)) ?_))))
  (refine WV_ret ?_; simp only [thenQ, inQ, RetQ, RetOk, resAll, resA]; simp only [go_sem, init_env', Nat.reduceEqDiff, Nat.reduceAdd, Nat.reduceMul, reduceIte, Nat.reduceLeDiff, Nat.reduceLT, Nat.reduceBEq, reduceCtorEq, tupA, AV.port, AV.portL, exists_eq_left', ]; (first | exact AVle.of rfl | refine AVle.of ?_ | skip))

theorem exTimes : timesS exR [1, 2, 0] = ([10, 50, 100], 0) := by kernel_rfl
theorem exBack : backS exR [0, 1, 2] = (0, 81) := by kernel_rfl
theorem exSoon : soonS exR = (130, 0) := by kernel_rfl
theorem exLate : latestS exR = (20, 0) := by kernel_rfl
theorem exShort : shortestS exR = (85, 0) := by kernel_rfl
theorem exMost : mostS exR50 = (1400, 0) := by kernel_rfl

set_option maxRecDepth 20000 in
set_option maxHeartbeats 8000000 in
theorem works14 : FSpec Try.prog 14 [] (.c (.bool true)) := by
  have h1 := times28 exR [1, 2, 0] (by decide)
  rw [exTimes] at h1
  have h2 := soon35 exR
  rw [exSoon] at h2
  have h3 := latest15 exR
  rw [exLate] at h3
  have h4 := shortest20 exR
  rw [exShort] at h4
  have h5 := back30 exR [0, 1, 2] (by decide)
  rw [exBack] at h5
  have h6 := most41 exR50
  rw [exMost] at h6
  refine FSpec_of c14 (Nat.le_refl _) (by decide) fun C hP hN hC hL => ?_
  simp only [ir14]
  (repeat ((first | refine WV_seq_ ?_ | refine WV_block ?_ | refine WV_ops ?_ | refine WV_skip ?_ | refine WV_exit ?_); (try simp only [go_sem, init_env', Nat.reduceEqDiff, Nat.reduceAdd, Nat.reduceMul, reduceIte, Nat.reduceLeDiff, Nat.reduceLT, Nat.reduceBEq, reduceCtorEq, hP, ]); (repeat (refine And.intro (by first | omega | (intros; simp_all; done) | (intros; simp_all; omega)) ?_))))
  (refine AS_pure (example49) rfl rfl rfl rfl rfl ?_; simp only [go_sem, init_env', Nat.reduceEqDiff, Nat.reduceAdd, Nat.reduceMul, reduceIte, Nat.reduceLeDiff, Nat.reduceLT, Nat.reduceBEq, reduceCtorEq, hP, Route.av]; (repeat (refine And.intro (by first | omega | (intros; simp_all; done) | (intros; simp_all; omega)) ?_)); (repeat ((first | refine WV_seq_ ?_ | refine WV_block ?_ | refine WV_ops ?_ | refine WV_skip ?_ | refine WV_exit ?_); (try simp only [go_sem, init_env', Nat.reduceEqDiff, Nat.reduceAdd, Nat.reduceMul, reduceIte, Nat.reduceLeDiff, Nat.reduceLT, Nat.reduceBEq, reduceCtorEq, hP, Route.av]); (repeat (refine And.intro (by first | omega | (intros; simp_all; done) | (intros; simp_all; omega)) ?_)))))
  (refine AS_pure (h1) rfl rfl rfl rfl rfl ?_; simp only [go_sem, init_env', Nat.reduceEqDiff, Nat.reduceAdd, Nat.reduceMul, reduceIte, Nat.reduceLeDiff, Nat.reduceLT, Nat.reduceBEq, reduceCtorEq, hP, Route.av]; (repeat (refine And.intro (by first | omega | (intros; simp_all; done) | (intros; simp_all; omega)) ?_)); (repeat ((first | refine WV_seq_ ?_ | refine WV_block ?_ | refine WV_ops ?_ | refine WV_skip ?_ | refine WV_exit ?_); (try simp only [go_sem, init_env', Nat.reduceEqDiff, Nat.reduceAdd, Nat.reduceMul, reduceIte, Nat.reduceLeDiff, Nat.reduceLT, Nat.reduceBEq, reduceCtorEq, hP, Route.av]); (repeat (refine And.intro (by first | omega | (intros; simp_all; done) | (intros; simp_all; omega)) ?_)))))
  (refine AS_pure (h2) rfl rfl rfl rfl rfl ?_; simp only [go_sem, init_env', Nat.reduceEqDiff, Nat.reduceAdd, Nat.reduceMul, reduceIte, Nat.reduceLeDiff, Nat.reduceLT, Nat.reduceBEq, reduceCtorEq, hP, Route.av]; (repeat (refine And.intro (by first | omega | (intros; simp_all; done) | (intros; simp_all; omega)) ?_)); (repeat ((first | refine WV_seq_ ?_ | refine WV_block ?_ | refine WV_ops ?_ | refine WV_skip ?_ | refine WV_exit ?_); (try simp only [go_sem, init_env', Nat.reduceEqDiff, Nat.reduceAdd, Nat.reduceMul, reduceIte, Nat.reduceLeDiff, Nat.reduceLT, Nat.reduceBEq, reduceCtorEq, hP, Route.av]); (repeat (refine And.intro (by first | omega | (intros; simp_all; done) | (intros; simp_all; omega)) ?_)))))
  (refine AS_pure (h3) rfl rfl rfl rfl rfl ?_; simp only [go_sem, init_env', Nat.reduceEqDiff, Nat.reduceAdd, Nat.reduceMul, reduceIte, Nat.reduceLeDiff, Nat.reduceLT, Nat.reduceBEq, reduceCtorEq, hP, Route.av]; (repeat (refine And.intro (by first | omega | (intros; simp_all; done) | (intros; simp_all; omega)) ?_)); (repeat ((first | refine WV_seq_ ?_ | refine WV_block ?_ | refine WV_ops ?_ | refine WV_skip ?_ | refine WV_exit ?_); (try simp only [go_sem, init_env', Nat.reduceEqDiff, Nat.reduceAdd, Nat.reduceMul, reduceIte, Nat.reduceLeDiff, Nat.reduceLT, Nat.reduceBEq, reduceCtorEq, hP, Route.av]); (repeat (refine And.intro (by first | omega | (intros; simp_all; done) | (intros; simp_all; omega)) ?_)))))
  (refine AS_pure (h4) rfl rfl rfl rfl rfl ?_; simp only [go_sem, init_env', Nat.reduceEqDiff, Nat.reduceAdd, Nat.reduceMul, reduceIte, Nat.reduceLeDiff, Nat.reduceLT, Nat.reduceBEq, reduceCtorEq, hP, Route.av]; (repeat (refine And.intro (by first | omega | (intros; simp_all; done) | (intros; simp_all; omega)) ?_)); (repeat ((first | refine WV_seq_ ?_ | refine WV_block ?_ | refine WV_ops ?_ | refine WV_skip ?_ | refine WV_exit ?_); (try simp only [go_sem, init_env', Nat.reduceEqDiff, Nat.reduceAdd, Nat.reduceMul, reduceIte, Nat.reduceLeDiff, Nat.reduceLT, Nat.reduceBEq, reduceCtorEq, hP, Route.av]); (repeat (refine And.intro (by first | omega | (intros; simp_all; done) | (intros; simp_all; omega)) ?_)))))
  (refine AS_pure (h5) rfl rfl rfl rfl rfl ?_; simp only [go_sem, init_env', Nat.reduceEqDiff, Nat.reduceAdd, Nat.reduceMul, reduceIte, Nat.reduceLeDiff, Nat.reduceLT, Nat.reduceBEq, reduceCtorEq, hP, Route.av]; (repeat (refine And.intro (by first | omega | (intros; simp_all; done) | (intros; simp_all; omega)) ?_)); (repeat ((first | refine WV_seq_ ?_ | refine WV_block ?_ | refine WV_ops ?_ | refine WV_skip ?_ | refine WV_exit ?_); (try simp only [go_sem, init_env', Nat.reduceEqDiff, Nat.reduceAdd, Nat.reduceMul, reduceIte, Nat.reduceLeDiff, Nat.reduceLT, Nat.reduceBEq, reduceCtorEq, hP, Route.av]); (repeat (refine And.intro (by first | omega | (intros; simp_all; done) | (intros; simp_all; omega)) ?_)))))
  (refine AS_pure (h6) rfl rfl rfl rfl rfl ?_; simp only [go_sem, init_env', Nat.reduceEqDiff, Nat.reduceAdd, Nat.reduceMul, reduceIte, Nat.reduceLeDiff, Nat.reduceLT, Nat.reduceBEq, reduceCtorEq, hP, Route.av, beq_self_eq_true]; (repeat (refine And.intro (by first | omega | (intros; simp_all; done) | (intros; simp_all; omega)) ?_)); (repeat ((first | refine WV_seq_ ?_ | refine WV_block ?_ | refine WV_ops ?_ | refine WV_skip ?_ | refine WV_exit ?_); (try simp only [go_sem, init_env', Nat.reduceEqDiff, Nat.reduceAdd, Nat.reduceMul, reduceIte, Nat.reduceLeDiff, Nat.reduceLT, Nat.reduceBEq, reduceCtorEq, hP, Route.av, beq_self_eq_true]); (repeat (refine And.intro (by first | omega | (intros; simp_all; done) | (intros; simp_all; omega)) ?_)))))
  (refine AG_pure (fun hG => same34 [10, 50, 100] [10, 50, 100]) rfl (fun hG => by simp only [go_sem, init_env', Nat.reduceEqDiff, Nat.reduceAdd, Nat.reduceMul, reduceIte, Nat.reduceLeDiff, Nat.reduceLT, Nat.reduceBEq, reduceCtorEq, hG]) rfl rfl rfl ?_; simp only [go_sem, init_env', Nat.reduceEqDiff, Nat.reduceAdd, Nat.reduceMul, reduceIte, Nat.reduceLeDiff, Nat.reduceLT, Nat.reduceBEq, reduceCtorEq, hP, beq_self_eq_true, decide_true]; (repeat (refine And.intro (by first | omega | (intros; simp_all; done) | (intros; simp_all; omega)) ?_)); (repeat ((first | refine WV_seq_ ?_ | refine WV_block ?_ | refine WV_ops ?_ | refine WV_skip ?_ | refine WV_exit ?_); (try simp only [go_sem, init_env', Nat.reduceEqDiff, Nat.reduceAdd, Nat.reduceMul, reduceIte, Nat.reduceLeDiff, Nat.reduceLT, Nat.reduceBEq, reduceCtorEq, hP, beq_self_eq_true, decide_true]); (repeat (refine And.intro (by first | omega | (intros; simp_all; done) | (intros; simp_all; omega)) ?_)))))
  (refine WV_ret ?_; simp only [thenQ, inQ, RetQ, RetOk, resAll, resA]; simp only [go_sem, init_env', Nat.reduceEqDiff, Nat.reduceAdd, Nat.reduceMul, reduceIte, Nat.reduceLeDiff, Nat.reduceLT, Nat.reduceBEq, reduceCtorEq, tupA, AV.port, AV.portL, exists_eq_left', ]; (first | exact AVle.of rfl | refine AVle.of ?_ | skip))
end Go.Proofs.Ytbejgfpaokcnpaa

namespace Go.Proofs.Ytbejgfpaokcnpaa
open Go Go.V
@[reducible] def o19_0 : List Ins := [⟨(some 1), .box 3 (.t 0), none, true⟩,
  ⟨(some 2), .mv (.k (.c (.bool false))), none, true⟩]
@[reducible] def o19_1 : List Ins := [⟨(some 4), .fa 0 (.t 1), none, true⟩,
  ⟨(some 5), .ld true 1 (.t 4), none, true⟩,
  ⟨(some 6), .len (.t 5), none, true⟩,
  ⟨(some 7), .bin .gtr (.t 6) (.k (.c (.int .i64 20))), none, true⟩,
  ⟨(some 8), .mv (.t 7), none, true⟩,
  ⟨(some 9), .fa 1 (.t 1), (some (8, false)), true⟩,
  ⟨(some 10), .ld true 1 (.t 9), (some (8, false)), true⟩,
  ⟨(some 11), .len (.t 10), (some (8, false)), true⟩,
  ⟨(some 12), .bin .gtr (.t 11) (.k (.c (.int .i64 20))), (some (8, false)), true⟩,
  ⟨(some 13), .pick (.t 8) (.k (.c (.bool true))) (.t 12), none, true⟩]
@[reducible] def o19_2 : List Ins := [⟨(some 2), .mv (.k (.c (.bool true))), none, true⟩]
@[reducible] def v19_3 : VC := (.seq (.ops o19_2) .ret)
@[reducible] def v19_4 : VC := (.cond (.t 13) v19_3 .skip)
@[reducible] def o19_5 : List Ins := [⟨(some 3), .mv (.k (.c (.int .i64 0))), none, true⟩]
@[reducible] def o19_6 : List Ins := [⟨(some 14), .mv (.t 3), none, true⟩,
  ⟨(some 15), .fa 1 (.t 1), none, true⟩,
  ⟨(some 16), .ld true 1 (.t 15), none, true⟩,
  ⟨(some 17), .len (.t 16), none, true⟩,
  ⟨(some 18), .bin .lss (.t 14) (.t 17), none, true⟩]
@[reducible] def v19_7 : VC := (.cond (.t 18) .skip (.exit 0))
@[reducible] def o19_8 : List Ins := [⟨(some 21), .fa 1 (.t 1), none, true⟩,
  ⟨(some 22), .ld true 1 (.t 21), none, true⟩,
  ⟨(some 23), .mv (.t 3), none, true⟩,
  ⟨(some 24), .ia 1 (.t 22) (.t 23), none, true⟩,
  ⟨(some 25), .ld true 1 (.t 24), none, true⟩,
  ⟨(some 26), .len (.t 25), none, true⟩,
  ⟨(some 27), .bin .gtr (.t 26) (.k (.c (.int .i64 20))), none, true⟩]
@[reducible] def o19_9 : List Ins := [⟨(some 2), .mv (.k (.c (.bool true))), none, true⟩]
@[reducible] def v19_10 : VC := (.seq (.ops o19_9) .ret)
@[reducible] def v19_11 : VC := (.cond (.t 27) v19_10 .skip)
@[reducible] def v19_12 : VC := (.seq (.ops o19_8) v19_11)
@[reducible] def o19_13 : List Ins := [⟨(some 19), .mv (.t 3), none, true⟩,
  ⟨(some 20), .bin .add (.t 19) (.k (.c (.int .i64 1))), none, true⟩,
  ⟨(some 3), .mv (.t 20), none, true⟩]
@[reducible] def v19_14 : VC := (.seq (.block 1 v19_12) (.ops o19_13))
@[reducible] def v19_15 : VC := (.seq (.seq (.ops o19_6) v19_7) v19_14)
-- K19_1: changed and kept: [3]
@[reducible] def K19_1 : List Nat := [1]
@[reducible] def v19_16 : VC := (.loop v19_15)
@[reducible] def v19_17 : VC := (.block 0 v19_16)
@[reducible] def o19_18 : List Ins := [⟨(some 28), .fa 0 (.t 1), none, true⟩,
  ⟨(some 29), .ld true 1 (.t 28), none, true⟩,
  ⟨(some 30), .len (.t 29), none, true⟩,
  ⟨(some 31), .bin .gtr (.t 30) (.k (.c (.int .i64 5))), none, true⟩,
  ⟨(some 32), .mv (.t 31), none, true⟩,
  ⟨(some 33), .ld false 3 (.t 1), (some (32, true)), true⟩,
  ⟨(some 34), .call (.k (.fn 27 [])) [(.t 33)], (some (32, true)), true⟩,
  ⟨(some 35), .bin .eql (.t 34) (.k (.c (.int .i64 0))), (some (32, true)), true⟩,
  ⟨(some 36), .pick (.t 32) (.t 35) (.k (.c (.bool false))), none, true⟩,
  ⟨(some 2), .mv (.t 36), none, true⟩]
@[reducible] def v19_19 : VC := (.seq (.ops o19_18) .ret)
@[reducible] def v19_20 : VC := (.seq (.seq (.ops o19_5) v19_17) v19_19)
@[reducible] def v19_21 : VC := (.seq (.seq (.ops o19_1) v19_4) v19_20)
def ir19 : FC := ⟨1, 37, [.t 2], (.seq (.ops o19_0) v19_21)⟩
theorem c19 : compM Try.prog [] 19 = some ir19 := by kernel_rfl
def near (r : Route) : Bool := decide (r.stops.length ≤ 20) && decide (r.drive.length ≤ 20) && r.drive.all fun l => decide (l.length ≤ 20)
def farS (r : Route) : Bool := if near r then decide (5 < r.stops.length) && r.ok else true

set_option maxHeartbeats 4000000 in
theorem far19 (r : Route) : FSpec Try.prog 19 [r.av] (.c (.bool (farS r))) := by
  refine FSpec_of c19 (Nat.le_refl _) (by decide) fun C hP hN hC hL => ?_
  obtain ⟨hl1, hl2, hl3⟩ := Route.lens hL
  simp only [ir19, Route.av]
  (repeat ((first | refine WV_seq_ ?_ | refine WV_block ?_ | refine WV_ops ?_ | refine WV_skip ?_ | refine WV_exit ?_); (try simp only [go_sem, init_env', Nat.reduceEqDiff, Nat.reduceAdd, Nat.reduceMul, reduceIte, Nat.reduceLeDiff, Nat.reduceLT, Nat.reduceBEq, reduceCtorEq, hP, stopsC, driveC]); (repeat (refine And.intro (by first | omega | (intros; simp_all; done) | (intros; simp_all; omega)) ?_))))
  (refine WV_cond rfl (fun h => ?_) (fun h => ?_))
  · have h : near r = false := by
      simp only [near]
      simp at h
      by_cases h1 : r.stops.length ≤ 20
      · by_cases h2 : r.drive.length ≤ 20
        · exfalso; omega
        · simp [h2]
      · simp [h1]
    (repeat ((first | refine WV_seq_ ?_ | refine WV_block ?_ | refine WV_ops ?_ | refine WV_skip ?_ | refine WV_exit ?_); (try simp only [go_sem, init_env', Nat.reduceEqDiff, Nat.reduceAdd, Nat.reduceMul, reduceIte, Nat.reduceLeDiff, Nat.reduceLT, Nat.reduceBEq, reduceCtorEq, hP, ]); (repeat (refine And.intro (by first | omega | (intros; simp_all; done) | (intros; simp_all; omega)) ?_))))
    (refine WV_ret ?_; simp only [thenQ, inQ, RetQ, RetOk, resAll, resA]; simp only [go_sem, init_env', Nat.reduceEqDiff, Nat.reduceAdd, Nat.reduceMul, reduceIte, Nat.reduceLeDiff, Nat.reduceLT, Nat.reduceBEq, reduceCtorEq, tupA, AV.port, AV.portL, exists_eq_left', ]; (first | exact AVle.of rfl | refine AVle.of ?_ | skip))
    simp [farS, h]
  · have h : r.stops.length ≤ 20 ∧ r.drive.length ≤ 20 := by simp at h; omega
    (repeat ((first | refine WV_seq_ ?_ | refine WV_block ?_ | refine WV_ops ?_ | refine WV_skip ?_ | refine WV_exit ?_); (try simp only [go_sem, init_env', Nat.reduceEqDiff, Nat.reduceAdd, Nat.reduceMul, reduceIte, Nat.reduceLeDiff, Nat.reduceLT, Nat.reduceBEq, reduceCtorEq, hP, ]); (repeat (refine And.intro (by first | omega | (intros; simp_all; done) | (intros; simp_all; omega)) ?_))))
    refine WV_loopK K19_1 [1] (fun k : Nat => k ≤ r.drive.length ∧ ((r.drive.take k).all fun l => decide (l.length ≤ 20)) = true) (fun k => r.drive.length - k) (fun k => [(3, iv k)]) (fun _ => [(1, .box [.c (stopsC r.stops), .c (driveC r.drive), .c (.int .i64 r.start)])]) 0 ⟨Nat.zero_le _, by simp⟩ ?_ ?_
    · (refine Sub_of (by simp only [go_sem, init_env', Nat.reduceEqDiff, Nat.reduceAdd, Nat.reduceMul, reduceIte, Nat.reduceLeDiff, Nat.reduceLT, Nat.reduceBEq, reduceCtorEq]; ((repeat' (first | exact EnvLe_e0 _ _ | refine EnvLe_upd ?_ ?_)) <;> ((try simp only [upd_app, e0_app, o0_app, Nat.reduceEqDiff, reduceIte]); first | exact AWk.refl _ _ | exact AWk.int (by omega) | exact AWk.int (by rw [w64 (by omega) (by omega)]; omega) | exact AWk.grow rfl | exact AWk.nil _ | exact AWk.of (by simp)))) (by simp only [go_sem, init_env', Nat.reduceEqDiff, Nat.reduceAdd, Nat.reduceMul, reduceIte, Nat.reduceLeDiff, Nat.reduceLT, Nat.reduceBEq, reduceCtorEq]; ((repeat' (first | exact ObjLe_o0 _ | exact ObjLe.rfl' _ | refine ObjLe_same ?_ | refine ObjLe_upd ?_ ?_ | refine ObjLe_new rfl ?_)) <;> rfl)))
    · rintro k ⟨hk, ha⟩
      simp only [go_sem, init_env', Nat.reduceEqDiff, Nat.reduceAdd, Nat.reduceMul, reduceIte, Nat.reduceLeDiff, Nat.reduceLT, Nat.reduceBEq, reduceCtorEq]
      (repeat ((first | refine WV_seq_ ?_ | refine WV_block ?_ | refine WV_ops ?_ | refine WV_skip ?_ | refine WV_exit ?_); (try simp only [go_sem, init_env', Nat.reduceEqDiff, Nat.reduceAdd, Nat.reduceMul, reduceIte, Nat.reduceLeDiff, Nat.reduceLT, Nat.reduceBEq, reduceCtorEq, hP, driveC]); (repeat (refine And.intro (by first | omega | (intros; simp_all; done) | (intros; simp_all; omega)) ?_))))
      have h0 := h
      (refine WV_cond rfl (fun h => ?_) (fun h => ?_))
      · have h : k < r.drive.length := by simpa using h
        have hw2 := w64 (n := (k : Int) + 1) (by omega) (by omega)
        (repeat ((first | refine WV_seq_ ?_ | refine WV_block ?_ | refine WV_ops ?_ | refine WV_skip ?_ | refine WV_exit ?_); (try simp only [go_sem, init_env', Nat.reduceEqDiff, Nat.reduceAdd, Nat.reduceMul, reduceIte, Nat.reduceLeDiff, Nat.reduceLT, Nat.reduceBEq, reduceCtorEq, hP, Int.toNat_natCast, map_getD h, List.length_map, Int.ofNat_lt, h, Int.natCast_nonneg, ints, driveC]); (repeat (refine And.intro (by first | omega | (intros; simp_all; done) | (intros; simp_all; omega)) ?_))))
        have hk0 := h
        have hta := take_all (fun l : List Int => decide (l.length ≤ 20)) hk0
        (refine WV_cond rfl (fun h => ?_) (fun h => ?_))
        · have h : ¬ r.drive[k].length ≤ 20 := by simp at h; omega
          have hn : near r = false := by
            simp only [near]
            have : (r.drive.all fun l => decide (l.length ≤ 20)) = false := List.all_eq_false.2 ⟨_, List.getElem_mem hk0, by simpa using h⟩
            rw [this]; simp
          (repeat ((first | refine WV_seq_ ?_ | refine WV_block ?_ | refine WV_ops ?_ | refine WV_skip ?_ | refine WV_exit ?_); (try simp only [go_sem, init_env', Nat.reduceEqDiff, Nat.reduceAdd, Nat.reduceMul, reduceIte, Nat.reduceLeDiff, Nat.reduceLT, Nat.reduceBEq, reduceCtorEq, hP, ]); (repeat (refine And.intro (by first | omega | (intros; simp_all; done) | (intros; simp_all; omega)) ?_))))
          (refine WV_ret ?_; simp only [thenQ, inQ, RetQ, RetOk, resAll, resA]; simp only [go_sem, init_env', Nat.reduceEqDiff, Nat.reduceAdd, Nat.reduceMul, reduceIte, Nat.reduceLeDiff, Nat.reduceLT, Nat.reduceBEq, reduceCtorEq, tupA, AV.port, AV.portL, exists_eq_left', ]; (first | exact AVle.of rfl | refine AVle.of ?_ | skip))
          simp [farS, hn]
        · have h : r.drive[k].length ≤ 20 := by simp at h; omega
          (repeat ((first | refine WV_seq_ ?_ | refine WV_block ?_ | refine WV_ops ?_ | refine WV_skip ?_ | refine WV_exit ?_); (try simp only [go_sem, init_env', Nat.reduceEqDiff, Nat.reduceAdd, Nat.reduceMul, reduceIte, Nat.reduceLeDiff, Nat.reduceLT, Nat.reduceBEq, reduceCtorEq, hP, hw2]); (repeat (refine And.intro (by first | omega | (intros; simp_all; done) | (intros; simp_all; omega)) ?_))))
          refine ⟨k + 1, ⟨by omega, by rw [hta, ha]; simpa using h⟩, by omega, ?_⟩
          (refine Sub_of (by simp only [go_sem, init_env', Nat.reduceEqDiff, Nat.reduceAdd, Nat.reduceMul, reduceIte, Nat.reduceLeDiff, Nat.reduceLT, Nat.reduceBEq, reduceCtorEq]; ((repeat' (first | exact EnvLe_e0 _ _ | refine EnvLe_upd ?_ ?_)) <;> ((try simp only [upd_app, e0_app, o0_app, Nat.reduceEqDiff, reduceIte]); first | exact AWk.refl _ _ | exact AWk.int (by omega) | exact AWk.int (by rw [w64 (by omega) (by omega)]; omega) | exact AWk.grow rfl | exact AWk.nil _ | exact AWk.of (by simp)))) (by simp only [go_sem, init_env', Nat.reduceEqDiff, Nat.reduceAdd, Nat.reduceMul, reduceIte, Nat.reduceLeDiff, Nat.reduceLT, Nat.reduceBEq, reduceCtorEq]; ((repeat' (first | exact ObjLe_o0 _ | exact ObjLe.rfl' _ | refine ObjLe_same ?_ | refine ObjLe_upd ?_ ?_ | refine ObjLe_new rfl ?_)) <;> rfl)))
      · have h : k = r.drive.length := by simp at h; omega
        subst h
        rw [List.take_length] at ha
        have hn : near r = true := by simp [near, h0, ha]
        have e : farS r = (decide (5 < r.stops.length) && r.ok) := by simp [farS, hn]
        rw [e]
        (repeat ((first | refine WV_seq_ ?_ | refine WV_block ?_ | refine WV_ops ?_ | refine WV_skip ?_ | refine WV_exit ?_); (try simp only [go_sem, init_env', Nat.reduceEqDiff, Nat.reduceAdd, Nat.reduceMul, reduceIte, Nat.reduceLeDiff, Nat.reduceLT, Nat.reduceBEq, reduceCtorEq, hP, stopsC]); (repeat (refine And.intro (by first | omega | (intros; simp_all; done) | (intros; simp_all; omega)) ?_))))
        (refine AG_pure (fun hG => check_spec r) rfl (fun hG => by simp only [go_sem, init_env', Nat.reduceEqDiff, Nat.reduceAdd, Nat.reduceMul, reduceIte, Nat.reduceLeDiff, Nat.reduceLT, Nat.reduceBEq, reduceCtorEq, hG]) rfl rfl rfl ?_; simp only [go_sem, init_env', Nat.reduceEqDiff, Nat.reduceAdd, Nat.reduceMul, reduceIte, Nat.reduceLeDiff, Nat.reduceLT, Nat.reduceBEq, reduceCtorEq, hP, Route.av]; (repeat (refine And.intro (by first | omega | (intros; simp_all; done) | (intros; simp_all; omega)) ?_)); (repeat ((first | refine WV_seq_ ?_ | refine WV_block ?_ | refine WV_ops ?_ | refine WV_skip ?_ | refine WV_exit ?_); (try simp only [go_sem, init_env', Nat.reduceEqDiff, Nat.reduceAdd, Nat.reduceMul, reduceIte, Nat.reduceLeDiff, Nat.reduceLT, Nat.reduceBEq, reduceCtorEq, hP, Route.av]); (repeat (refine And.intro (by first | omega | (intros; simp_all; done) | (intros; simp_all; omega)) ?_)))))
        by_cases hok : r.ok = true
        · simp only [hok, if_true, beq_self_eq_true]
          (repeat ((first | refine WV_seq_ ?_ | refine WV_block ?_ | refine WV_ops ?_ | refine WV_skip ?_ | refine WV_exit ?_); (try simp only [go_sem, init_env', Nat.reduceEqDiff, Nat.reduceAdd, Nat.reduceMul, reduceIte, Nat.reduceLeDiff, Nat.reduceLT, Nat.reduceBEq, reduceCtorEq, hP, ]); (repeat (refine And.intro (by first | omega | (intros; simp_all; done) | (intros; simp_all; omega)) ?_))))
          (try refine ⟨fun h => by simpa using h, ?_⟩)
          (repeat ((first | refine WV_seq_ ?_ | refine WV_block ?_ | refine WV_ops ?_ | refine WV_skip ?_ | refine WV_exit ?_); (try simp only [go_sem, init_env', Nat.reduceEqDiff, Nat.reduceAdd, Nat.reduceMul, reduceIte, Nat.reduceLeDiff, Nat.reduceLT, Nat.reduceBEq, reduceCtorEq, hP, ]); (repeat (refine And.intro (by first | omega | (intros; simp_all; done) | (intros; simp_all; omega)) ?_))))
          (refine WV_ret ?_; simp only [thenQ, inQ, RetQ, RetOk, resAll, resA]; simp only [go_sem, init_env', Nat.reduceEqDiff, Nat.reduceAdd, Nat.reduceMul, reduceIte, Nat.reduceLeDiff, Nat.reduceLT, Nat.reduceBEq, reduceCtorEq, tupA, AV.port, AV.portL, exists_eq_left', ]; (first | exact AVle.of rfl | refine AVle.of ?_ | skip))
          simp only [Bool.and_true, AV.c.injEq, CD.bool.injEq, decide_eq_decide]
          omega
        · have hok : r.ok = false := by simpa using hok
          simp only [hok, Bool.false_eq_true, if_false]
          (try refine ⟨fun h => by simpa using h, ?_⟩)
          (repeat ((first | refine WV_seq_ ?_ | refine WV_block ?_ | refine WV_ops ?_ | refine WV_skip ?_ | refine WV_exit ?_); (try simp only [go_sem, init_env', Nat.reduceEqDiff, Nat.reduceAdd, Nat.reduceMul, reduceIte, Nat.reduceLeDiff, Nat.reduceLT, Nat.reduceBEq, reduceCtorEq, hP, ]); (repeat (refine And.intro (by first | omega | (intros; simp_all; done) | (intros; simp_all; omega)) ?_))))
          (refine WV_ret ?_; simp only [thenQ, inQ, RetQ, RetOk, resAll, resA]; simp only [go_sem, init_env', Nat.reduceEqDiff, Nat.reduceAdd, Nat.reduceMul, reduceIte, Nat.reduceLeDiff, Nat.reduceLT, Nat.reduceBEq, reduceCtorEq, tupA, AV.port, AV.portL, exists_eq_left', ]; (first | exact AVle.of rfl | refine AVle.of ?_ | skip))
          simp

end Go.Proofs.Ytbejgfpaokcnpaa

namespace Go.Proofs.Ytbejgfpaokcnpaa
open Go Go.V
@[reducible] def o17_0 : List Ins := [⟨(some 1), .box 3 (.t 0), none, true⟩,
  ⟨(some 2), .alloc [(.c (.raw (.slice none 0 0))), (.c (.raw (.slice none 0 0))), (.c (.int .i64 0))], none, true⟩]
@[reducible] def o17_1 : List Ins := [⟨(some 5), .ld false 3 (.t 1), none, true⟩,
  ⟨(some 3), .alloc [(.c (.raw (.slice none 0 0))), (.c (.raw (.slice none 0 0))), (.c (.int .i64 0))], none, true⟩,
  ⟨none, .st 3 (.t 3) (.t 5), none, true⟩]
@[reducible] def o17_2 : List Ins := [⟨(some 6), .bsl 53 4 [], none, true⟩,
  ⟨(some 7), .fa 0 (.t 1), none, true⟩,
  ⟨(some 8), .ld true 1 (.t 7), none, true⟩,
  ⟨(some 9), .app 53 4 32 (.t 6) (.t 8), none, true⟩,
  ⟨(some 10), .fa 0 (.t 3), none, true⟩,
  ⟨none, .st 1 (.t 10) (.t 9), none, true⟩,
  ⟨(some 11), .fa 1 (.t 3), none, true⟩,
  ⟨none, .st 1 (.t 11) (.k (.c (.raw (.slice none 0 0)))), none, true⟩]
@[reducible] def o17_3 : List Ins := [⟨(some 4), .mv (.k (.c (.int .i64 0))), none, true⟩]
@[reducible] def o17_4 : List Ins := [⟨(some 12), .mv (.t 4), none, true⟩,
  ⟨(some 13), .fa 1 (.t 1), none, true⟩,
  ⟨(some 14), .ld true 1 (.t 13), none, true⟩,
  ⟨(some 15), .len (.t 14), none, true⟩,
  ⟨(some 16), .bin .lss (.t 12) (.t 15), none, true⟩]
@[reducible] def v17_5 : VC := (.cond (.t 16) .skip (.exit 0))
@[reducible] def o17_6 : List Ins := [⟨(some 19), .fa 1 (.t 3), none, false⟩,
  ⟨(some 20), .ld true 1 (.t 19), none, false⟩,
  ⟨(some 21), .bsl 3 1 [], none, false⟩,
  ⟨(some 22), .fa 1 (.t 1), none, false⟩,
  ⟨(some 23), .ld true 1 (.t 22), none, false⟩,
  ⟨(some 24), .mv (.t 4), none, false⟩,
  ⟨(some 25), .ia 1 (.t 23) (.t 24), none, false⟩,
  ⟨(some 26), .ld true 1 (.t 25), none, false⟩,
  ⟨(some 27), .app 3 1 8 (.t 21) (.t 26), none, false⟩,
  ⟨(some 28), .bsl 33 1 [(.t 27)], none, false⟩,
  ⟨(some 29), .app 33 1 24 (.t 20) (.t 28), none, true⟩,
  ⟨(some 30), .fa 1 (.t 3), none, true⟩,
  ⟨none, .st 1 (.t 30) (.t 29), none, true⟩]
@[reducible] def o17_7 : List Ins := [⟨(some 17), .mv (.t 4), none, true⟩,
  ⟨(some 18), .bin .add (.t 17) (.k (.c (.int .i64 1))), none, true⟩,
  ⟨(some 4), .mv (.t 18), none, true⟩]
@[reducible] def v17_8 : VC := (.seq (.block 1 (.ops o17_6)) (.ops o17_7))
@[reducible] def v17_9 : VC := (.seq (.seq (.ops o17_4) v17_5) v17_8)
-- K17_1: changed and kept: [4]
@[reducible] def K17_1 : List Nat := [1, 2, 3]
@[reducible] def v17_10 : VC := (.loop v17_9)
@[reducible] def v17_11 : VC := (.block 0 v17_10)
@[reducible] def o17_12 : List Ins := [⟨(some 31), .ld false 3 (.t 3), none, true⟩,
  ⟨none, .st 3 (.t 2) (.t 31), none, true⟩]
@[reducible] def v17_13 : VC := (.seq (.ops o17_12) .ret)
@[reducible] def v17_14 : VC := (.seq (.seq (.ops o17_3) v17_11) v17_13)
@[reducible] def v17_15 : VC := (.seq (.ops o17_2) v17_14)
@[reducible] def v17_16 : VC := (.seq (.ops o17_1) v17_15)
def ir17 : FC := ⟨1, 32, [.cell 2 false 3], (.seq (.ops o17_0) v17_16)⟩
theorem c17 : compM Try.prog [] 17 = some ir17 := by kernel_rfl



theorem stops_four (l : List Stop) : ((l.map Stop.cds).all fun e => e.length == 4) = true := by
  rw [List.all_eq_true]; intro e he; obtain ⟨n, _, rfl⟩ := List.mem_map.1 he; rfl
theorem intss_one (l : List (List Int)) : ((l.map fun x => [ints x]).all fun e => e.length == 1) = true := by
  rw [List.all_eq_true]; intro e he; obtain ⟨n, _, rfl⟩ := List.mem_map.1 he; rfl
theorem near_eq {r : Route} (h : near r = true) : r.stops.length ≤ 20 ∧ r.drive.length ≤ 20 ∧ ∀ l ∈ r.drive, l.length ≤ 20 := by
  simp only [near, Bool.and_eq_true, decide_eq_true_eq, List.all_eq_true] at h
  exact ⟨h.1.1, h.1.2, h.2⟩

set_option maxHeartbeats 4000000 in
theorem copy17 (r : Route) (hnear : near r = true) : FSpec Try.prog 17 [r.av] r.av := by
  obtain ⟨hn1, hn2, hn3⟩ := near_eq hnear
  have hmax : maxLen = 9223372036854775807 := rfl
  refine FSpec_of c17 (Nat.le_refl _) (by decide) fun C hP hN hC hL => ?_
  simp only [ir17, Route.av]
  (repeat ((first | refine WV_seq_ ?_ | refine WV_block ?_ | refine WV_ops ?_ | refine WV_skip ?_ | refine WV_exit ?_); (try simp only [go_sem, init_env', Nat.reduceEqDiff, Nat.reduceAdd, Nat.reduceMul, reduceIte, Nat.reduceLeDiff, Nat.reduceLT, Nat.reduceBEq, reduceCtorEq, hP, stopsC, stops_four]); (repeat (refine And.intro (by first | omega | (intros; simp_all; done) | (intros; simp_all; omega)) ?_))))
  refine WV_freeze 1 (ds := r.cds) rfl rfl ?_
  simp only [go_sem, init_env', Nat.reduceEqDiff, Nat.reduceAdd, Nat.reduceMul, reduceIte, Nat.reduceLeDiff, Nat.reduceLT, Nat.reduceBEq, reduceCtorEq]
  refine WV_nilbox 3 1 29 33 1 (by decide) (by decide) (by decide) rfl rfl rfl ?_
  simp only [go_sem, init_env', Nat.reduceEqDiff, Nat.reduceAdd, Nat.reduceMul, reduceIte, Nat.reduceLeDiff, Nat.reduceLT, Nat.reduceBEq, reduceCtorEq]
  refine WV_loopK K17_1 [2, 3, 6, 9, 29] (fun k : Nat => k ≤ r.drive.length) (fun k => r.drive.length - k) (fun k => [(4, iv k)])
    (fun k => [(29, .grow 33 1 ((r.drive.take k).map fun x => [ints x])), (3, .box [.gr 9, .gr 29, iv r.start]), (9, .grow 53 4 (r.stops.map Stop.cds)), (2, .box [.c (.raw (.slice none 0 0)), .c (.raw (.slice none 0 0)), iv 0])]) 0 (Nat.zero_le _) ?_ ?_
  · (refine Sub_of (by simp only [go_sem, init_env', Nat.reduceEqDiff, Nat.reduceAdd, Nat.reduceMul, reduceIte, Nat.reduceLeDiff, Nat.reduceLT, Nat.reduceBEq, reduceCtorEq]; ((repeat' (first | exact EnvLe_e0 _ _ | refine EnvLe_upd ?_ ?_)) <;> ((try simp only [upd_app, e0_app, o0_app, Nat.reduceEqDiff, reduceIte]); first | exact AWk.refl _ _ | exact AWk.int (by omega) | exact AWk.int (by rw [w64 (by omega) (by omega)]; omega) | exact AWk.grow rfl | exact AWk.nil _ | exact AWk.of (by simp)))) (by simp only [go_sem, init_env', Nat.reduceEqDiff, Nat.reduceAdd, Nat.reduceMul, reduceIte, Nat.reduceLeDiff, Nat.reduceLT, Nat.reduceBEq, reduceCtorEq]; ((repeat' (first | exact ObjLe_o0 _ | exact ObjLe.rfl' _ | refine ObjLe_same ?_ | refine ObjLe_upd ?_ ?_ | refine ObjLe_new rfl ?_)) <;> rfl)))
  · intro k hk
    have htl : (r.drive.take k).length ≤ 20 := by rw [List.length_take]; omega
    simp only [go_sem, init_env', Nat.reduceEqDiff, Nat.reduceAdd, Nat.reduceMul, reduceIte, Nat.reduceLeDiff, Nat.reduceLT, Nat.reduceBEq, reduceCtorEq]
    (repeat ((first | refine WV_seq_ ?_ | refine WV_block ?_ | refine WV_ops ?_ | refine WV_skip ?_ | refine WV_exit ?_); (try simp only [go_sem, init_env', Nat.reduceEqDiff, Nat.reduceAdd, Nat.reduceMul, reduceIte, Nat.reduceLeDiff, Nat.reduceLT, Nat.reduceBEq, reduceCtorEq, hP, Route.cds, driveC]); (repeat (refine And.intro (by first | omega | (intros; simp_all; done) | (intros; simp_all; omega)) ?_))))
    (refine WV_cond rfl (fun h => ?_) (fun h => ?_))
    · have h : k < r.drive.length := by simpa using h
      have hrow := hn3 _ (List.getElem_mem h)
      have hw2 := w64 (n := (k : Int) + 1) (by omega) (by omega)
      (repeat ((first | refine WV_seq_ ?_ | refine WV_block ?_ | refine WV_ops ?_ | refine WV_skip ?_ | refine WV_exit ?_); (try simp only [go_sem, init_env', Nat.reduceEqDiff, Nat.reduceAdd, Nat.reduceMul, reduceIte, Nat.reduceLeDiff, Nat.reduceLT, Nat.reduceBEq, reduceCtorEq, hP, Route.cds, driveC, Int.toNat_natCast, map_getD h, List.length_map, Int.ofNat_lt, h, Int.natCast_nonneg, ints, ints_one, intss_one, hw2]); (repeat (refine And.intro (by first | omega | (intros; simp_all; done) | (intros; simp_all; omega)) ?_))))
      refine ⟨k + 1, by omega, by omega, ?_⟩
      rw [List.take_succ_eq_append_getElem (by assumption), List.map_append]
      (refine Sub_of (by simp only [go_sem, init_env', Nat.reduceEqDiff, Nat.reduceAdd, Nat.reduceMul, reduceIte, Nat.reduceLeDiff, Nat.reduceLT, Nat.reduceBEq, reduceCtorEq]; ((repeat' (first | exact EnvLe_e0 _ _ | refine EnvLe_upd ?_ ?_)) <;> ((try simp only [upd_app, e0_app, o0_app, Nat.reduceEqDiff, reduceIte]); first | exact AWk.refl _ _ | exact AWk.int (by omega) | exact AWk.int (by rw [w64 (by omega) (by omega)]; omega) | exact AWk.grow rfl | exact AWk.nil _ | exact AWk.of (by simp [ints])))) (by simp only [go_sem, init_env', Nat.reduceEqDiff, Nat.reduceAdd, Nat.reduceMul, reduceIte, Nat.reduceLeDiff, Nat.reduceLT, Nat.reduceBEq, reduceCtorEq]; ((repeat' (first | exact ObjLe_o0 _ | exact ObjLe.rfl' _ | refine ObjLe_same ?_ | refine ObjLe_upd ?_ ?_ | refine ObjLe_new rfl ?_)) <;> rfl)))
    · have h : k = r.drive.length := by simp at h; omega
      subst h
      rw [List.take_length]
      (repeat ((first | refine WV_seq_ ?_ | refine WV_block ?_ | refine WV_ops ?_ | refine WV_skip ?_ | refine WV_exit ?_); (try simp only [go_sem, init_env', Nat.reduceEqDiff, Nat.reduceAdd, Nat.reduceMul, reduceIte, Nat.reduceLeDiff, Nat.reduceLT, Nat.reduceBEq, reduceCtorEq, hP, ]); (repeat (refine And.intro (by first | omega | (intros; simp_all; done) | (intros; simp_all; omega)) ?_))))
      (refine WV_ret ?_; simp only [thenQ, inQ, RetQ, RetOk, resAll, resA]; simp only [go_sem, init_env', Nat.reduceEqDiff, Nat.reduceAdd, Nat.reduceMul, reduceIte, Nat.reduceLeDiff, Nat.reduceLT, Nat.reduceBEq, reduceCtorEq, tupA, AV.port, AV.portL, exists_eq_left', ]; (first | exact AVle.of rfl | refine AVle.of ?_ | skip))
end Go.Proofs.Ytbejgfpaokcnpaa

namespace Go.Proofs.Ytbejgfpaokcnpaa
open Go Go.V
@[reducible] def o5_0 : List Ins := [⟨(some 2), .box 3 (.t 0), none, true⟩,
  ⟨(some 4), .mv (.k (.c (.bool false))), none, true⟩]
@[reducible] def o5_1 : List Ins := [⟨(some 19), .ld false 3 (.t 2), none, true⟩,
  ⟨(some 20), .call (.k (.fn 19 [])) [(.t 19)], none, true⟩,
  ⟨(some 21), .mv (.t 20), none, true⟩,
  ⟨(some 22), .mv (.t 1), (some (21, false)), true⟩,
  ⟨(some 23), .len (.t 22), (some (21, false)), true⟩,
  ⟨(some 24), .bin .gtr (.t 23) (.k (.c (.int .i64 20))), (some (21, false)), true⟩,
  ⟨(some 25), .pick (.t 21) (.k (.c (.bool true))) (.t 24), none, true⟩]
@[reducible] def o5_2 : List Ins := [⟨(some 26), .call (.k (.fn 14 [])) [], none, true⟩,
  ⟨(some 4), .mv (.t 26), none, true⟩]
@[reducible] def v5_3 : VC := (.seq (.ops o5_2) .ret)
@[reducible] def v5_4 : VC := (.cond (.t 25) v5_3 .skip)
@[reducible] def o5_5 : List Ins := [⟨(some 27), .ld false 3 (.t 2), none, true⟩,
  ⟨(some 28), .call (.k (.fn 17 [])) [(.t 27)], none, true⟩,
  ⟨(some 29), .bsl 3 1 [], none, true⟩,
  ⟨(some 30), .mv (.t 1), none, true⟩,
  ⟨(some 31), .app 3 1 8 (.t 29) (.t 30), none, true⟩,
  ⟨(some 5), .alloc [(.c (.raw (.slice none 0 0))), (.c (.raw (.slice none 0 0))), (.c (.int .i64 0))], none, true⟩,
  ⟨none, .st 3 (.t 5) (.t 28), none, true⟩,
  ⟨(some 6), .mv (.t 31), none, true⟩]
@[reducible] def o5_6 : List Ins := [⟨(some 32), .ld false 3 (.t 5), none, false⟩,
  ⟨(some 33), .call (.k (.fn 26 [])) [(.t 32)], none, false⟩,
  ⟨(some 34), .ld false 3 (.t 2), none, false⟩,
  ⟨(some 35), .call (.k (.fn 27 [])) [(.t 34)], none, true⟩,
  ⟨(some 36), .bin .neq (.t 33) (.t 35), none, true⟩]
@[reducible] def o5_7 : List Ins := [⟨(some 4), .mv (.k (.c (.bool false))), none, true⟩]
@[reducible] def v5_8 : VC := (.seq (.ops o5_7) .ret)
@[reducible] def v5_9 : VC := (.cond (.t 36) v5_8 .skip)
@[reducible] def o5_10 : List Ins := [⟨(some 38), .ld false 3 (.t 5), none, true⟩,
  ⟨(some 39), .mv (.t 6), none, true⟩,
  ⟨(some 40), .call (.k (.fn 28 [])) [(.t 38), (.t 39)], none, true⟩,
  ⟨(some 37), .mv (.t 40), none, true⟩,
  ⟨(some 41), .ext (.t 37) 0, none, true⟩,
  ⟨(some 42), .ext (.t 37) 1, none, true⟩,
  ⟨(some 7), .mv (.t 41), none, true⟩,
  ⟨(some 8), .mv (.t 42), none, true⟩]
@[reducible] def o5_11 : List Ins := [⟨(some 44), .ld false 3 (.t 2), none, true⟩,
  ⟨(some 45), .mv (.t 1), none, true⟩,
  ⟨(some 46), .call (.k (.fn 29 [])) [(.t 44), (.t 45)], none, true⟩,
  ⟨(some 43), .mv (.t 46), none, true⟩,
  ⟨(some 47), .ext (.t 43) 0, none, true⟩,
  ⟨(some 48), .ext (.t 43) 1, none, true⟩,
  ⟨(some 9), .mv (.t 47), none, true⟩,
  ⟨(some 10), .mv (.t 48), none, true⟩]
@[reducible] def o5_12 : List Ins := [⟨(some 50), .ld false 3 (.t 5), none, true⟩,
  ⟨(some 51), .mv (.t 6), none, true⟩,
  ⟨(some 52), .call (.k (.fn 30 [])) [(.t 50), (.t 51)], none, true⟩,
  ⟨(some 49), .mv (.t 52), none, true⟩,
  ⟨(some 53), .ext (.t 49) 0, none, true⟩,
  ⟨(some 54), .ext (.t 49) 1, none, true⟩,
  ⟨(some 11), .mv (.t 53), none, true⟩,
  ⟨(some 12), .mv (.t 54), none, true⟩]
@[reducible] def o5_13 : List Ins := [⟨(some 56), .ld false 3 (.t 2), none, true⟩,
  ⟨(some 57), .mv (.t 1), none, true⟩,
  ⟨(some 58), .call (.k (.fn 31 [])) [(.t 56), (.t 57)], none, true⟩,
  ⟨(some 55), .mv (.t 58), none, true⟩,
  ⟨(some 59), .ext (.t 55) 0, none, true⟩,
  ⟨(some 60), .ext (.t 55) 1, none, true⟩,
  ⟨(some 13), .mv (.t 59), none, true⟩,
  ⟨(some 14), .mv (.t 60), none, true⟩]
@[reducible] def o5_14 : List Ins := [⟨(some 62), .ld false 3 (.t 5), none, true⟩,
  ⟨(some 63), .mv (.t 6), none, true⟩,
  ⟨(some 64), .call (.k (.fn 32 [])) [(.t 62), (.t 63)], none, true⟩,
  ⟨(some 61), .mv (.t 64), none, true⟩,
  ⟨(some 65), .ext (.t 61) 0, none, true⟩,
  ⟨(some 66), .ext (.t 61) 1, none, true⟩,
  ⟨(some 15), .mv (.t 65), none, true⟩,
  ⟨(some 16), .mv (.t 66), none, true⟩]
@[reducible] def o5_15 : List Ins := [⟨(some 68), .ld false 3 (.t 2), none, true⟩,
  ⟨(some 69), .mv (.t 1), none, true⟩,
  ⟨(some 70), .call (.k (.fn 33 [])) [(.t 68), (.t 69)], none, true⟩,
  ⟨(some 67), .mv (.t 70), none, true⟩,
  ⟨(some 71), .ext (.t 67) 0, none, true⟩,
  ⟨(some 72), .ext (.t 67) 1, none, true⟩,
  ⟨(some 17), .mv (.t 71), none, true⟩,
  ⟨(some 18), .mv (.t 72), none, true⟩]
@[reducible] def o5_16 : List Ins := [⟨(some 73), .mv (.t 7), none, true⟩,
  ⟨(some 74), .mv (.t 9), none, true⟩,
  ⟨(some 75), .call (.k (.fn 34 [])) [(.t 73), (.t 74)], none, true⟩,
  ⟨(some 76), .mv (.t 75), none, true⟩,
  ⟨(some 77), .mv (.t 8), (some (76, true)), true⟩,
  ⟨(some 78), .mv (.t 10), (some (76, true)), true⟩,
  ⟨(some 79), .bin .eql (.t 77) (.t 78), (some (76, true)), true⟩,
  ⟨(some 80), .pick (.t 76) (.t 79) (.k (.c (.bool false))), none, true⟩,
  ⟨(some 81), .mv (.t 80), none, true⟩,
  ⟨(some 82), .mv (.t 11), (some (81, true)), true⟩,
  ⟨(some 83), .mv (.t 13), (some (81, true)), true⟩,
  ⟨(some 84), .bin .eql (.t 82) (.t 83), (some (81, true)), true⟩,
  ⟨(some 85), .pick (.t 81) (.t 84) (.k (.c (.bool false))), none, true⟩,
  ⟨(some 86), .mv (.t 85), none, true⟩,
  ⟨(some 87), .mv (.t 12), (some (86, true)), true⟩,
  ⟨(some 88), .mv (.t 14), (some (86, true)), true⟩,
  ⟨(some 89), .bin .eql (.t 87) (.t 88), (some (86, true)), true⟩,
  ⟨(some 90), .pick (.t 86) (.t 89) (.k (.c (.bool false))), none, true⟩,
  ⟨(some 91), .mv (.t 90), none, true⟩,
  ⟨(some 92), .mv (.t 15), (some (91, true)), true⟩,
  ⟨(some 93), .mv (.t 17), (some (91, true)), true⟩,
  ⟨(some 94), .bin .eql (.t 92) (.t 93), (some (91, true)), true⟩,
  ⟨(some 95), .pick (.t 91) (.t 94) (.k (.c (.bool false))), none, true⟩,
  ⟨(some 96), .mv (.t 95), none, true⟩,
  ⟨(some 97), .mv (.t 16), (some (96, true)), true⟩,
  ⟨(some 98), .mv (.t 18), (some (96, true)), true⟩,
  ⟨(some 99), .bin .eql (.t 97) (.t 98), (some (96, true)), true⟩,
  ⟨(some 100), .pick (.t 96) (.t 99) (.k (.c (.bool false))), none, true⟩,
  ⟨(some 101), .mv (.t 100), none, true⟩,
  ⟨(some 102), .ld false 3 (.t 5), (some (101, true)), true⟩,
  ⟨(some 103), .ld false 3 (.t 2), (some (101, true)), true⟩,
  ⟨(some 104), .call (.k (.fn 22 [])) [(.t 102), (.t 103)], (some (101, true)), true⟩,
  ⟨(some 105), .pick (.t 101) (.t 104) (.k (.c (.bool false))), none, true⟩,
  ⟨(some 106), .mv (.t 105), none, true⟩,
  ⟨(some 107), .mv (.t 6), (some (106, true)), true⟩,
  ⟨(some 108), .mv (.t 1), (some (106, true)), true⟩,
  ⟨(some 109), .call (.k (.fn 34 [])) [(.t 107), (.t 108)], (some (106, true)), true⟩,
  ⟨(some 110), .pick (.t 106) (.t 109) (.k (.c (.bool false))), none, true⟩,
  ⟨(some 111), .mv (.t 110), none, true⟩,
  ⟨(some 112), .call (.k (.fn 14 [])) [], (some (111, true)), true⟩,
  ⟨(some 113), .pick (.t 111) (.t 112) (.k (.c (.bool false))), none, true⟩,
  ⟨(some 4), .mv (.t 113), none, true⟩]
@[reducible] def v5_17 : VC := (.seq (.ops o5_16) .ret)
@[reducible] def v5_18 : VC := (.seq (.ops o5_15) v5_17)
@[reducible] def v5_19 : VC := (.seq (.ops o5_14) v5_18)
@[reducible] def v5_20 : VC := (.seq (.ops o5_13) v5_19)
@[reducible] def v5_21 : VC := (.seq (.ops o5_12) v5_20)
@[reducible] def v5_22 : VC := (.seq (.ops o5_11) v5_21)
@[reducible] def v5_23 : VC := (.seq (.ops o5_10) v5_22)
@[reducible] def v5_24 : VC := (.seq (.seq (.ops o5_6) v5_9) v5_23)
@[reducible] def v5_25 : VC := (.seq (.ops o5_5) v5_24)
@[reducible] def v5_26 : VC := (.seq (.seq (.ops o5_1) v5_4) v5_25)
def ir5 : FC := ⟨2, 114, [.t 4], (.seq (.ops o5_0) v5_26)⟩
theorem c5 : compM Try.prog [] 5 = some ir5 := by kernel_rfl



end Go.Proofs.Ytbejgfpaokcnpaa
