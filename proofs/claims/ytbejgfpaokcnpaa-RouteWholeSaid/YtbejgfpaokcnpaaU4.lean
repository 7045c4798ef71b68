/-
  Contracts of functions of package route, of its reference and of the law RouteTimes; conditions: as each theorem states.
-/
import Derived.Test.YtbejgfpaokcnpaaU3
import Derived.Test.YtbejgfpaokcnpaaV2
set_option linter.unusedVariables false
set_option linter.unusedSimpArgs false
namespace Go.Proofs.Ytbejgfpaokcnpaa
open Go Go.V
@[reducible] def o66_0 : List Ins := [⟨(some 1), .box 1 (.t 0), none, true⟩,
  ⟨(some 2), .mv (.k (.c (.raw .nilFunc))), none, true⟩]
@[reducible] def o66_1 : List Ins := [⟨(some 3), .mkfn 74 [(.t 1)], none, true⟩,
  ⟨(some 2), .mv (.t 3), none, true⟩]
@[reducible] def v66_2 : VC := (.seq (.ops o66_1) .ret)
def ir66 : FC := ⟨1, 4, [.t 2], (.seq (.ops o66_0) v66_2)⟩
@[reducible] def o74_0 : List Ins := [⟨(some 2), .box 1 (.t 0), none, true⟩]
@[reducible] def o74_1 : List Ins := [⟨(some 3), .alloc [(.c (.raw .nilFunc))], none, true⟩]
@[reducible] def o74_2 : List Ins := [⟨(some 4), .mkfn 75 [(.t 2), (.t 1), (.t 3)], none, true⟩,
  ⟨none, .st 1 (.t 3) (.t 4), none, true⟩]
@[reducible] def t74_3 : OT := (.cons ⟨(some 6), .ld true 1 (.t 1), none, false⟩
  (.cons ⟨(some 7), .nilc (.t 6), none, false⟩
  (.cons ⟨(some 8), .fa 0 (.t 7), none, false⟩
  (.cons ⟨(some 9), .ld true 1 (.t 8), none, false⟩
  (.cons ⟨(some 10), .len (.t 9), none, false⟩
  (.br [(.cons ⟨(some 5), .ld true 1 (.t 3), none, false⟩
    (.br [(.cons ⟨(some 11), .mks 3 1 8 [(.c (.int .i64 0))] (.k (.c (.int .i64 0))) (.t 10), none, true⟩
      (.cons ⟨(some 12), .ld true 1 (.t 1), none, false⟩
      (.cons ⟨(some 13), .call (.k (.fn 72 [])) [(.t 12)], none, false⟩
      (.cons ⟨(some 14), .call (.t 5) [(.t 11), (.t 13)], none, true⟩
      .nil)))), (.cons ⟨(some 12), .ld true 1 (.t 1), none, false⟩
      (.br [(.cons ⟨(some 11), .mks 3 1 8 [(.c (.int .i64 0))] (.k (.c (.int .i64 0))) (.t 10), none, true⟩
        (.cons ⟨(some 13), .call (.k (.fn 72 [])) [(.t 12)], none, false⟩
        (.cons ⟨(some 14), .call (.t 5) [(.t 11), (.t 13)], none, true⟩
        .nil))), (.cons ⟨(some 13), .call (.k (.fn 72 [])) [(.t 12)], none, false⟩
        (.cons ⟨(some 11), .mks 3 1 8 [(.c (.int .i64 0))] (.k (.c (.int .i64 0))) (.t 10), none, true⟩
        (.cons ⟨(some 14), .call (.t 5) [(.t 11), (.t 13)], none, true⟩
        .nil)))]))])), (.cons ⟨(some 11), .mks 3 1 8 [(.c (.int .i64 0))] (.k (.c (.int .i64 0))) (.t 10), none, true⟩
    (.cons ⟨(some 5), .ld true 1 (.t 3), none, false⟩
    (.cons ⟨(some 12), .ld true 1 (.t 1), none, false⟩
    (.cons ⟨(some 13), .call (.k (.fn 72 [])) [(.t 12)], none, false⟩
    (.cons ⟨(some 14), .call (.t 5) [(.t 11), (.t 13)], none, true⟩
    .nil))))), (.cons ⟨(some 12), .ld true 1 (.t 1), none, false⟩
    (.br [(.cons ⟨(some 5), .ld true 1 (.t 3), none, false⟩
      (.br [(.cons ⟨(some 11), .mks 3 1 8 [(.c (.int .i64 0))] (.k (.c (.int .i64 0))) (.t 10), none, true⟩
        (.cons ⟨(some 13), .call (.k (.fn 72 [])) [(.t 12)], none, false⟩
        (.cons ⟨(some 14), .call (.t 5) [(.t 11), (.t 13)], none, true⟩
        .nil))), (.cons ⟨(some 13), .call (.k (.fn 72 [])) [(.t 12)], none, false⟩
        (.cons ⟨(some 11), .mks 3 1 8 [(.c (.int .i64 0))] (.k (.c (.int .i64 0))) (.t 10), none, true⟩
        (.cons ⟨(some 14), .call (.t 5) [(.t 11), (.t 13)], none, true⟩
        .nil)))])), (.cons ⟨(some 11), .mks 3 1 8 [(.c (.int .i64 0))] (.k (.c (.int .i64 0))) (.t 10), none, true⟩
      (.cons ⟨(some 5), .ld true 1 (.t 3), none, false⟩
      (.cons ⟨(some 13), .call (.k (.fn 72 [])) [(.t 12)], none, false⟩
      (.cons ⟨(some 14), .call (.t 5) [(.t 11), (.t 13)], none, true⟩
      .nil)))), (.cons ⟨(some 13), .call (.k (.fn 72 [])) [(.t 12)], none, false⟩
      (.br [(.cons ⟨(some 5), .ld true 1 (.t 3), none, false⟩
        (.cons ⟨(some 11), .mks 3 1 8 [(.c (.int .i64 0))] (.k (.c (.int .i64 0))) (.t 10), none, true⟩
        (.cons ⟨(some 14), .call (.t 5) [(.t 11), (.t 13)], none, true⟩
        .nil))), (.cons ⟨(some 11), .mks 3 1 8 [(.c (.int .i64 0))] (.k (.c (.int .i64 0))) (.t 10), none, true⟩
        (.cons ⟨(some 5), .ld true 1 (.t 3), none, false⟩
        (.cons ⟨(some 14), .call (.t 5) [(.t 11), (.t 13)], none, true⟩
        .nil)))]))]))]))))))
@[reducible] def v74_4 : VC := (.seq (.ops o74_2) (.drw t74_3))
@[reducible] def v74_5 : VC := (.seq (.ops o74_1) v74_4)
def ir74 : FC := ⟨2, 15, [], (.seq (.ops o74_0) v74_5)⟩
theorem c66 : compM Try.prog [] 66 = some ir66 := by kernel_rfl
theorem c74 : compM Try.prog [] 74 = some ir74 := by kernel_rfl



theorem tours66 (r : Route) : FSpec Try.prog 66 [.c (.pt r.cds)] (.fn 74 [.c (.pt [.pt r.cds])]) := by
  refine FSpec_of c66 (Nat.le_refl _) (by decide) fun C hP hN hC hL => ?_
  simp only [ir66]
  (refine WV_seq_ (WV_ops ?_); simp only [go_sem, init_env', Nat.reduceEqDiff, Nat.reduceAdd, Nat.reduceMul, reduceIte, Nat.reduceLeDiff, Nat.reduceLT, Nat.reduceBEq, reduceCtorEq, hP, ]; (repeat (refine And.intro (by first | omega | (intros; simp_all; done) | (intros; simp_all; omega)) ?_)))
  refine WV_freeze 1 (ds := [.pt r.cds]) rfl rfl ?_
  simp only [go_sem, init_env', Nat.reduceEqDiff, Nat.reduceAdd, Nat.reduceMul, reduceIte, Nat.reduceLeDiff, Nat.reduceLT, Nat.reduceBEq, reduceCtorEq, List.drop_zero]
  (repeat ((first | refine WV_seq_ ?_ | refine WV_block ?_ | refine WV_ops ?_ | refine WV_skip ?_ | refine WV_exit ?_); (try simp only [go_sem, init_env', Nat.reduceEqDiff, Nat.reduceAdd, Nat.reduceMul, reduceIte, Nat.reduceLeDiff, Nat.reduceLT, Nat.reduceBEq, reduceCtorEq, hP, ]); (repeat (refine And.intro (by first | omega | (intros; simp_all; done) | (intros; simp_all; omega)) ?_))))
  (refine WV_ret ?_; simp only [thenQ, inQ, RetQ, RetOk, resAll, resA]; simp only [go_sem, init_env', Nat.reduceEqDiff, Nat.reduceAdd, Nat.reduceMul, reduceIte, Nat.reduceLeDiff, Nat.reduceLT, Nat.reduceBEq, reduceCtorEq, tupA, AV.port, AV.portL, exists_eq_left', ]; (first | exact AVle.of rfl | refine AVle.of ?_ | skip))

set_option maxHeartbeats 2000000 in
theorem tours74 {r : Route} (hr : RouteOk r) (g : Gst) : FSpecL Try.prog 74 [.c (.raw g.fv), .c (.pt [.pt r.cds])] [.guest g ((goods r).map (entT r))] [] (fun _ l' => l' = [.guest g []]) := by
  have hn7 := hr.n7
  refine FSpecL_of c74 (by simp) (Nat.le_refl _) (by decide) (by decide) fun C hP hN hC hL => ?_; rw [init_env', ownW_upd (by simp)]; simp only [ir74, updL, updLo, List.map_nil, List.map_cons, Nat.reduceAdd, ]
  (refine WV_seq_ (WV_ops ?_); simp only [go_sem, init_env', Nat.reduceEqDiff, Nat.reduceAdd, Nat.reduceMul, reduceIte, Nat.reduceLeDiff, Nat.reduceLT, Nat.reduceBEq, reduceCtorEq, hP, ]; (repeat (refine And.intro (by first | omega | (intros; simp_all; done) | (intros; simp_all; omega)) ?_)))
  refine WV_freeze 2 (ds := [.raw g.fv]) rfl rfl ?_
  simp only [go_sem, init_env', Nat.reduceEqDiff, Nat.reduceAdd, Nat.reduceMul, reduceIte, Nat.reduceLeDiff, Nat.reduceLT, Nat.reduceBEq, reduceCtorEq, List.drop_zero]
  (repeat ((first | refine WV_seq_ ?_ | refine WV_block ?_ | refine WV_ops ?_ | refine WV_skip ?_ | refine WV_exit ?_); (try simp only [go_sem, init_env', Nat.reduceEqDiff, Nat.reduceAdd, Nat.reduceMul, reduceIte, Nat.reduceLeDiff, Nat.reduceLT, Nat.reduceBEq, reduceCtorEq, hP, ]); (repeat (refine And.intro (by first | omega | (intros; simp_all; done) | (intros; simp_all; omega)) ?_))))
  have hst : (r.stops.length : Int) = (r.n : Int) := rfl
  have hmax : maxLen = 9223372036854775807 := rfl
  generalize hju : (List.replicate r.stops.length [iv 0]).flatten = junk
  have hju1 : junk.length = r.n := by rw [← hju]; simp [Route.n]
  have hju2 : AV.pureL junk = true ∧ AV.isSolidL junk = true := by
    rw [← hju]
    generalize r.stops.length = n
    induction n with
    | zero => exact ⟨rfl, rfl⟩
    | succ n ih => simp only [List.replicate_succ, List.flatten_cons, List.cons_append, List.nil_append, AV.pureL, AV.pureB, AV.isSolidL, AV.isSolid, Bool.true_and]; exact ih
  have hspec := on75 hr g (r.n + 1) [] (leave r) junk [] (by simp) List.nodup_nil (by simp) (by simpa using hju1) hju2.1 hju2.2 (leave_ok hr)
  have hc0 : cellsT [] ++ junk = junk := rfl
  rw [hc0, List.append_nil] at hspec
  have hpj : ∀ d, AV.prgL d junk = junk := fun d => prgL_pure d hju2.1
  have hll := fun (L : List Nat) (own : Nat → Ob) => lendL_pure (b := 1000) (L := L) (own := own) hju2.1 hju2.2
  (refine WV_drw ?_; simp only [go_sem, init_env', Nat.reduceEqDiff, Nat.reduceAdd, Nat.reduceMul, reduceIte, Nat.reduceLeDiff, Nat.reduceLT, Nat.reduceBEq, reduceCtorEq, hP, Route.cds, stopsC, Int.toNat_natCast, hju, hpj]; (repeat' (refine And.intro ?_ ?_)))
  all_goals first
  | omega
  | skip
  all_goals
    refine ACall_of (leave72 r) rfl rfl rfl rfl rfl ?_
    simp only [go_sem, init_env', Nat.reduceEqDiff, Nat.reduceAdd, Nat.reduceMul, reduceIte, Nat.reduceLeDiff, Nat.reduceLT, Nat.reduceBEq, reduceCtorEq, hP, vanv, Int.toNat_natCast, hju, hpj]
    (repeat' (refine And.intro ?_ ?_))
  all_goals first
  | omega
  | skip
  all_goals
    refine AS_lend [1000, 11, 3] hspec rfl rfl rfl (by decide) ?_ ?_ ?_
    · simp only [go_sem, init_env', Nat.reduceEqDiff, Nat.reduceAdd, Nat.reduceMul, reduceIte, Nat.reduceLeDiff, Nat.reduceLT, Nat.reduceBEq, reduceCtorEq, AV.lendL, AV.lend, onArgs, vanv]
      rfl
    · simp only [go_sem, init_env', Nat.reduceEqDiff, Nat.reduceAdd, Nat.reduceMul, reduceIte, Nat.reduceLeDiff, Nat.reduceLT, Nat.reduceBEq, reduceCtorEq, obsLend, Ob.lend, AV.lendL, AV.lend, hll, onB, Route.cds, stopsC, goods]
    · rintro res l' ⟨rfl, junk', hj', hp', hs', rfl⟩
      have hbk := backs_pure (L := [1000, 11, 3]) hp'
      have hc1 : cellsT [] ++ junk' = junk' := rfl
      rw [hc1]
      refine ⟨.c (.bool true), [.guest g [], .box junk', .box [.fn 75 [.c (.pt [.raw g.fv]), .c (.pt [.pt r.cds]), .bp 3 0]]], rfl, ?_, ?_⟩
      · simp only [obsBack, Ob.back, hbk, onB]
        rfl
      · simp only [go_sem, init_env', Nat.reduceEqDiff, Nat.reduceAdd, Nat.reduceMul, reduceIte, Nat.reduceLeDiff, Nat.reduceLT, Nat.reduceBEq, reduceCtorEq, ownBack]
        ((try simp only [thenQ, inQ, RetQL, RetOkL, resAll, resA]); (try simp only [go_sem, init_env', Nat.reduceEqDiff, Nat.reduceAdd, Nat.reduceMul, reduceIte, Nat.reduceLeDiff, Nat.reduceLT, Nat.reduceBEq, reduceCtorEq, tupA, AV.keepP, AV.keepPL]); refine ⟨_, [.guest g []], rfl, KeepL_mk rfl rfl ?_ ?_ rfl, ?_⟩)
        · simp only [go_sem, init_env', Nat.reduceEqDiff, Nat.reduceAdd, Nat.reduceMul, reduceIte, Nat.reduceLeDiff, Nat.reduceLT, Nat.reduceBEq, reduceCtorEq, keepAll, Ob.keepP]
        · trivial
        · rfl
end Go.Proofs.Ytbejgfpaokcnpaa

namespace Go.Proofs.Ytbejgfpaokcnpaa
open Go Go.V
@[reducible] def o50_0 : List Ins := [⟨(some 2), .box 1 (.t 0), none, true⟩,
  ⟨(some 3), .box 1 (.t 1), none, true⟩,
  ⟨(some 4), .mv (.k (.c (.int .i64 0))), none, true⟩]
@[reducible] def o50_1 : List Ins := [⟨(some 5), .alloc [(.c (.int .i64 0))], none, true⟩,
  ⟨none, .st 1 (.t 5) (.k (.c (.int .i64 0))), none, true⟩]
@[reducible] def o50_2 : List Ins := [⟨(some 8), .ld true 1 (.t 2), none, true⟩,
  ⟨(some 9), .call (.k (.fn 66 [])) [(.t 8)], none, true⟩]
@[reducible] def o50_3 : List Ins := [⟨(some 12), .mv (.t 6), none, true⟩,
  ⟨(some 13), .len (.t 12), none, true⟩,
  ⟨(some 14), .ld true 1 (.t 2), none, true⟩,
  ⟨(some 15), .nilc (.t 14), none, true⟩,
  ⟨(some 16), .fa 0 (.t 15), none, true⟩,
  ⟨(some 17), .ld true 1 (.t 16), none, true⟩,
  ⟨(some 18), .len (.t 17), none, true⟩,
  ⟨(some 19), .bin .lss (.t 13) (.t 18), none, true⟩]
@[reducible] def v50_4 : VC := (.cond (.t 19) (.exit 1) .skip)
@[reducible] def o50_5 : List Ins := [⟨(some 20), .ld true 1 (.t 5), none, true⟩,
  ⟨(some 21), .bin .add (.t 20) (.k (.c (.int .i64 1))), none, true⟩,
  ⟨none, .st 1 (.t 5) (.t 21), none, true⟩]
@[reducible] def o50_6 : List Ins := [⟨(some 22), .mv (.t 6), none, true⟩,
  ⟨(some 23), .len (.t 22), none, true⟩,
  ⟨(some 24), .bin .gtr (.t 23) (.k (.c (.int .i64 0))), none, true⟩]
@[reducible] def o50_7 : List Ins := [⟨(some 25), .ld false 4 (.t 7), none, true⟩,
  ⟨(some 26), .call (.k (.fn 68 [])) [(.t 25)], none, true⟩,
  ⟨none, .st 4 (.t 7) (.t 26), none, true⟩]
@[reducible] def v50_8 : VC := (.cond (.t 24) (.ops o50_7) .skip)
@[reducible] def v50_9 : VC := (.seq (.ops o50_6) v50_8)
@[reducible] def o50_10 : List Ins := [⟨(some 27), .ld true 1 (.t 3), none, true⟩,
  ⟨(some 28), .mv (.t 6), none, true⟩,
  ⟨(some 29), .ld false 4 (.t 7), none, true⟩,
  ⟨(some 30), .call (.t 27) [(.t 28), (.t 29)], none, true⟩]
@[reducible] def v50_11 : VC := (.seq (.seq (.ops o50_5) v50_9) (.ops o50_10))
@[reducible] def v50_12 : VC := (.seq (.seq (.ops o50_3) v50_4) v50_11)
@[reducible] def v50_13 : VC := (.block 1 v50_12)
@[reducible] def o50_14 : List Ins := [⟨(some 6), .mv (.t 10), none, true⟩]
@[reducible] def o50_15 : List Ins := [⟨(some 7), .alloc [(.c (.raw (.pointer none))), (.c (.int .i64 0)), (.c (.int .i64 0)), (.c (.int .i64 0))], none, true⟩,
  ⟨none, .st 4 (.t 7) (.t 11), none, true⟩]
@[reducible] def v50_16 : VC := (.seq (.ops o50_14) (.ops o50_15))
@[reducible] def K50_1 : List Nat := [2, 3, 5, 9]
@[reducible] def v50_17 : VC := (.rng (.t 9) [10, 11] v50_16 v50_13)
@[reducible] def v50_18 : VC := (.block 0 v50_17)
@[reducible] def o50_19 : List Ins := [⟨(some 31), .ld true 1 (.t 5), none, true⟩,
  ⟨(some 4), .mv (.t 31), none, true⟩]
@[reducible] def v50_20 : VC := (.seq (.ops o50_19) .ret)
@[reducible] def v50_21 : VC := (.seq (.seq (.ops o50_2) v50_18) v50_20)
@[reducible] def v50_22 : VC := (.seq (.ops o50_1) v50_21)
def ir50 : FC := ⟨2, 32, [.t 4], (.seq (.ops o50_0) v50_22)⟩
theorem c50 : compM Try.prog [] 50 = some ir50 := by kernel_rfl



/-- What is kept behind the first ones. -/
def wholeF (r : Route) (g : Gst) (pre : List (List Nat × Van)) : List Ob := [.box [iv ((pre.filter (isW r)).length : Int)], .guest g ((((goods r).drop pre.length).filter (isW r)).map (entW r))]

set_option maxHeartbeats 2000000 in
theorem whole50 {r : Route} (hr : RouteOk r) (g : Gst) : FSpecL Try.prog 50 [.c (.pt r.cds), .c (.raw g.fv)] [.guest g ((wholes r).map (entW r))] [] (fun res l' => res = iv ((wholes r).length : Int) ∧ l' = [.guest g []]) := by
  have hn7 := hr.n7
  have hst : (r.stops.length : Int) = (r.n : Int) := rfl
  have hcount := goods_count hn7
  refine FSpecL_of c50 (by simp) (Nat.le_refl _) (by decide) (by decide) fun C hP hN hC hL => ?_; rw [init_env', ownW_upd (by simp)]; simp only [ir50, updL, updLo, List.map_nil, List.map_cons, Nat.reduceAdd, ]
  (refine WV_seq_ (WV_ops ?_); simp only [go_sem, init_env', Nat.reduceEqDiff, Nat.reduceAdd, Nat.reduceMul, reduceIte, Nat.reduceLeDiff, Nat.reduceLT, Nat.reduceBEq, reduceCtorEq, hP, ]; (repeat (refine And.intro (by first | omega | (intros; simp_all; done) | (intros; simp_all; omega)) ?_)))
  refine WV_freeze 2 (ds := [.pt r.cds]) rfl rfl ?_
  refine WV_freeze 3 (ds := [.raw g.fv]) rfl rfl ?_
  simp only [go_sem, init_env', Nat.reduceEqDiff, Nat.reduceAdd, Nat.reduceMul, reduceIte, Nat.reduceLeDiff, Nat.reduceLT, Nat.reduceBEq, reduceCtorEq, List.drop_zero]
  (repeat ((first | refine WV_seq_ ?_ | refine WV_block ?_ | refine WV_ops ?_ | refine WV_skip ?_ | refine WV_exit ?_); (try simp only [go_sem, init_env', Nat.reduceEqDiff, Nat.reduceAdd, Nat.reduceMul, reduceIte, Nat.reduceLeDiff, Nat.reduceLT, Nat.reduceBEq, reduceCtorEq, hP, ]); (repeat (refine And.intro (by first | omega | (intros; simp_all; done) | (intros; simp_all; omega)) ?_))))
  (refine AS_pure (tours66 r) rfl rfl rfl rfl rfl ?_; simp only [go_sem, init_env', Nat.reduceEqDiff, Nat.reduceAdd, Nat.reduceMul, reduceIte, Nat.reduceLeDiff, Nat.reduceLT, Nat.reduceBEq, reduceCtorEq, hP, ]; (repeat (refine And.intro (by first | omega | (intros; simp_all; done) | (intros; simp_all; omega)) ?_)); (repeat ((first | refine WV_seq_ ?_ | refine WV_block ?_ | refine WV_ops ?_ | refine WV_skip ?_ | refine WV_exit ?_); (try simp only [go_sem, init_env', Nat.reduceEqDiff, Nat.reduceAdd, Nat.reduceMul, reduceIte, Nat.reduceLeDiff, Nat.reduceLT, Nat.reduceBEq, reduceCtorEq, hP, ]); (repeat (refine And.intro (by first | omega | (intros; simp_all; done) | (intros; simp_all; omega)) ?_)))))
  refine WV_keep K50_1 ?_
  simp only [go_sem, init_env', Nat.reduceEqDiff, Nat.reduceAdd, Nat.reduceMul, reduceIte, Nat.reduceLeDiff, Nat.reduceLT, Nat.reduceBEq, reduceCtorEq]
  refine WV_rng hC (L := [5, 1000]) (l := wholeF r g []) (env' := lendF [5, 1000] _ _) (rem := (goods r).map (entT r)) (Fin := fun pend lf => pend = none ∧ lf = wholeF r g (goods r)) rfl rfl rfl (by decide) (by decide) ?_ (by rw [hN]; decide) (lendF_ok _ _ _) (fun g' => ?_) ?_ ?_
  · simp only [go_sem, init_env', Nat.reduceEqDiff, Nat.reduceAdd, Nat.reduceMul, reduceIte, Nat.reduceLeDiff, Nat.reduceLT, Nat.reduceBEq, reduceCtorEq, obsLend, Ob.lend, AV.lendL, AV.lend, wholeF, wholes, List.filter_nil]
    rfl
  · rw [hP]; exact ⟨_, tours74 hr g', fun _ _ h => h⟩
  · refine RunR_pre (entT r) (wholeF r g) (goods r) (fun p => rfl) (fun t _ => ⟨rfl, rfl⟩) (fun pre p post hts => ?_) (goods r) [] rfl
    have hdr : (goods r).drop pre.length = p :: post := by rw [hts]; simp
    have hdr2 : (goods r).drop (pre ++ [p]).length = post := by rw [hts]; simp
    have hpo := goods_ok hr p (by rw [hts]; simp)
    have hple := goods_len hr (p := p) (by rw [hts]; simp)
    have hpc : pre.length ≤ 16777215 := by rw [hts] at hcount; simp at hcount; omega
    have hfc : (pre.filter (isW r)).length ≤ 16777215 := Nat.le_trans (List.length_filter_le _ _) hpc
    have hprg : ∀ d, AV.prgL d (cellsT p.1) = cellsT p.1 := fun d => prgL_pure d (cellsT_pure _)
    have hF : wholeF r g pre = [.box [iv ((pre.filter (isW r)).length : Int)], .guest g (((p :: post).filter (isW r)).map (entW r))] := by rw [← hdr]; rfl
    have hF2 : wholeF r g (pre ++ [p]) = [.box [iv (((pre ++ [p]).filter (isW r)).length : Int)], .guest g ((post.filter (isW r)).map (entW r))] := by simp only [wholeF, hdr2]
    rw [hF, hF2]
    clear hF hF2 hdr hdr2
    intro C1 h1 h2 h3
    have hP0 := hP
    replace hP := h1.trans hP0
    rw [ownW_upd (by simp)]
    have hsl : (r.stops.length : Int) = (r.n : Int) := rfl
    generalize hN : (pre.filter (isW r)).length = N at hfc ⊢
    simp only [go_sem, init_env', Nat.reduceEqDiff, Nat.reduceAdd, Nat.reduceMul, reduceIte, Nat.reduceLeDiff, Nat.reduceLT, Nat.reduceBEq, reduceCtorEq, lendF_upd, lendF_e0, AV.lend, AV.lendL, Option.getD_some, Option.getD_none, List.zip_cons_cons, List.zip_nil_right, updLo, entT, vanv]
    (repeat ((first | refine WV_seq_ ?_ | refine WV_block ?_ | refine WV_ops ?_ | refine WV_skip ?_ | refine WV_exit ?_); (try simp only [go_sem, init_env', Nat.reduceEqDiff, Nat.reduceAdd, Nat.reduceMul, reduceIte, Nat.reduceLeDiff, Nat.reduceLT, Nat.reduceBEq, reduceCtorEq, hP, ]); (repeat (refine And.intro (by first | omega | (intros; simp_all; done) | (intros; simp_all; omega)) ?_))))
    intro C2 h1 h2 h3
    replace hP := h1.trans hP0
    (repeat ((first | refine WV_seq_ ?_ | refine WV_block ?_ | refine WV_ops ?_ | refine WV_skip ?_ | refine WV_exit ?_); (try simp only [go_sem, init_env', Nat.reduceEqDiff, Nat.reduceAdd, Nat.reduceMul, reduceIte, Nat.reduceLeDiff, Nat.reduceLT, Nat.reduceBEq, reduceCtorEq, hP, hprg, Route.cds, stopsC]); (repeat (refine And.intro (by first | omega | (intros; simp_all; done) | (intros; simp_all; omega)) ?_))))
    (refine WV_cond rfl (fun h => ?_) (fun h => ?_))
    · have hw : isW r p = false := by simp only [isW, hsl, decide_eq_true_eq, Int.ofNat_lt] at h ⊢; simp [h]
      rw [List.filter_cons, hw, if_neg (by simp), List.filter_append, List.filter_cons, hw]
      simp only [Bool.false_eq_true, if_false, List.filter_nil, List.append_nil, hN]
      (repeat ((first | refine WV_seq_ ?_ | refine WV_block ?_ | refine WV_ops ?_ | refine WV_skip ?_ | refine WV_exit ?_); (try simp only [go_sem, init_env', Nat.reduceEqDiff, Nat.reduceAdd, Nat.reduceMul, reduceIte, Nat.reduceLeDiff, Nat.reduceLT, Nat.reduceBEq, reduceCtorEq, hP, ]); (repeat (refine And.intro (by first | omega | (intros; simp_all; done) | (intros; simp_all; omega)) ?_))))
      refine ⟨none, _, rfl, ?_, rfl, rfl⟩; refine KeepL_mk rfl rfl ?_ ?_ rfl
      · simp only [go_sem, init_env', Nat.reduceEqDiff, Nat.reduceAdd, Nat.reduceMul, reduceIte, Nat.reduceLeDiff, Nat.reduceLT, Nat.reduceBEq, reduceCtorEq, keepAll, Ob.keepP, AV.keepP, AV.keepPL]
      · simp only [go_sem, init_env', Nat.reduceEqDiff, Nat.reduceAdd, Nat.reduceMul, reduceIte, Nat.reduceLeDiff, Nat.reduceLT, Nat.reduceBEq, reduceCtorEq, winAll]
    · have hw : isW r p = true := by simp only [isW, hsl, decide_eq_false_iff_not, Int.ofNat_lt] at h ⊢; simp [h]
      rw [List.filter_cons, hw, if_pos rfl, List.filter_append, List.filter_cons, hw]
      simp only [if_true, List.filter_nil, List.length_append, List.length_singleton, hN, List.map_cons]
      (repeat ((first | refine WV_seq_ ?_ | refine WV_block ?_ | refine WV_ops ?_ | refine WV_skip ?_ | refine WV_exit ?_); (try simp only [go_sem, init_env', Nat.reduceEqDiff, Nat.reduceAdd, Nat.reduceMul, reduceIte, Nat.reduceLeDiff, Nat.reduceLT, Nat.reduceBEq, reduceCtorEq, hP, ]); (repeat (refine And.intro (by first | omega | (intros; simp_all; done) | (intros; simp_all; omega)) ?_))))
      rw [w64 (by omega) (by omega)]
      (repeat ((first | refine WV_seq_ ?_ | refine WV_block ?_ | refine WV_ops ?_ | refine WV_skip ?_ | refine WV_exit ?_); (try simp only [go_sem, init_env', Nat.reduceEqDiff, Nat.reduceAdd, Nat.reduceMul, reduceIte, Nat.reduceLeDiff, Nat.reduceLT, Nat.reduceBEq, reduceCtorEq, hP, ]); (repeat (refine And.intro (by first | omega | (intros; simp_all; done) | (intros; simp_all; omega)) ?_))))
      (refine WV_cond rfl (fun h => ?_) (fun h => ?_))
      · have hne : p.1 ≠ [] := by rintro e; rw [e] at h; simp at h
        (repeat ((first | refine WV_seq_ ?_ | refine WV_block ?_ | refine WV_ops ?_ | refine WV_skip ?_ | refine WV_exit ?_); (try simp only [go_sem, init_env', Nat.reduceEqDiff, Nat.reduceAdd, Nat.reduceMul, reduceIte, Nat.reduceLeDiff, Nat.reduceLT, Nat.reduceBEq, reduceCtorEq, hP, ]); (repeat (refine And.intro (by first | omega | (intros; simp_all; done) | (intros; simp_all; omega)) ?_))))
        have hh := home68 hr hpo.2.2 (by omega)
        (refine AS_pure (hh) rfl rfl rfl rfl rfl ?_; simp only [go_sem, init_env', Nat.reduceEqDiff, Nat.reduceAdd, Nat.reduceMul, reduceIte, Nat.reduceLeDiff, Nat.reduceLT, Nat.reduceBEq, reduceCtorEq, hP, vanv, Route.cds, stopsC]; (repeat (refine And.intro (by first | omega | (intros; simp_all; done) | (intros; simp_all; omega)) ?_)); (repeat ((first | refine WV_seq_ ?_ | refine WV_block ?_ | refine WV_ops ?_ | refine WV_skip ?_ | refine WV_exit ?_); (try simp only [go_sem, init_env', Nat.reduceEqDiff, Nat.reduceAdd, Nat.reduceMul, reduceIte, Nat.reduceLeDiff, Nat.reduceLT, Nat.reduceBEq, reduceCtorEq, hP, vanv, Route.cds, stopsC]); (repeat (refine And.intro (by first | omega | (intros; simp_all; done) | (intros; simp_all; omega)) ?_)))))
        refine AS_guest 1001 [2000] (g := g) (e := entW r p) (rem := (post.filter (isW r)).map (entW r)) rfl rfl rfl rfl (by decide) ?_ ?_ ?_
        · simp only [go_sem, init_env', Nat.reduceEqDiff, Nat.reduceAdd, Nat.reduceMul, reduceIte, Nat.reduceLeDiff, Nat.reduceLT, Nat.reduceBEq, reduceCtorEq, AV.lendL, AV.lend, entW, vanv, atHome, home, hne, Route.cds, stopsC]
        · exact ⟨⟨⟨_, rfl, [], List.append_nil _⟩, cellsT_pure _⟩, trivial⟩
        · simp only [go_sem, init_env', Nat.reduceEqDiff, Nat.reduceAdd, Nat.reduceMul, reduceIte, Nat.reduceLeDiff, Nat.reduceLT, Nat.reduceBEq, reduceCtorEq, hP, entW, hprg]
          (repeat ((first | refine WV_seq_ ?_ | refine WV_block ?_ | refine WV_ops ?_ | refine WV_skip ?_ | refine WV_exit ?_); (try simp only [go_sem, init_env', Nat.reduceEqDiff, Nat.reduceAdd, Nat.reduceMul, reduceIte, Nat.reduceLeDiff, Nat.reduceLT, Nat.reduceBEq, reduceCtorEq, hP, ]); (repeat (refine And.intro (by first | omega | (intros; simp_all; done) | (intros; simp_all; omega)) ?_))))
          refine ⟨none, _, rfl, ?_, rfl, rfl⟩; refine KeepL_mk rfl rfl ?_ ?_ rfl
          · simp only [go_sem, init_env', Nat.reduceEqDiff, Nat.reduceAdd, Nat.reduceMul, reduceIte, Nat.reduceLeDiff, Nat.reduceLT, Nat.reduceBEq, reduceCtorEq, keepAll, Ob.keepP, AV.keepP, AV.keepPL, Int.natCast_add, Int.natCast_one]
          · simp only [go_sem, init_env', Nat.reduceEqDiff, Nat.reduceAdd, Nat.reduceMul, reduceIte, Nat.reduceLeDiff, Nat.reduceLT, Nat.reduceBEq, reduceCtorEq, winAll]
      · have hne : p.1 = [] := by simpa using h
        (repeat ((first | refine WV_seq_ ?_ | refine WV_block ?_ | refine WV_ops ?_ | refine WV_skip ?_ | refine WV_exit ?_); (try simp only [go_sem, init_env', Nat.reduceEqDiff, Nat.reduceAdd, Nat.reduceMul, reduceIte, Nat.reduceLeDiff, Nat.reduceLT, Nat.reduceBEq, reduceCtorEq, hP, ]); (repeat (refine And.intro (by first | omega | (intros; simp_all; done) | (intros; simp_all; omega)) ?_))))
        refine AS_guest 1001 [2000] (g := g) (e := entW r p) (rem := (post.filter (isW r)).map (entW r)) rfl rfl rfl rfl (by decide) ?_ ?_ ?_
        · simp only [go_sem, init_env', Nat.reduceEqDiff, Nat.reduceAdd, Nat.reduceMul, reduceIte, Nat.reduceLeDiff, Nat.reduceLT, Nat.reduceBEq, reduceCtorEq, AV.lendL, AV.lend, entW, vanv, atHome, home, hne, Route.cds, stopsC]
        · exact ⟨⟨⟨_, rfl, [], List.append_nil _⟩, cellsT_pure _⟩, trivial⟩
        · simp only [go_sem, init_env', Nat.reduceEqDiff, Nat.reduceAdd, Nat.reduceMul, reduceIte, Nat.reduceLeDiff, Nat.reduceLT, Nat.reduceBEq, reduceCtorEq, hP, entW, hprg]
          (repeat ((first | refine WV_seq_ ?_ | refine WV_block ?_ | refine WV_ops ?_ | refine WV_skip ?_ | refine WV_exit ?_); (try simp only [go_sem, init_env', Nat.reduceEqDiff, Nat.reduceAdd, Nat.reduceMul, reduceIte, Nat.reduceLeDiff, Nat.reduceLT, Nat.reduceBEq, reduceCtorEq, hP, ]); (repeat (refine And.intro (by first | omega | (intros; simp_all; done) | (intros; simp_all; omega)) ?_))))
          refine ⟨none, _, rfl, ?_, rfl, rfl⟩; refine KeepL_mk rfl rfl ?_ ?_ rfl
          · simp only [go_sem, init_env', Nat.reduceEqDiff, Nat.reduceAdd, Nat.reduceMul, reduceIte, Nat.reduceLeDiff, Nat.reduceLT, Nat.reduceBEq, reduceCtorEq, keepAll, Ob.keepP, AV.keepP, AV.keepPL, Int.natCast_add, Int.natCast_one]
          · simp only [go_sem, init_env', Nat.reduceEqDiff, Nat.reduceAdd, Nat.reduceMul, reduceIte, Nat.reduceLeDiff, Nat.reduceLT, Nat.reduceBEq, reduceCtorEq, winAll]
  · rintro _ _ ⟨rfl, rfl⟩
    refine ⟨_, rfl, rfl, ?_⟩
    simp only [go_sem, init_env', Nat.reduceEqDiff, Nat.reduceAdd, Nat.reduceMul, reduceIte, Nat.reduceLeDiff, Nat.reduceLT, Nat.reduceBEq, reduceCtorEq, exitOf, ownBack, wholeF, List.drop_length, List.filter_nil, wholes]
    (repeat ((first | refine WV_seq_ ?_ | refine WV_block ?_ | refine WV_ops ?_ | refine WV_skip ?_ | refine WV_exit ?_); (try simp only [go_sem, init_env', Nat.reduceEqDiff, Nat.reduceAdd, Nat.reduceMul, reduceIte, Nat.reduceLeDiff, Nat.reduceLT, Nat.reduceBEq, reduceCtorEq, hP, ]); (repeat (refine And.intro (by first | omega | (intros; simp_all; done) | (intros; simp_all; omega)) ?_))))
    (refine WV_ret ?_; simp only [thenQ, inQ, RetQL, RetOkL, resAll, resA]; simp only [go_sem, init_env', Nat.reduceEqDiff, Nat.reduceAdd, Nat.reduceMul, reduceIte, Nat.reduceLeDiff, Nat.reduceLT, Nat.reduceBEq, reduceCtorEq, tupA, AV.keepP, AV.keepPL]; refine ⟨_, [.guest g []], rfl, KeepL_mk rfl rfl ?_ ?_ rfl, ?_⟩)
    · simp only [go_sem, init_env', Nat.reduceEqDiff, Nat.reduceAdd, Nat.reduceMul, reduceIte, Nat.reduceLeDiff, Nat.reduceLT, Nat.reduceBEq, reduceCtorEq, keepAll, Ob.keepP]
    · trivial
    · exact ⟨rfl, rfl⟩
end Go.Proofs.Ytbejgfpaokcnpaa

namespace Go.Proofs.Ytbejgfpaokcnpaa
open Go Go.V
@[reducible] def o61_0 : List Ins := [⟨(some 2), .box 3 (.t 0), none, true⟩,
  ⟨(some 4), .mv (.k (.c (.int .i64 0))), none, true⟩]
@[reducible] def o61_1 : List Ins := [⟨(some 6), .ld false 3 (.t 2), none, true⟩,
  ⟨(some 7), .call (.k (.fn 26 [])) [(.t 6)], none, true⟩,
  ⟨(some 5), .mv (.t 7), none, true⟩]
@[reducible] def o61_2 : List Ins := [⟨(some 8), .mv (.t 5), none, true⟩,
  ⟨(some 9), .bin .neq (.t 8) (.k (.c (.int .i64 0))), none, true⟩]
@[reducible] def o61_3 : List Ins := [⟨(some 10), .mv (.t 5), none, true⟩,
  ⟨(some 4), .mv (.t 10), none, true⟩]
@[reducible] def v61_4 : VC := (.seq (.ops o61_3) .ret)
@[reducible] def v61_5 : VC := (.cond (.t 9) v61_4 .skip)
@[reducible] def v61_6 : VC := (.seq (.ops o61_2) v61_5)
@[reducible] def o61_7 : List Ins := [⟨(some 11), .mv (.t 1), none, true⟩,
  ⟨(some 12), .call (.k (.fn 50 [])) [(.t 2), (.t 11)], none, true⟩,
  ⟨(some 13), .bin .eql (.t 12) (.k (.c (.int .i64 0))), none, true⟩]
@[reducible] def o61_8 : List Ins := [⟨(some 4), .mv (.k (.c (.int .i64 3))), none, true⟩]
@[reducible] def v61_9 : VC := (.seq (.ops o61_8) .ret)
@[reducible] def v61_10 : VC := (.cond (.t 13) v61_9 .skip)
@[reducible] def o61_11 : List Ins := [⟨(some 4), .mv (.k (.c (.int .i64 0))), none, true⟩]
@[reducible] def v61_12 : VC := (.seq (.ops o61_11) .ret)
@[reducible] def v61_13 : VC := (.seq (.seq (.ops o61_7) v61_10) v61_12)
@[reducible] def v61_14 : VC := (.seq (.seq (.ops o61_1) v61_6) v61_13)
def ir61 : FC := ⟨2, 14, [.t 4], (.seq (.ops o61_0) v61_14)⟩
theorem c61 : compM Try.prog [] 61 = some ir61 := by kernel_rfl



def wholesOf (r : Route) : List (List Nat × Van) := if r.ok then wholes r else []
def someE (r : Route) : Int := if r.ok then (if wholes r = [] then 3 else 0) else 80

set_option maxHeartbeats 1000000 in
theorem some61 (r : Route) (g : Gst) : FSpecL Try.prog 61 [r.av, .c (.raw g.fv)] [.guest g ((wholesOf r).map (entW r))] [] (fun res l' => res = iv (someE r) ∧ l' = [.guest g []]) := by
  refine FSpecL_of c61 (by simp) (Nat.le_refl _) (by decide) (by decide) fun C hP hN hC hL => ?_; rw [init_env', ownW_upd (by simp)]; simp only [ir61, updL, updLo, List.map_nil, List.map_cons, Nat.reduceAdd, Route.av]
  (repeat ((first | refine WV_seq_ ?_ | refine WV_block ?_ | refine WV_ops ?_ | refine WV_skip ?_ | refine WV_exit ?_); (try simp only [go_sem, init_env', Nat.reduceEqDiff, Nat.reduceAdd, Nat.reduceMul, reduceIte, Nat.reduceLeDiff, Nat.reduceLT, Nat.reduceBEq, reduceCtorEq, hP, ]); (repeat (refine And.intro (by first | omega | (intros; simp_all; done) | (intros; simp_all; omega)) ?_))))
  (refine AS_pure (rcheck_spec r) rfl rfl rfl rfl rfl ?_; simp only [go_sem, init_env', Nat.reduceEqDiff, Nat.reduceAdd, Nat.reduceMul, reduceIte, Nat.reduceLeDiff, Nat.reduceLT, Nat.reduceBEq, reduceCtorEq, hP, Route.av]; (repeat (refine And.intro (by first | omega | (intros; simp_all; done) | (intros; simp_all; omega)) ?_)); (repeat ((first | refine WV_seq_ ?_ | refine WV_block ?_ | refine WV_ops ?_ | refine WV_skip ?_ | refine WV_exit ?_); (try simp only [go_sem, init_env', Nat.reduceEqDiff, Nat.reduceAdd, Nat.reduceMul, reduceIte, Nat.reduceLeDiff, Nat.reduceLT, Nat.reduceBEq, reduceCtorEq, hP, Route.av]); (repeat (refine And.intro (by first | omega | (intros; simp_all; done) | (intros; simp_all; omega)) ?_)))))
  by_cases hok : r.ok = true
  · have hr := Route.ok_spec hok
    rw [show wholesOf r = wholes r from if_pos hok]
    simp only [hok, if_true]
    (refine WV_cond rfl (fun h => ?_) (fun h => ?_))
    · simp at h
    · refine WV_freeze 2 (ds := r.cds) rfl rfl ?_
      (repeat ((first | refine WV_seq_ ?_ | refine WV_block ?_ | refine WV_ops ?_ | refine WV_skip ?_ | refine WV_exit ?_); (try simp only [go_sem, init_env', Nat.reduceEqDiff, Nat.reduceAdd, Nat.reduceMul, reduceIte, Nat.reduceLeDiff, Nat.reduceLT, Nat.reduceBEq, reduceCtorEq, hP, ]); (repeat (refine And.intro (by first | omega | (intros; simp_all; done) | (intros; simp_all; omega)) ?_))))
      refine AS_lend [1000] (whole50 hr g) rfl rfl rfl (by decide) ?_ ?_ ?_
      · simp only [go_sem, init_env', Nat.reduceEqDiff, Nat.reduceAdd, Nat.reduceMul, reduceIte, Nat.reduceLeDiff, Nat.reduceLT, Nat.reduceBEq, reduceCtorEq, AV.lendL, AV.lend, Route.cds]
      · simp only [go_sem, init_env', Nat.reduceEqDiff, Nat.reduceAdd, Nat.reduceMul, reduceIte, Nat.reduceLeDiff, Nat.reduceLT, Nat.reduceBEq, reduceCtorEq, obsLend, Ob.lend, AV.lendL, AV.lend]
      · rintro res l' ⟨rfl, rfl⟩
        refine ⟨_, _, rfl, rfl, ?_⟩
        simp only [go_sem, init_env', Nat.reduceEqDiff, Nat.reduceAdd, Nat.reduceMul, reduceIte, Nat.reduceLeDiff, Nat.reduceLT, Nat.reduceBEq, reduceCtorEq, ownBack]
        (repeat ((first | refine WV_seq_ ?_ | refine WV_block ?_ | refine WV_ops ?_ | refine WV_skip ?_ | refine WV_exit ?_); (try simp only [go_sem, init_env', Nat.reduceEqDiff, Nat.reduceAdd, Nat.reduceMul, reduceIte, Nat.reduceLeDiff, Nat.reduceLT, Nat.reduceBEq, reduceCtorEq, hP, ]); (repeat (refine And.intro (by first | omega | (intros; simp_all; done) | (intros; simp_all; omega)) ?_))))
        (refine WV_cond rfl (fun h => ?_) (fun h => ?_))
        · have hw : wholes r = [] := by simpa using h
          (repeat ((first | refine WV_seq_ ?_ | refine WV_block ?_ | refine WV_ops ?_ | refine WV_skip ?_ | refine WV_exit ?_); (try simp only [go_sem, init_env', Nat.reduceEqDiff, Nat.reduceAdd, Nat.reduceMul, reduceIte, Nat.reduceLeDiff, Nat.reduceLT, Nat.reduceBEq, reduceCtorEq, hP, ]); (repeat (refine And.intro (by first | omega | (intros; simp_all; done) | (intros; simp_all; omega)) ?_))))
          (refine WV_ret ?_; simp only [thenQ, inQ, RetQL, RetOkL, resAll, resA]; simp only [go_sem, init_env', Nat.reduceEqDiff, Nat.reduceAdd, Nat.reduceMul, reduceIte, Nat.reduceLeDiff, Nat.reduceLT, Nat.reduceBEq, reduceCtorEq, tupA, AV.keepP, AV.keepPL]; refine ⟨_, [.guest g []], rfl, KeepL_mk rfl rfl ?_ ?_ rfl, ?_⟩)
          · simp only [go_sem, init_env', Nat.reduceEqDiff, Nat.reduceAdd, Nat.reduceMul, reduceIte, Nat.reduceLeDiff, Nat.reduceLT, Nat.reduceBEq, reduceCtorEq, keepAll, Ob.keepP]
          · trivial
          · simp [someE, hok, hw]
        · have hw : wholes r ≠ [] := by intro e; rw [e] at h; simp at h
          (repeat ((first | refine WV_seq_ ?_ | refine WV_block ?_ | refine WV_ops ?_ | refine WV_skip ?_ | refine WV_exit ?_); (try simp only [go_sem, init_env', Nat.reduceEqDiff, Nat.reduceAdd, Nat.reduceMul, reduceIte, Nat.reduceLeDiff, Nat.reduceLT, Nat.reduceBEq, reduceCtorEq, hP, ]); (repeat (refine And.intro (by first | omega | (intros; simp_all; done) | (intros; simp_all; omega)) ?_))))
          (refine WV_ret ?_; simp only [thenQ, inQ, RetQL, RetOkL, resAll, resA]; simp only [go_sem, init_env', Nat.reduceEqDiff, Nat.reduceAdd, Nat.reduceMul, reduceIte, Nat.reduceLeDiff, Nat.reduceLT, Nat.reduceBEq, reduceCtorEq, tupA, AV.keepP, AV.keepPL]; refine ⟨_, [.guest g []], rfl, KeepL_mk rfl rfl ?_ ?_ rfl, ?_⟩)
          · simp only [go_sem, init_env', Nat.reduceEqDiff, Nat.reduceAdd, Nat.reduceMul, reduceIte, Nat.reduceLeDiff, Nat.reduceLT, Nat.reduceBEq, reduceCtorEq, keepAll, Ob.keepP]
          · trivial
          · simp [someE, hok, hw]
  · have hok : r.ok = false := by simpa using hok
    rw [show wholesOf r = [] from by simp [wholesOf, hok]]
    simp only [hok, Bool.false_eq_true, if_false]
    (refine WV_cond rfl (fun h => ?_) (fun h => ?_))
    · (repeat ((first | refine WV_seq_ ?_ | refine WV_block ?_ | refine WV_ops ?_ | refine WV_skip ?_ | refine WV_exit ?_); (try simp only [go_sem, init_env', Nat.reduceEqDiff, Nat.reduceAdd, Nat.reduceMul, reduceIte, Nat.reduceLeDiff, Nat.reduceLT, Nat.reduceBEq, reduceCtorEq, hP, ]); (repeat (refine And.intro (by first | omega | (intros; simp_all; done) | (intros; simp_all; omega)) ?_))))
      (refine WV_ret ?_; simp only [thenQ, inQ, RetQL, RetOkL, resAll, resA]; simp only [go_sem, init_env', Nat.reduceEqDiff, Nat.reduceAdd, Nat.reduceMul, reduceIte, Nat.reduceLeDiff, Nat.reduceLT, Nat.reduceBEq, reduceCtorEq, tupA, AV.keepP, AV.keepPL]; refine ⟨_, [.guest g []], rfl, KeepL_mk rfl rfl ?_ ?_ rfl, ?_⟩)
      · simp only [go_sem, init_env', Nat.reduceEqDiff, Nat.reduceAdd, Nat.reduceMul, reduceIte, Nat.reduceLeDiff, Nat.reduceLT, Nat.reduceBEq, reduceCtorEq, keepAll, Ob.keepP]
      · trivial
      · simp [someE, hok]
    · simp at h
end Go.Proofs.Ytbejgfpaokcnpaa

namespace Go.Proofs.Ytbejgfpaokcnpaa
open Go Go.V
@[reducible] def o62_0 : List Ins := [⟨(some 4), .box 4 (.t 1), none, true⟩]
@[reducible] def o62_1 : List Ins := [⟨(some 5), .ld true 1 (.t 2), none, true⟩,
  ⟨(some 6), .bin .lss (.t 5) (.k (.c (.int .i64 0))), none, true⟩,
  ⟨(some 7), .mv (.t 6), none, true⟩,
  ⟨(some 8), .fa 2 (.t 4), (some (7, false)), true⟩,
  ⟨(some 9), .ld true 1 (.t 8), (some (7, false)), true⟩,
  ⟨(some 10), .ld true 1 (.t 2), (some (7, false)), true⟩,
  ⟨(some 11), .bin .lss (.t 9) (.t 10), (some (7, false)), true⟩,
  ⟨(some 12), .pick (.t 7) (.k (.c (.bool true))) (.t 11), none, true⟩]
@[reducible] def o62_2 : List Ins := [⟨(some 13), .fa 2 (.t 4), none, true⟩,
  ⟨(some 14), .ld true 1 (.t 13), none, true⟩,
  ⟨none, .st 1 (.t 2) (.t 14), none, true⟩]
@[reducible] def v62_3 : VC := (.cond (.t 12) (.ops o62_2) .skip)
@[reducible] def v62_4 : VC := (.seq (.ops o62_1) v62_3)
def ir62 : FC := ⟨3, 15, [], (.seq (.ops o62_0) v62_4)⟩
@[reducible] def o35_0 : List Ins := [⟨(some 1), .box 3 (.t 0), none, true⟩,
  ⟨(some 2), .mv (.k (.c (.int .i64 0))), none, true⟩,
  ⟨(some 3), .mv (.k (.c (.int .i64 0))), none, true⟩]
@[reducible] def o35_1 : List Ins := [⟨(some 4), .alloc [(.c (.int .i64 0))], none, true⟩,
  ⟨none, .st 1 (.t 4) (.k (.c (.int .i64 (-1)))), none, true⟩]
@[reducible] def o35_2 : List Ins := [⟨(some 6), .ld false 3 (.t 1), none, true⟩,
  ⟨(some 7), .mkfn 62 [(.t 4)], none, true⟩,
  ⟨(some 8), .call (.k (.fn 61 [])) [(.t 6), (.t 7)], none, true⟩,
  ⟨(some 5), .mv (.t 8), none, true⟩]
@[reducible] def o35_3 : List Ins := [⟨(some 9), .mv (.t 5), none, true⟩,
  ⟨(some 10), .bin .neq (.t 9) (.k (.c (.int .i64 0))), none, true⟩]
@[reducible] def o35_4 : List Ins := [⟨(some 11), .mv (.t 5), none, true⟩,
  ⟨(some 2), .mv (.k (.c (.int .i64 0))), none, true⟩,
  ⟨(some 3), .mv (.t 11), none, true⟩]
@[reducible] def v35_5 : VC := (.seq (.ops o35_4) .ret)
@[reducible] def v35_6 : VC := (.cond (.t 10) v35_5 .skip)
@[reducible] def v35_7 : VC := (.seq (.ops o35_3) v35_6)
@[reducible] def o35_8 : List Ins := [⟨(some 12), .ld true 1 (.t 4), none, true⟩,
  ⟨(some 2), .mv (.t 12), none, true⟩,
  ⟨(some 3), .mv (.k (.c (.int .i64 0))), none, true⟩]
@[reducible] def v35_9 : VC := (.seq (.ops o35_8) .ret)
@[reducible] def v35_10 : VC := (.seq (.seq (.ops o35_2) v35_7) v35_9)
@[reducible] def v35_11 : VC := (.seq (.ops o35_1) v35_10)
def ir35 : FC := ⟨1, 13, [.t 2, .t 3], (.seq (.ops o35_0) v35_11)⟩
theorem c62 : compM Try.prog [] 62 = some ir62 := by kernel_rfl
theorem c35 : compM Try.prog [] 35 = some ir35 := by kernel_rfl



/-- The least so far; below 0: none. -/
def lessS (b n : Int) : Int := if b < 0 ∨ n < b then n else b
def leastS (l : List Int) : Int := l.foldl lessS (-1)
theorem leastS_snoc (l : List Int) (n : Int) : leastS (l ++ [n]) = lessS (leastS l) n := by simp [leastS]

set_option maxHeartbeats 1000000 in
theorem soon62 (r : Route) (v : Van) (b : Int) (t : List Nat) : FSpecL Try.prog 62 [.vw 1 2000 0 t.length r.n, vanv r v, .bp 1000 0] [.box [iv b]] [cellsT t] (fun res l' => res = .tup [] ∧ l' = [.box [iv (lessS b v.now)]]) := by
  have hprg : ∀ d, AV.prgL d (cellsT t) = cellsT t := fun d => prgL_pure d (cellsT_pure _)
  refine FSpecL_of c62 (by simp) (Nat.le_refl _) (by decide) (by decide) fun C hP hN hC hL => ?_; rw [init_env', ownW_upd (by simp)]; simp only [ir62, updL, updLo, List.map_nil, List.map_cons, Nat.reduceAdd, vanv]
  (repeat ((first | refine WV_seq_ ?_ | refine WV_block ?_ | refine WV_ops ?_ | refine WV_skip ?_ | refine WV_exit ?_); (try simp only [go_sem, init_env', Nat.reduceEqDiff, Nat.reduceAdd, Nat.reduceMul, reduceIte, Nat.reduceLeDiff, Nat.reduceLT, Nat.reduceBEq, reduceCtorEq, hP, hprg]); (repeat (refine And.intro (by first | omega | (intros; simp_all; done) | (intros; simp_all; omega)) ?_))))
  (refine WV_cond rfl (fun h => ?_) (fun h => ?_))
  · have h : b < 0 ∨ v.now < b := by simpa using h
    have e : lessS b v.now = v.now := if_pos h
    (repeat ((first | refine WV_seq_ ?_ | refine WV_block ?_ | refine WV_ops ?_ | refine WV_skip ?_ | refine WV_exit ?_); (try simp only [go_sem, init_env', Nat.reduceEqDiff, Nat.reduceAdd, Nat.reduceMul, reduceIte, Nat.reduceLeDiff, Nat.reduceLT, Nat.reduceBEq, reduceCtorEq, hP, hprg]); (repeat (refine And.intro (by first | omega | (intros; simp_all; done) | (intros; simp_all; omega)) ?_))))
    ((try simp only [thenQ, inQ, RetQL, RetOkL, resAll, resA]); (try simp only [go_sem, init_env', Nat.reduceEqDiff, Nat.reduceAdd, Nat.reduceMul, reduceIte, Nat.reduceLeDiff, Nat.reduceLT, Nat.reduceBEq, reduceCtorEq, tupA, AV.keepP, AV.keepPL]); refine ⟨_, [.box [iv (lessS b v.now)]], rfl, KeepL_mk rfl rfl ?_ ?_ rfl, ?_⟩)
    · simp only [go_sem, init_env', Nat.reduceEqDiff, Nat.reduceAdd, Nat.reduceMul, reduceIte, Nat.reduceLeDiff, Nat.reduceLT, Nat.reduceBEq, reduceCtorEq, keepAll, Ob.keepP, AV.keepP, AV.keepPL, e]
    · simp only [go_sem, init_env', Nat.reduceEqDiff, Nat.reduceAdd, Nat.reduceMul, reduceIte, Nat.reduceLeDiff, Nat.reduceLT, Nat.reduceBEq, reduceCtorEq, winAll]
    · exact ⟨rfl, rfl⟩
  · have h : ¬ (b < 0 ∨ v.now < b) := by simpa using h
    have e : lessS b v.now = b := if_neg h
    (repeat ((first | refine WV_seq_ ?_ | refine WV_block ?_ | refine WV_ops ?_ | refine WV_skip ?_ | refine WV_exit ?_); (try simp only [go_sem, init_env', Nat.reduceEqDiff, Nat.reduceAdd, Nat.reduceMul, reduceIte, Nat.reduceLeDiff, Nat.reduceLT, Nat.reduceBEq, reduceCtorEq, hP, hprg]); (repeat (refine And.intro (by first | omega | (intros; simp_all; done) | (intros; simp_all; omega)) ?_))))
    ((try simp only [thenQ, inQ, RetQL, RetOkL, resAll, resA]); (try simp only [go_sem, init_env', Nat.reduceEqDiff, Nat.reduceAdd, Nat.reduceMul, reduceIte, Nat.reduceLeDiff, Nat.reduceLT, Nat.reduceBEq, reduceCtorEq, tupA, AV.keepP, AV.keepPL]); refine ⟨_, [.box [iv (lessS b v.now)]], rfl, KeepL_mk rfl rfl ?_ ?_ rfl, ?_⟩)
    · simp only [go_sem, init_env', Nat.reduceEqDiff, Nat.reduceAdd, Nat.reduceMul, reduceIte, Nat.reduceLeDiff, Nat.reduceLT, Nat.reduceBEq, reduceCtorEq, keepAll, Ob.keepP, AV.keepP, AV.keepPL, e]
    · simp only [go_sem, init_env', Nat.reduceEqDiff, Nat.reduceAdd, Nat.reduceMul, reduceIte, Nat.reduceLeDiff, Nat.reduceLT, Nat.reduceBEq, reduceCtorEq, winAll]
    · exact ⟨rfl, rfl⟩

def soonS (r : Route) : Int × Int := if someE r = 0 then (leastS ((wholes r).map fun p => (atHome r p).now), 0) else (0, someE r)
def soonF (r : Route) (pre : List (List Nat × Van)) : List Ob := [.box [iv (leastS (pre.map fun p => (atHome r p).now))]]
theorem someE_ok {r : Route} (h : someE r = 0) : r.ok = true ∧ wholes r ≠ [] := by
  unfold someE at h
  cases hk : r.ok with
  | false => rw [hk] at h; simp at h
  | true => rw [hk] at h; refine ⟨rfl, fun e => ?_⟩; rw [e] at h; simp at h

set_option maxHeartbeats 1000000 in
theorem soon35 (r : Route) : FSpec Try.prog 35 [r.av] (.tup [iv (soonS r).1, iv (soonS r).2]) := by
  refine FSpec_of c35 (Nat.le_refl _) (by decide) fun C hP hN hC hL => ?_
  simp only [ir35, Route.av]
  (repeat ((first | refine WV_seq_ ?_ | refine WV_block ?_ | refine WV_ops ?_ | refine WV_skip ?_ | refine WV_exit ?_); (try simp only [go_sem, init_env', Nat.reduceEqDiff, Nat.reduceAdd, Nat.reduceMul, reduceIte, Nat.reduceLeDiff, Nat.reduceLT, Nat.reduceBEq, reduceCtorEq, hP, ]); (repeat (refine And.intro (by first | omega | (intros; simp_all; done) | (intros; simp_all; omega)) ?_))))
  · refine AS_clos [4] [r.av] [] (l := soonF r []) (lf := soonF r (wholesOf r)) (r := iv (someE r)) (some61 r) rfl rfl rfl (by decide) (by decide) rfl rfl rfl rfl ?_ (soon62 r (leave r) 0 []).1 ?_ rfl ?_
    · simp only [go_sem, init_env', Nat.reduceEqDiff, Nat.reduceAdd, Nat.reduceMul, reduceIte, Nat.reduceLeDiff, Nat.reduceLT, Nat.reduceBEq, reduceCtorEq, obsLend, Ob.lend, AV.lendL, AV.lend, soonF, leastS, List.foldl_nil]
    · refine Run_pre (entW r) (soonF r) (wholesOf r) (fun p => rfl) (fun t _ => rfl) (fun pre p post hts => ?_) _ [] rfl
      have := soon62 r (atHome r p) (leastS (pre.map fun p => (atHome r p).now)) p.1
      simp only [soonF, List.map_append, List.map_cons, List.map_nil, leastS_snoc]
      exact this
    · refine ⟨_, rfl, rfl, ?_⟩
      simp only [go_sem, init_env', Nat.reduceEqDiff, Nat.reduceAdd, Nat.reduceMul, reduceIte, Nat.reduceLeDiff, Nat.reduceLT, Nat.reduceBEq, reduceCtorEq, ownBack]
      (repeat ((first | refine WV_seq_ ?_ | refine WV_block ?_ | refine WV_ops ?_ | refine WV_skip ?_ | refine WV_exit ?_); (try simp only [go_sem, init_env', Nat.reduceEqDiff, Nat.reduceAdd, Nat.reduceMul, reduceIte, Nat.reduceLeDiff, Nat.reduceLT, Nat.reduceBEq, reduceCtorEq, hP, ]); (repeat (refine And.intro (by first | omega | (intros; simp_all; done) | (intros; simp_all; omega)) ?_))))
      (refine WV_cond rfl (fun h => ?_) (fun h => ?_))
      · have h : someE r ≠ 0 := by simpa using h
        (repeat ((first | refine WV_seq_ ?_ | refine WV_block ?_ | refine WV_ops ?_ | refine WV_skip ?_ | refine WV_exit ?_); (try simp only [go_sem, init_env', Nat.reduceEqDiff, Nat.reduceAdd, Nat.reduceMul, reduceIte, Nat.reduceLeDiff, Nat.reduceLT, Nat.reduceBEq, reduceCtorEq, hP, ]); (repeat (refine And.intro (by first | omega | (intros; simp_all; done) | (intros; simp_all; omega)) ?_))))
        (refine WV_ret ?_; simp only [thenQ, inQ, RetQ, RetOk, resAll, resA]; simp only [go_sem, init_env', Nat.reduceEqDiff, Nat.reduceAdd, Nat.reduceMul, reduceIte, Nat.reduceLeDiff, Nat.reduceLT, Nat.reduceBEq, reduceCtorEq, tupA, AV.port, AV.portL, exists_eq_left', ]; (first | exact AVle.of rfl | refine AVle.of ?_ | skip))
        simp [soonS, h]
      · have h : someE r = 0 := by simpa using h
        (repeat ((first | refine WV_seq_ ?_ | refine WV_block ?_ | refine WV_ops ?_ | refine WV_skip ?_ | refine WV_exit ?_); (try simp only [go_sem, init_env', Nat.reduceEqDiff, Nat.reduceAdd, Nat.reduceMul, reduceIte, Nat.reduceLeDiff, Nat.reduceLT, Nat.reduceBEq, reduceCtorEq, hP, ]); (repeat (refine And.intro (by first | omega | (intros; simp_all; done) | (intros; simp_all; omega)) ?_))))
        (refine WV_ret ?_; simp only [thenQ, inQ, RetQ, RetOk, resAll, resA]; simp only [go_sem, init_env', Nat.reduceEqDiff, Nat.reduceAdd, Nat.reduceMul, reduceIte, Nat.reduceLeDiff, Nat.reduceLT, Nat.reduceBEq, reduceCtorEq, tupA, AV.port, AV.portL, exists_eq_left', ]; (first | exact AVle.of rfl | refine AVle.of ?_ | skip))
        simp [soonS, h, wholesOf, (someE_ok h).1]
end Go.Proofs.Ytbejgfpaokcnpaa

namespace Go.Proofs.Ytbejgfpaokcnpaa
open Go Go.V
@[reducible] def o52_0 : List Ins := [⟨(some 4), .mv (.k (.c (.int .i64 0))), none, true⟩]
@[reducible] def o52_1 : List Ins := [⟨(some 5), .mv (.k (.c (.int .i64 1440))), none, true⟩]
@[reducible] def o52_2 : List Ins := [⟨(some 8), .mv (.t 1), none, true⟩,
  ⟨(some 9), .len (.t 8), none, true⟩,
  ⟨(some 10), .bin .sub (.t 9) (.k (.c (.int .i64 1))), none, true⟩,
  ⟨(some 6), .mv (.t 10), none, true⟩]
@[reducible] def o52_3 : List Ins := [⟨(some 11), .mv (.t 6), none, true⟩,
  ⟨(some 12), .bin .geq (.t 11) (.k (.c (.int .i64 0))), none, true⟩]
@[reducible] def v52_4 : VC := (.cond (.t 12) .skip (.exit 0))
@[reducible] def o52_5 : List Ins := [⟨(some 15), .mv (.t 0), none, false⟩,
  ⟨(some 16), .nilc (.t 15), none, false⟩,
  ⟨(some 17), .fa 0 (.t 16), none, false⟩,
  ⟨(some 18), .ld true 1 (.t 17), none, false⟩,
  ⟨(some 19), .mv (.t 1), none, false⟩,
  ⟨(some 20), .mv (.t 6), none, false⟩,
  ⟨(some 21), .ia 1 (.t 19) (.t 20), none, false⟩,
  ⟨(some 22), .ld true 1 (.t 21), none, false⟩,
  ⟨(some 23), .ia 4 (.t 18) (.t 22), none, false⟩,
  ⟨(some 24), .ld false 4 (.t 23), none, false⟩,
  ⟨(some 7), .alloc [(.c (.int .i64 0)), (.c (.int .i64 0)), (.c (.int .i64 0)), (.c (.int .i64 0))], none, false⟩,
  ⟨none, .st 4 (.t 7) (.t 24), none, true⟩]
@[reducible] def o52_6 : List Ins := [⟨(some 25), .mv (.t 6), none, true⟩,
  ⟨(some 26), .mv (.t 1), none, true⟩,
  ⟨(some 27), .len (.t 26), none, true⟩,
  ⟨(some 28), .bin .sub (.t 27) (.k (.c (.int .i64 1))), none, true⟩,
  ⟨(some 29), .bin .eql (.t 25) (.t 28), none, true⟩]
@[reducible] def o52_7 : List Ins := [⟨(some 30), .fa 1 (.t 7), none, true⟩,
  ⟨(some 31), .ld true 1 (.t 30), none, true⟩,
  ⟨(some 5), .mv (.t 31), none, true⟩]
@[reducible] def o52_8 : List Ins := [⟨(some 32), .fa 1 (.t 7), none, false⟩,
  ⟨(some 33), .ld true 1 (.t 32), none, false⟩,
  ⟨(some 34), .mv (.t 5), none, false⟩,
  ⟨(some 35), .mv (.t 0), none, false⟩,
  ⟨(some 36), .nilc (.t 35), none, false⟩,
  ⟨(some 37), .fa 1 (.t 36), none, false⟩,
  ⟨(some 38), .ld true 1 (.t 37), none, false⟩,
  ⟨(some 39), .mv (.t 1), none, false⟩,
  ⟨(some 40), .mv (.t 6), none, false⟩,
  ⟨(some 41), .ia 1 (.t 39) (.t 40), none, false⟩,
  ⟨(some 42), .ld true 1 (.t 41), none, false⟩,
  ⟨(some 43), .ia 1 (.t 38) (.t 42), none, false⟩,
  ⟨(some 44), .ld true 1 (.t 43), none, false⟩,
  ⟨(some 45), .mv (.t 1), none, false⟩,
  ⟨(some 46), .mv (.t 6), none, false⟩,
  ⟨(some 47), .bin .add (.t 46) (.k (.c (.int .i64 1))), none, false⟩,
  ⟨(some 48), .ia 1 (.t 45) (.t 47), none, false⟩,
  ⟨(some 49), .ld true 1 (.t 48), none, false⟩,
  ⟨(some 50), .ia 1 (.t 44) (.t 49), none, false⟩,
  ⟨(some 51), .ld true 1 (.t 50), none, false⟩,
  ⟨(some 52), .bin .sub (.t 34) (.t 51), none, false⟩,
  ⟨(some 53), .fa 2 (.t 7), none, false⟩,
  ⟨(some 54), .ld true 1 (.t 53), none, false⟩,
  ⟨(some 55), .bin .sub (.t 52) (.t 54), none, false⟩,
  ⟨(some 56), .mm false (.t 33) (.t 55), none, true⟩,
  ⟨(some 5), .mv (.t 56), none, true⟩]
@[reducible] def o52_9 : List Ins := [⟨(some 57), .mv (.t 5), none, true⟩,
  ⟨(some 58), .fa 0 (.t 7), none, true⟩,
  ⟨(some 59), .ld true 1 (.t 58), none, true⟩,
  ⟨(some 60), .bin .lss (.t 57) (.t 59), none, true⟩]
@[reducible] def o52_10 : List Ins := [⟨(some 4), .mv (.k (.c (.int .i64 (-1)))), none, true⟩]
@[reducible] def v52_11 : VC := (.seq (.ops o52_10) .ret)
@[reducible] def v52_12 : VC := (.cond (.t 60) v52_11 .skip)
@[reducible] def v52_13 : VC := (.seq (.ops o52_9) v52_12)
@[reducible] def v52_14 : VC := (.seq (.ops o52_8) v52_13)
@[reducible] def v52_15 : VC := (.cond (.t 29) (.ops o52_7) v52_14)
@[reducible] def v52_16 : VC := (.seq (.ops o52_6) v52_15)
@[reducible] def v52_17 : VC := (.seq (.ops o52_5) v52_16)
@[reducible] def o52_18 : List Ins := [⟨(some 13), .mv (.t 6), none, true⟩,
  ⟨(some 14), .bin .sub (.t 13) (.k (.c (.int .i64 1))), none, true⟩,
  ⟨(some 6), .mv (.t 14), none, true⟩]
@[reducible] def v52_19 : VC := (.seq (.block 1 v52_17) (.ops o52_18))
@[reducible] def v52_20 : VC := (.seq (.seq (.ops o52_3) v52_4) v52_19)
-- K52_1: changed and kept: [6, 5]
@[reducible] def K52_1 : List Nat := [0, 1]
@[reducible] def v52_21 : VC := (.loop v52_20)
@[reducible] def v52_22 : VC := (.block 0 v52_21)
@[reducible] def o52_23 : List Ins := [⟨(some 61), .mv (.t 1), none, true⟩,
  ⟨(some 62), .len (.t 61), none, true⟩,
  ⟨(some 63), .bin .gtr (.t 62) (.k (.c (.int .i64 0))), none, true⟩]
@[reducible] def o52_24 : List Ins := [⟨(some 64), .mv (.t 5), none, false⟩,
  ⟨(some 65), .mv (.t 0), none, false⟩,
  ⟨(some 66), .nilc (.t 65), none, false⟩,
  ⟨(some 67), .fa 1 (.t 66), none, false⟩,
  ⟨(some 68), .ld true 1 (.t 67), none, false⟩,
  ⟨(some 69), .mv (.t 0), none, false⟩,
  ⟨(some 70), .nilc (.t 69), none, false⟩,
  ⟨(some 71), .fa 0 (.t 70), none, false⟩,
  ⟨(some 72), .ld true 1 (.t 71), none, false⟩,
  ⟨(some 73), .len (.t 72), none, false⟩,
  ⟨(some 74), .ia 1 (.t 68) (.t 73), none, false⟩,
  ⟨(some 75), .ld true 1 (.t 74), none, false⟩,
  ⟨(some 76), .mv (.t 1), none, false⟩,
  ⟨(some 77), .ia 1 (.t 76) (.k (.c (.int .i64 0))), none, false⟩,
  ⟨(some 78), .ld true 1 (.t 77), none, false⟩,
  ⟨(some 79), .ia 1 (.t 75) (.t 78), none, false⟩,
  ⟨(some 80), .ld true 1 (.t 79), none, false⟩,
  ⟨(some 81), .bin .sub (.t 64) (.t 80), none, true⟩,
  ⟨(some 82), .mm false (.k (.c (.int .i64 1440))) (.t 81), none, true⟩,
  ⟨(some 5), .mv (.t 82), none, true⟩]
@[reducible] def v52_25 : VC := (.cond (.t 63) (.ops o52_24) .skip)
@[reducible] def o52_26 : List Ins := [⟨(some 83), .mv (.t 5), none, true⟩,
  ⟨(some 4), .mv (.t 83), none, true⟩]
@[reducible] def v52_27 : VC := (.seq (.ops o52_26) .ret)
@[reducible] def v52_28 : VC := (.seq (.seq (.ops o52_23) v52_25) v52_27)
@[reducible] def v52_29 : VC := (.seq (.seq (.ops o52_2) v52_22) v52_28)
@[reducible] def v52_30 : VC := (.seq (.ops o52_1) v52_29)
def ir52 : FC := ⟨2, 84, [.t 4], (.seq (.ops o52_0) v52_30)⟩
theorem c52 : compM Try.prog [] 52 = some ir52 := by kernel_rfl



/-- The latest minute in which the first visit can begin; none: there is none. -/
def backL (r : Route) : List Nat → Option Int
  | [] => some 1440
  | [k] => some (r.s k).cl
  | k :: k' :: ks => match backL r (k' :: ks) with
    | none => none
    | some b => if min (r.s k).cl (b - r.d k k' - (r.s k).st) < (r.s k).op then none else some (min (r.s k).cl (b - r.d k k' - (r.s k).st))
def leavesS (r : Route) (t : List Nat) : Int := match backL r t with
  | none => -1
  | some b => match t with
    | [] => b
    | k :: _ => min 1440 (b - r.d r.n k)
theorem backL_some {r : Route} (hr : RouteOk r) : ∀ (t : List Nat) (b : Int), (∀ k ∈ t, k < r.n) → backL r t = some b → 0 ≤ b ∧ b ≤ 1440
  | [], b, _, h => by simp [backL] at h; omega
  | [k], b, hk, h => by
    have := hr.stop k (hk k (by simp))
    simp [backL] at h; omega
  | k :: k' :: ks, b, hk, h => by
    have hs := hr.stop k (hk k (by simp))
    simp only [backL] at h
    split at h
    · cases h
    · split at h
      · cases h
      · simp only [Option.some.injEq] at h
        omega
theorem backL_none {r : Route} : ∀ (t u : List Nat), u ≠ [] → backL r u = none → backL r (t ++ u) = none
  | [], u, _, h => h
  | [k], u :: us, _, h => by simp [backL, h]
  | k :: k' :: ks, u, hu, h => by
    have := backL_none (k' :: ks) u hu h
    simp only [List.cons_append] at this ⊢
    simp only [backL, this]

set_option maxHeartbeats 4000000 in
theorem leaves52 {r : Route} (hr : RouteOk r) {t : List Nat} (ht : ∀ k ∈ t, k < r.n) (hlen : t.length ≤ 20) : FSpec Try.prog 52 [.c (.pt r.cds), .c (nats t)] (iv (leavesS r t)) := by
  refine FSpec_of c52 (Nat.le_refl _) (by decide) fun C hP hN hC hL => ?_
  have hn7 := hr.n7
  simp only [ir52, nats]
  (repeat ((first | refine WV_seq_ ?_ | refine WV_block ?_ | refine WV_ops ?_ | refine WV_skip ?_ | refine WV_exit ?_); (try simp only [go_sem, init_env', Nat.reduceEqDiff, Nat.reduceAdd, Nat.reduceMul, reduceIte, Nat.reduceLeDiff, Nat.reduceLT, Nat.reduceBEq, reduceCtorEq, hP, ints]); (repeat (refine And.intro (by first | omega | (intros; simp_all; done) | (intros; simp_all; omega)) ?_))))
  rw [w64 (by omega) (by omega)]
  (repeat ((first | refine WV_seq_ ?_ | refine WV_block ?_ | refine WV_ops ?_ | refine WV_skip ?_ | refine WV_exit ?_); (try simp only [go_sem, init_env', Nat.reduceEqDiff, Nat.reduceAdd, Nat.reduceMul, reduceIte, Nat.reduceLeDiff, Nat.reduceLT, Nat.reduceBEq, reduceCtorEq, hP, ]); (repeat (refine And.intro (by first | omega | (intros; simp_all; done) | (intros; simp_all; omega)) ?_))))
  refine WV_loopK K52_1 [] (fun s : Nat × Int => s.1 ≤ t.length ∧ backL r (t.drop s.1) = some s.2) (fun s => s.1) (fun s => [(6, iv ((s.1 : Int) - 1)), (5, iv s.2)]) (fun _ => []) (t.length, 1440) ⟨Nat.le_refl _, by simp [backL]⟩ ?_ ?_
  · (refine Sub_of (by simp only [go_sem, init_env', Nat.reduceEqDiff, Nat.reduceAdd, Nat.reduceMul, reduceIte, Nat.reduceLeDiff, Nat.reduceLT, Nat.reduceBEq, reduceCtorEq]; ((repeat' (first | exact EnvLe_e0 _ _ | refine EnvLe_upd ?_ ?_)) <;> ((try simp only [upd_app, e0_app, o0_app, Nat.reduceEqDiff, reduceIte]); first | exact AWk.refl _ _ | exact AWk.int (by omega) | exact AWk.int (by rw [w64 (by omega) (by omega)]; omega) | exact AWk.grow rfl | exact AWk.nil _ | exact AWk.of (by simp)))) (by simp only [go_sem, init_env', Nat.reduceEqDiff, Nat.reduceAdd, Nat.reduceMul, reduceIte, Nat.reduceLeDiff, Nat.reduceLT, Nat.reduceBEq, reduceCtorEq]; ((repeat' (first | exact ObjLe_o0 _ | exact ObjLe.rfl' _ | refine ObjLe_same ?_ | refine ObjLe_upd ?_ ?_ | refine ObjLe_new rfl ?_)) <;> rfl)))
  · rintro ⟨m, b⟩ ⟨hm, hb⟩
    simp only at hm hb
    have hbd := backL_some hr _ _ (fun k hk => ht k (List.mem_of_mem_drop hk)) hb
    simp only [go_sem, init_env', Nat.reduceEqDiff, Nat.reduceAdd, Nat.reduceMul, reduceIte, Nat.reduceLeDiff, Nat.reduceLT, Nat.reduceBEq, reduceCtorEq]
    (repeat ((first | refine WV_seq_ ?_ | refine WV_block ?_ | refine WV_ops ?_ | refine WV_skip ?_ | refine WV_exit ?_); (try simp only [go_sem, init_env', Nat.reduceEqDiff, Nat.reduceAdd, Nat.reduceMul, reduceIte, Nat.reduceLeDiff, Nat.reduceLT, Nat.reduceBEq, reduceCtorEq, hP, ]); (repeat (refine And.intro (by first | omega | (intros; simp_all; done) | (intros; simp_all; omega)) ?_))))
    (refine WV_cond rfl (fun h => ?_) (fun h => ?_))
    · obtain ⟨k, rfl⟩ : ∃ k, m = k + 1 := by
        cases m with
        | zero => simp at h
        | succ k => exact ⟨k, rfl⟩
      have hkt : k < t.length := by omega
      have hkn : t[k] < r.n := ht _ (List.getElem_mem hkt)
      have hd1 : t[k] < r.stops.length := hkn
      have e1 : r.stops[t[k]] = r.s t[k] := by simp [Route.s, hd1]
      have hs := hr.stop _ hkn
      have ek : (((k + 1 : Nat) : Int) - 1) = (k : Int) := by omega
      rw [ek]
      clear h
      have hkl : k < (t.map fun (n : Nat) => (n : Int)).length := by simpa using hkt
      (repeat ((first | refine WV_seq_ ?_ | refine WV_block ?_ | refine WV_ops ?_ | refine WV_skip ?_ | refine WV_exit ?_); (try simp only [go_sem, init_env', Nat.reduceEqDiff, Nat.reduceAdd, Nat.reduceMul, reduceIte, Nat.reduceLeDiff, Nat.reduceLT, Nat.reduceBEq, reduceCtorEq, hP, Int.toNat_natCast, map_getD hkl, map_getD hd1, List.getElem_map, Route.cds, stopsC, Stop.cds, e1, Int.ofNat_lt, hkt, hd1, Int.natCast_nonneg]); (repeat (refine And.intro (by first | omega | (intros; simp_all; done) | (intros; simp_all; omega)) ?_))))
      rw [w64 (by omega) (by omega)]
      (repeat ((first | refine WV_seq_ ?_ | refine WV_block ?_ | refine WV_ops ?_ | refine WV_skip ?_ | refine WV_exit ?_); (try simp only [go_sem, init_env', Nat.reduceEqDiff, Nat.reduceAdd, Nat.reduceMul, reduceIte, Nat.reduceLeDiff, Nat.reduceLT, Nat.reduceBEq, reduceCtorEq, hP, ]); (repeat (refine And.intro (by first | omega | (intros; simp_all; done) | (intros; simp_all; omega)) ?_))))
      (refine WV_cond rfl (fun h => ?_) (fun h => ?_))
      · have h : k + 1 = t.length := by simp at h; omega
        have hd : t.drop k = [t[k]] := by rw [List.drop_eq_getElem_cons hkt, h, List.drop_length]
        (repeat ((first | refine WV_seq_ ?_ | refine WV_block ?_ | refine WV_ops ?_ | refine WV_skip ?_ | refine WV_exit ?_); (try simp only [go_sem, init_env', Nat.reduceEqDiff, Nat.reduceAdd, Nat.reduceMul, reduceIte, Nat.reduceLeDiff, Nat.reduceLT, Nat.reduceBEq, reduceCtorEq, hP, ]); (repeat (refine And.intro (by first | omega | (intros; simp_all; done) | (intros; simp_all; omega)) ?_))))
        rw [w64 (by omega) (by omega)]
        (repeat ((first | refine WV_seq_ ?_ | refine WV_block ?_ | refine WV_ops ?_ | refine WV_skip ?_ | refine WV_exit ?_); (try simp only [go_sem, init_env', Nat.reduceEqDiff, Nat.reduceAdd, Nat.reduceMul, reduceIte, Nat.reduceLeDiff, Nat.reduceLT, Nat.reduceBEq, reduceCtorEq, hP, ]); (repeat (refine And.intro (by first | omega | (intros; simp_all; done) | (intros; simp_all; omega)) ?_))))
        refine ⟨(k, (r.s t[k]).cl), ⟨by omega, by rw [hd]; rfl⟩, by simp only; omega, ?_⟩
        (refine Sub_of (by simp only [go_sem, init_env', Nat.reduceEqDiff, Nat.reduceAdd, Nat.reduceMul, reduceIte, Nat.reduceLeDiff, Nat.reduceLT, Nat.reduceBEq, reduceCtorEq]; ((repeat' (first | exact EnvLe_e0 _ _ | refine EnvLe_upd ?_ ?_)) <;> ((try simp only [upd_app, e0_app, o0_app, Nat.reduceEqDiff, reduceIte]); first | exact AWk.refl _ _ | exact AWk.int (by omega) | exact AWk.int (by rw [w64 (by omega) (by omega)]; omega) | exact AWk.grow rfl | exact AWk.nil _ | exact AWk.of (by simp)))) (by simp only [go_sem, init_env', Nat.reduceEqDiff, Nat.reduceAdd, Nat.reduceMul, reduceIte, Nat.reduceLeDiff, Nat.reduceLT, Nat.reduceBEq, reduceCtorEq]; ((repeat' (first | exact ObjLe_o0 _ | exact ObjLe.rfl' _ | refine ObjLe_same ?_ | refine ObjLe_upd ?_ ?_ | refine ObjLe_new rfl ?_)) <;> rfl)))
      · have h : k + 1 < t.length := by simp at h; omega
        have hd : t.drop k = t[k] :: t[k + 1] :: t.drop (k + 2) := by rw [List.drop_eq_getElem_cons hkt, List.drop_eq_getElem_cons h]
        have hd' : t.drop (k + 1) = t[k + 1] :: t.drop (k + 2) := by rw [List.drop_eq_getElem_cons h]
        have hkn' : t[k + 1] < r.n := ht _ (List.getElem_mem h)
        have hc := hr.cell t[k] t[k + 1] (by omega) (by omega)
        have hkl' : k + 1 < (t.map fun (n : Nat) => (n : Int)).length := by simpa using h
        have hd2 : t[k] < r.drive.length := by rw [hr.dl]; omega
        have hrow := hr.row t[k] (by omega)
        have e2 : r.drive.getD t[k] [] = r.drive[t[k]] := by simp [hd2]
        rw [e2] at hrow
        have hd3 : t[k + 1] < r.drive[t[k]].length := by omega
        have e3 : r.drive[t[k]][t[k + 1]] = r.d t[k] t[k + 1] := by simp [Route.d, hd2, hd3]
        have hw1 : IntKind.i64.wrap ((k : Int) + 1) = ((k + 1 : Nat) : Int) := by rw [w64 (by omega) (by omega)]; omega
        have hw2 := w64 (n := b - r.d t[k] t[k + 1]) (by omega) (by omega)
        have hw3 := w64 (n := b - r.d t[k] t[k + 1] - (r.s t[k]).st) (by omega) (by omega)
        have hw4 := w64 (n := (k : Int) - 1) (by omega) (by omega)
        (repeat ((first | refine WV_seq_ ?_ | refine WV_block ?_ | refine WV_ops ?_ | refine WV_skip ?_ | refine WV_exit ?_); (try simp only [go_sem, init_env', Nat.reduceEqDiff, Nat.reduceAdd, Nat.reduceMul, reduceIte, Nat.reduceLeDiff, Nat.reduceLT, Nat.reduceBEq, reduceCtorEq, hP, hw1, hw2, hw3, Int.toNat_natCast, map_getD hkl, map_getD hkl', map_getD hd1, map_getD hd2, map_getD hd3, e3, ints, driveC, List.getElem_map, Route.cds, stopsC, Stop.cds, e1, Int.ofNat_lt, hkt, h, hd1, hd2, hd3, Int.natCast_nonneg]); (repeat (refine And.intro (by first | omega | (intros; simp_all; done) | (intros; simp_all; omega)) ?_))))
        (refine WV_cond rfl (fun h => ?_) (fun h => ?_))
        · have h' : min (r.s t[k]).cl (b - r.d t[k] t[k + 1] - (r.s t[k]).st) < (r.s t[k]).op := by simpa using h
          have hbn : backL r (t.drop k) = none := by rw [hd]; rw [hd'] at hb; simp only [backL, hb]; rw [if_pos h']
          have hbt : backL r t = none := by
            have := backL_none (t.take k) (t.drop k) (by intro e; rw [hd] at e; cases e) hbn
            rwa [List.take_append_drop] at this
          have e : leavesS r t = -1 := by simp only [leavesS, hbt]
          rw [e]
          (repeat ((first | refine WV_seq_ ?_ | refine WV_block ?_ | refine WV_ops ?_ | refine WV_skip ?_ | refine WV_exit ?_); (try simp only [go_sem, init_env', Nat.reduceEqDiff, Nat.reduceAdd, Nat.reduceMul, reduceIte, Nat.reduceLeDiff, Nat.reduceLT, Nat.reduceBEq, reduceCtorEq, hP, ]); (repeat (refine And.intro (by first | omega | (intros; simp_all; done) | (intros; simp_all; omega)) ?_))))
          (refine WV_ret ?_; simp only [thenQ, inQ, RetQ, RetOk, resAll, resA]; simp only [go_sem, init_env', Nat.reduceEqDiff, Nat.reduceAdd, Nat.reduceMul, reduceIte, Nat.reduceLeDiff, Nat.reduceLT, Nat.reduceBEq, reduceCtorEq, tupA, AV.port, AV.portL, exists_eq_left', ]; (first | exact AVle.of rfl | refine AVle.of ?_ | skip))
        · have h' : ¬ min (r.s t[k]).cl (b - r.d t[k] t[k + 1] - (r.s t[k]).st) < (r.s t[k]).op := by simpa using h
          have hbn : backL r (t.drop k) = some (min (r.s t[k]).cl (b - r.d t[k] t[k + 1] - (r.s t[k]).st)) := by rw [hd]; rw [hd'] at hb; simp only [backL, hb]; rw [if_neg h']
          (repeat ((first | refine WV_seq_ ?_ | refine WV_block ?_ | refine WV_ops ?_ | refine WV_skip ?_ | refine WV_exit ?_); (try simp only [go_sem, init_env', Nat.reduceEqDiff, Nat.reduceAdd, Nat.reduceMul, reduceIte, Nat.reduceLeDiff, Nat.reduceLT, Nat.reduceBEq, reduceCtorEq, hP, hw4]); (repeat (refine And.intro (by first | omega | (intros; simp_all; done) | (intros; simp_all; omega)) ?_))))
          refine ⟨(k, min (r.s t[k]).cl (b - r.d t[k] t[k + 1] - (r.s t[k]).st)), ⟨by omega, hbn⟩, by simp only; omega, ?_⟩
          (refine Sub_of (by simp only [go_sem, init_env', Nat.reduceEqDiff, Nat.reduceAdd, Nat.reduceMul, reduceIte, Nat.reduceLeDiff, Nat.reduceLT, Nat.reduceBEq, reduceCtorEq]; ((repeat' (first | exact EnvLe_e0 _ _ | refine EnvLe_upd ?_ ?_)) <;> ((try simp only [upd_app, e0_app, o0_app, Nat.reduceEqDiff, reduceIte]); first | exact AWk.refl _ _ | exact AWk.int (by omega) | exact AWk.int (by rw [w64 (by omega) (by omega)]; omega) | exact AWk.grow rfl | exact AWk.nil _ | exact AWk.of (by simp)))) (by simp only [go_sem, init_env', Nat.reduceEqDiff, Nat.reduceAdd, Nat.reduceMul, reduceIte, Nat.reduceLeDiff, Nat.reduceLT, Nat.reduceBEq, reduceCtorEq]; ((repeat' (first | exact ObjLe_o0 _ | exact ObjLe.rfl' _ | refine ObjLe_same ?_ | refine ObjLe_upd ?_ ?_ | refine ObjLe_new rfl ?_)) <;> rfl)))
    · have h : m = 0 := by simp at h; omega
      subst h
      simp only [List.drop_zero] at hb
      (repeat ((first | refine WV_seq_ ?_ | refine WV_block ?_ | refine WV_ops ?_ | refine WV_skip ?_ | refine WV_exit ?_); (try simp only [go_sem, init_env', Nat.reduceEqDiff, Nat.reduceAdd, Nat.reduceMul, reduceIte, Nat.reduceLeDiff, Nat.reduceLT, Nat.reduceBEq, reduceCtorEq, hP, ]); (repeat (refine And.intro (by first | omega | (intros; simp_all; done) | (intros; simp_all; omega)) ?_))))
      (refine WV_cond rfl (fun h => ?_) (fun h => ?_))
      · cases t with
        | nil => simp at h
        | cons k ks =>
          have hkn : k < r.n := ht _ (by simp)
          have e : leavesS r (k :: ks) = min 1440 (b - r.d r.n k) := by simp only [leavesS, hb]
          have hc := hr.cell r.n k (by omega) (by omega)
          have hd2 : r.stops.length < r.drive.length := by rw [hr.dl]; exact Nat.lt_succ_self _
          have hrow := hr.row r.n (by omega)
          have e2 : r.drive.getD r.n [] = r.drive[r.stops.length] := by simp [Route.n, hd2]
          rw [e2] at hrow
          have hd3 : k < r.drive[r.stops.length].length := by omega
          have e3 : r.drive[r.stops.length][k] = r.d r.n k := by simp [Route.d, Route.n, hd2, hd3]
          have hw := w64 (n := b - r.d r.n k) (by omega) (by omega)
          rw [e]
          (repeat ((first | refine WV_seq_ ?_ | refine WV_block ?_ | refine WV_ops ?_ | refine WV_skip ?_ | refine WV_exit ?_); (try simp only [go_sem, init_env', Nat.reduceEqDiff, Nat.reduceAdd, Nat.reduceMul, reduceIte, Nat.reduceLeDiff, Nat.reduceLT, Nat.reduceBEq, reduceCtorEq, hP, hw, Int.toNat_natCast, map_getD hd2, map_getD hd3, e3, ints, driveC, Route.cds, stopsC, Int.ofNat_lt, hd2, hd3, Int.natCast_nonneg]); (repeat (refine And.intro (by first | omega | (intros; simp_all; done) | (intros; simp_all; omega)) ?_))))
          simp only [go_sem, init_env', Nat.reduceEqDiff, Nat.reduceAdd, Nat.reduceMul, reduceIte, Nat.reduceLeDiff, Nat.reduceLT, Nat.reduceBEq, reduceCtorEq, hw, Int.toNat_natCast, map_getD hd2, map_getD hd3, e3, ints, driveC, Route.cds, stopsC, Int.ofNat_lt, hd2, hd3, Int.natCast_nonneg]
          (repeat ((first | refine WV_seq_ ?_ | refine WV_block ?_ | refine WV_ops ?_ | refine WV_skip ?_ | refine WV_exit ?_); (try simp only [go_sem, init_env', Nat.reduceEqDiff, Nat.reduceAdd, Nat.reduceMul, reduceIte, Nat.reduceLeDiff, Nat.reduceLT, Nat.reduceBEq, reduceCtorEq, hP, ]); (repeat (refine And.intro (by first | omega | (intros; simp_all; done) | (intros; simp_all; omega)) ?_))))
          (refine WV_ret ?_; simp only [thenQ, inQ, RetQ, RetOk, resAll, resA]; simp only [go_sem, init_env', Nat.reduceEqDiff, Nat.reduceAdd, Nat.reduceMul, reduceIte, Nat.reduceLeDiff, Nat.reduceLT, Nat.reduceBEq, reduceCtorEq, tupA, AV.port, AV.portL, exists_eq_left', ]; (first | exact AVle.of rfl | refine AVle.of ?_ | skip))
      · have e : t = [] := by cases t with | nil => rfl | cons a l => simp at h
        subst e
        simp only [backL, Option.some.injEq] at hb
        subst hb
        (repeat ((first | refine WV_seq_ ?_ | refine WV_block ?_ | refine WV_ops ?_ | refine WV_skip ?_ | refine WV_exit ?_); (try simp only [go_sem, init_env', Nat.reduceEqDiff, Nat.reduceAdd, Nat.reduceMul, reduceIte, Nat.reduceLeDiff, Nat.reduceLT, Nat.reduceBEq, reduceCtorEq, hP, ]); (repeat (refine And.intro (by first | omega | (intros; simp_all; done) | (intros; simp_all; omega)) ?_))))
        (refine WV_ret ?_; simp only [thenQ, inQ, RetQ, RetOk, resAll, resA]; simp only [go_sem, init_env', Nat.reduceEqDiff, Nat.reduceAdd, Nat.reduceMul, reduceIte, Nat.reduceLeDiff, Nat.reduceLT, Nat.reduceBEq, reduceCtorEq, tupA, AV.port, AV.portL, exists_eq_left', ]; (first | exact AVle.of rfl | refine AVle.of ?_ | skip))
end Go.Proofs.Ytbejgfpaokcnpaa

namespace Go.Proofs.Ytbejgfpaokcnpaa
open Go Go.V
@[reducible] def o51_0 : List Ins := [⟨(some 5), .box 4 (.t 1), none, true⟩]
@[reducible] def t51_1 : OT := (.cons ⟨(some 7), .mv (.t 0), none, false⟩
  (.br [(.cons ⟨(some 6), .ld true 1 (.t 2), none, false⟩
    (.cons ⟨(some 8), .call (.k (.fn 52 [])) [(.t 3), (.t 7)], none, true⟩
    (.cons ⟨(some 9), .mm true (.t 6) (.t 8), none, true⟩
    (.cons ⟨none, .st 1 (.t 2) (.t 9), none, true⟩
    .nil)))), (.cons ⟨(some 8), .call (.k (.fn 52 [])) [(.t 3), (.t 7)], none, true⟩
    (.cons ⟨(some 6), .ld true 1 (.t 2), none, false⟩
    (.cons ⟨(some 9), .mm true (.t 6) (.t 8), none, true⟩
    (.cons ⟨none, .st 1 (.t 2) (.t 9), none, true⟩
    .nil))))]))
def ir51 : FC := ⟨4, 10, [], (.seq (.ops o51_0) (.drw t51_1))⟩
@[reducible] def o15_0 : List Ins := [⟨(some 1), .box 3 (.t 0), none, true⟩,
  ⟨(some 2), .mv (.k (.c (.int .i64 0))), none, true⟩,
  ⟨(some 3), .mv (.k (.c (.int .i64 0))), none, true⟩]
@[reducible] def o15_1 : List Ins := [⟨(some 7), .ld false 3 (.t 1), none, true⟩,
  ⟨(some 8), .call (.k (.fn 26 [])) [(.t 7)], none, true⟩,
  ⟨(some 4), .mv (.t 8), none, true⟩]
@[reducible] def o15_2 : List Ins := [⟨(some 9), .mv (.t 4), none, true⟩,
  ⟨(some 10), .bin .neq (.t 9) (.k (.c (.int .i64 0))), none, true⟩]
@[reducible] def o15_3 : List Ins := [⟨(some 11), .mv (.t 4), none, true⟩,
  ⟨(some 2), .mv (.k (.c (.int .i64 0))), none, true⟩,
  ⟨(some 3), .mv (.t 11), none, true⟩]
@[reducible] def v15_4 : VC := (.seq (.ops o15_3) .ret)
@[reducible] def v15_5 : VC := (.cond (.t 10) v15_4 .skip)
@[reducible] def v15_6 : VC := (.seq (.ops o15_2) v15_5)
@[reducible] def o15_7 : List Ins := [⟨(some 5), .alloc [(.c (.int .i64 0))], none, true⟩,
  ⟨none, .st 1 (.t 5) (.k (.c (.int .i64 (-1)))), none, true⟩]
@[reducible] def o15_8 : List Ins := [⟨(some 12), .ld false 3 (.t 1), none, true⟩,
  ⟨(some 6), .alloc [(.c (.raw (.slice none 0 0))), (.c (.raw (.slice none 0 0))), (.c (.int .i64 0))], none, true⟩,
  ⟨none, .st 3 (.t 6) (.t 12), none, true⟩]
@[reducible] def o15_9 : List Ins := [⟨(some 13), .fa 2 (.t 6), none, true⟩,
  ⟨none, .st 1 (.t 13) (.k (.c (.int .i64 0))), none, true⟩]
@[reducible] def o15_10 : List Ins := [⟨(some 14), .mkfn 51 [(.t 5), (.t 1)], none, true⟩,
  ⟨(some 15), .call (.k (.fn 50 [])) [(.t 6), (.t 14)], none, true⟩]
@[reducible] def o15_11 : List Ins := [⟨(some 16), .ld true 1 (.t 5), none, true⟩,
  ⟨(some 17), .bin .lss (.t 16) (.k (.c (.int .i64 0))), none, true⟩]
@[reducible] def o15_12 : List Ins := [⟨(some 2), .mv (.k (.c (.int .i64 0))), none, true⟩,
  ⟨(some 3), .mv (.k (.c (.int .i64 3))), none, true⟩]
@[reducible] def v15_13 : VC := (.seq (.ops o15_12) .ret)
@[reducible] def v15_14 : VC := (.cond (.t 17) v15_13 .skip)
@[reducible] def o15_15 : List Ins := [⟨(some 18), .ld true 1 (.t 5), none, true⟩,
  ⟨(some 2), .mv (.t 18), none, true⟩,
  ⟨(some 3), .mv (.k (.c (.int .i64 0))), none, true⟩]
@[reducible] def v15_16 : VC := (.seq (.ops o15_15) .ret)
@[reducible] def v15_17 : VC := (.seq (.seq (.ops o15_11) v15_14) v15_16)
@[reducible] def v15_18 : VC := (.seq (.ops o15_10) v15_17)
@[reducible] def v15_19 : VC := (.seq (.ops o15_9) v15_18)
@[reducible] def v15_20 : VC := (.seq (.ops o15_8) v15_19)
@[reducible] def v15_21 : VC := (.seq (.ops o15_7) v15_20)
@[reducible] def v15_22 : VC := (.seq (.seq (.ops o15_1) v15_6) v15_21)
def ir15 : FC := ⟨1, 19, [.t 2, .t 3], (.seq (.ops o15_0) v15_22)⟩
theorem c51 : compM Try.prog [8] 51 = some ir51 := by kernel_rfl
theorem c15 : compM Try.prog [] 15 = some ir15 := by kernel_rfl



def zero (r : Route) : Route := { r with start := 0 }
theorem zero_ok {r : Route} (hr : RouteOk r) : RouteOk (zero r) := ⟨hr.n7, hr.dl, by simp [zero], hr.stop, hr.row, hr.cell, hr.diag⟩

theorem elemsV_win {own : Nat → Ob} {n cap : Nat} {t : List Nat} (h : own n = .win (cellsT t)) : AV.elemsV own (.vw 1 n 0 t.length cap) = some (1, (t.map fun (k : Nat) => (k : Int)).map fun n => [CD.int .i64 n]) :=
  elemsV_T (t := t) (junk := []) (by rw [h]; simp [Ob.cellsR]) rfl

set_option maxHeartbeats 1000000 in
theorem late51 {r : Route} (hr : RouteOk r) (v : Van) (b : Int) {t : List Nat} (ht : ∀ k ∈ t, k < r.n) (hlen : t.length ≤ r.n) : FSpecL Try.prog 51 [.vw 1 2000 0 t.length r.n, vanv (zero r) v, .bp 1000 0, .c (.pt r.cds)] [.box [iv b]] [cellsT t] (fun res l' => res = .tup [] ∧ l' = [.box [iv (max b (leavesS r t))]]) := by
  have hprg : ∀ d, AV.prgL d (cellsT t) = cellsT t := fun d => prgL_pure d (cellsT_pure _)
  have hn7 := hr.n7
  refine FSpecL_of c51 (by simp) (Nat.le_refl _) (by decide) (by decide) fun C hP hN hC hL => ?_; rw [init_env', ownW_upd (by simp)]; simp only [ir51, updL, updLo, List.map_nil, List.map_cons, Nat.reduceAdd, vanv]
  (repeat ((first | refine WV_seq_ ?_ | refine WV_block ?_ | refine WV_ops ?_ | refine WV_skip ?_ | refine WV_exit ?_); (try simp only [go_sem, init_env', Nat.reduceEqDiff, Nat.reduceAdd, Nat.reduceMul, reduceIte, Nat.reduceLeDiff, Nat.reduceLT, Nat.reduceBEq, reduceCtorEq, hP, hprg]); (repeat (refine And.intro (by first | omega | (intros; simp_all; done) | (intros; simp_all; omega)) ?_))))
  (refine WV_drw ?_; simp only [go_sem, init_env', Nat.reduceEqDiff, Nat.reduceAdd, Nat.reduceMul, reduceIte, Nat.reduceLeDiff, Nat.reduceLT, Nat.reduceBEq, reduceCtorEq, hP, hprg]; (repeat' (refine And.intro ?_ ?_)))
  all_goals
    refine AS_vol (leaves52 hr ht (by omega)) rfl rfl rfl rfl ?_ rfl ?_
    · simp only [go_sem, init_env', Nat.reduceEqDiff, Nat.reduceAdd, Nat.reduceMul, reduceIte, Nat.reduceLeDiff, Nat.reduceLT, Nat.reduceBEq, reduceCtorEq, AV.vportL, AV.vport]
      rw [elemsV_win (t := t) rfl]
      rfl
    · simp only [go_sem, init_env', Nat.reduceEqDiff, Nat.reduceAdd, Nat.reduceMul, reduceIte, Nat.reduceLeDiff, Nat.reduceLT, Nat.reduceBEq, reduceCtorEq, hP, hprg]
      (repeat ((first | refine WV_seq_ ?_ | refine WV_block ?_ | refine WV_ops ?_ | refine WV_skip ?_ | refine WV_exit ?_); (try simp only [go_sem, init_env', Nat.reduceEqDiff, Nat.reduceAdd, Nat.reduceMul, reduceIte, Nat.reduceLeDiff, Nat.reduceLT, Nat.reduceBEq, reduceCtorEq, hP, hprg]); (repeat (refine And.intro (by first | omega | (intros; simp_all; done) | (intros; simp_all; omega)) ?_))))
      ((try simp only [thenQ, inQ, RetQL, RetOkL, resAll, resA]); (try simp only [go_sem, init_env', Nat.reduceEqDiff, Nat.reduceAdd, Nat.reduceMul, reduceIte, Nat.reduceLeDiff, Nat.reduceLT, Nat.reduceBEq, reduceCtorEq, tupA, AV.keepP, AV.keepPL]); refine ⟨_, [.box [iv (max b (leavesS r t))]], rfl, KeepL_mk rfl rfl ?_ ?_ rfl, ?_⟩)
      · simp only [go_sem, init_env', Nat.reduceEqDiff, Nat.reduceAdd, Nat.reduceMul, reduceIte, Nat.reduceLeDiff, Nat.reduceLT, Nat.reduceBEq, reduceCtorEq, keepAll, Ob.keepP, AV.keepP, AV.keepPL]
      · simp only [go_sem, init_env', Nat.reduceEqDiff, Nat.reduceAdd, Nat.reduceMul, reduceIte, Nat.reduceLeDiff, Nat.reduceLT, Nat.reduceBEq, reduceCtorEq, winAll]
      · exact ⟨rfl, rfl⟩

def latestB (r : Route) (l : List (List Nat × Van)) : Int := (l.map fun p => leavesS r p.1).foldl max (-1)
theorem latestB_snoc (r : Route) (l : List (List Nat × Van)) (p : List Nat × Van) : latestB r (l ++ [p]) = max (latestB r l) (leavesS r p.1) := by simp [latestB]
def latestS (r : Route) : Int × Int := if r.ok then (if latestB r (wholes (zero r)) < 0 then (0, 3) else (latestB r (wholes (zero r)), 0)) else (0, 80)

set_option maxHeartbeats 1000000 in
theorem latest15 (r : Route) : FSpec Try.prog 15 [r.av] (.tup [iv (latestS r).1, iv (latestS r).2]) := by
  refine FSpec_of c15 (Nat.le_refl _) (by decide) fun C hP hN hC hL => ?_
  simp only [ir15, Route.av]
  (repeat ((first | refine WV_seq_ ?_ | refine WV_block ?_ | refine WV_ops ?_ | refine WV_skip ?_ | refine WV_exit ?_); (try simp only [go_sem, init_env', Nat.reduceEqDiff, Nat.reduceAdd, Nat.reduceMul, reduceIte, Nat.reduceLeDiff, Nat.reduceLT, Nat.reduceBEq, reduceCtorEq, hP, ]); (repeat (refine And.intro (by first | omega | (intros; simp_all; done) | (intros; simp_all; omega)) ?_))))
  (refine AS_pure (rcheck_spec r) rfl rfl rfl rfl rfl ?_; simp only [go_sem, init_env', Nat.reduceEqDiff, Nat.reduceAdd, Nat.reduceMul, reduceIte, Nat.reduceLeDiff, Nat.reduceLT, Nat.reduceBEq, reduceCtorEq, hP, Route.av]; (repeat (refine And.intro (by first | omega | (intros; simp_all; done) | (intros; simp_all; omega)) ?_)); (repeat ((first | refine WV_seq_ ?_ | refine WV_block ?_ | refine WV_ops ?_ | refine WV_skip ?_ | refine WV_exit ?_); (try simp only [go_sem, init_env', Nat.reduceEqDiff, Nat.reduceAdd, Nat.reduceMul, reduceIte, Nat.reduceLeDiff, Nat.reduceLT, Nat.reduceBEq, reduceCtorEq, hP, Route.av]); (repeat (refine And.intro (by first | omega | (intros; simp_all; done) | (intros; simp_all; omega)) ?_)))))
  by_cases hok : r.ok = true
  · have hr := Route.ok_spec hok
    simp only [hok, if_true]
    (refine WV_cond rfl (fun h => ?_) (fun h => ?_))
    · simp at h
    · (refine WV_skip ?_; simp only [go_sem, init_env', Nat.reduceEqDiff, Nat.reduceAdd, Nat.reduceMul, reduceIte, Nat.reduceLeDiff, Nat.reduceLT, Nat.reduceBEq, reduceCtorEq])
      (refine WV_seq_ (WV_ops ?_); simp only [go_sem, init_env', Nat.reduceEqDiff, Nat.reduceAdd, Nat.reduceMul, reduceIte, Nat.reduceLeDiff, Nat.reduceLT, Nat.reduceBEq, reduceCtorEq, hP, ]; (repeat (refine And.intro (by first | omega | (intros; simp_all; done) | (intros; simp_all; omega)) ?_)))
      (refine WV_seq_ (WV_ops ?_); simp only [go_sem, init_env', Nat.reduceEqDiff, Nat.reduceAdd, Nat.reduceMul, reduceIte, Nat.reduceLeDiff, Nat.reduceLT, Nat.reduceBEq, reduceCtorEq, hP, ]; (repeat (refine And.intro (by first | omega | (intros; simp_all; done) | (intros; simp_all; omega)) ?_)))
      (refine WV_seq_ (WV_ops ?_); simp only [go_sem, init_env', Nat.reduceEqDiff, Nat.reduceAdd, Nat.reduceMul, reduceIte, Nat.reduceLeDiff, Nat.reduceLT, Nat.reduceBEq, reduceCtorEq, hP, ]; (repeat (refine And.intro (by first | omega | (intros; simp_all; done) | (intros; simp_all; omega)) ?_)))
      refine WV_freeze 1 (ds := r.cds) rfl rfl ?_
      simp only [go_sem, init_env', Nat.reduceEqDiff, Nat.reduceAdd, Nat.reduceMul, reduceIte, Nat.reduceLeDiff, Nat.reduceLT, Nat.reduceBEq, reduceCtorEq]
      refine WV_freeze 6 (ds := (zero r).cds) rfl rfl ?_
      simp only [go_sem, init_env', Nat.reduceEqDiff, Nat.reduceAdd, Nat.reduceMul, reduceIte, Nat.reduceLeDiff, Nat.reduceLT, Nat.reduceBEq, reduceCtorEq]
      (repeat ((first | refine WV_seq_ ?_ | refine WV_block ?_ | refine WV_ops ?_ | refine WV_skip ?_ | refine WV_exit ?_); (try simp only [go_sem, init_env', Nat.reduceEqDiff, Nat.reduceAdd, Nat.reduceMul, reduceIte, Nat.reduceLeDiff, Nat.reduceLT, Nat.reduceBEq, reduceCtorEq, hP, ]); (repeat (refine And.intro (by first | omega | (intros; simp_all; done) | (intros; simp_all; omega)) ?_))))
      refine AS_clos [5] [.c (.pt (zero r).cds)] [] (l := [.box [iv (latestB r [])]]) (lf := [.box [iv (latestB r (wholes (zero r)))]]) (r := iv ((wholes (zero r)).length : Int)) (whole50 (zero_ok hr)) rfl rfl rfl (by decide) (by decide) rfl rfl rfl rfl ?_ (late51 hr (leave r) 0 (t := []) (by simp) (by simp)).1 ?_ rfl ?_
      · simp only [go_sem, init_env', Nat.reduceEqDiff, Nat.reduceAdd, Nat.reduceMul, reduceIte, Nat.reduceLeDiff, Nat.reduceLT, Nat.reduceBEq, reduceCtorEq, obsLend, Ob.lend, AV.lendL, AV.lend, latestB, List.foldl_nil]
      · refine Run_pre (entW (zero r)) (fun pre => [.box [iv (latestB r pre)]]) (wholes (zero r)) (fun p => rfl) (fun t _ => rfl) (fun pre p post hts => ?_) _ [] rfl
        have hp : p ∈ goods (zero r) := by
          have : p ∈ wholes (zero r) := by rw [hts]; simp
          exact (List.mem_filter.1 this).1
        have hpo := goods_ok (zero_ok hr) p hp
        have hpl := goods_len (zero_ok hr) hp
        have := late51 hr (atHome (zero r) p) (latestB r pre) hpo.2.1 hpl
        simp only [latestB_snoc]
        exact this
      · refine ⟨_, rfl, rfl, ?_⟩
        simp only [go_sem, init_env', Nat.reduceEqDiff, Nat.reduceAdd, Nat.reduceMul, reduceIte, Nat.reduceLeDiff, Nat.reduceLT, Nat.reduceBEq, reduceCtorEq, ownBack]
        (repeat ((first | refine WV_seq_ ?_ | refine WV_block ?_ | refine WV_ops ?_ | refine WV_skip ?_ | refine WV_exit ?_); (try simp only [go_sem, init_env', Nat.reduceEqDiff, Nat.reduceAdd, Nat.reduceMul, reduceIte, Nat.reduceLeDiff, Nat.reduceLT, Nat.reduceBEq, reduceCtorEq, hP, ]); (repeat (refine And.intro (by first | omega | (intros; simp_all; done) | (intros; simp_all; omega)) ?_))))
        (refine WV_cond rfl (fun h => ?_) (fun h => ?_))
        · have h : latestB r (wholes (zero r)) < 0 := by simpa using h
          (repeat ((first | refine WV_seq_ ?_ | refine WV_block ?_ | refine WV_ops ?_ | refine WV_skip ?_ | refine WV_exit ?_); (try simp only [go_sem, init_env', Nat.reduceEqDiff, Nat.reduceAdd, Nat.reduceMul, reduceIte, Nat.reduceLeDiff, Nat.reduceLT, Nat.reduceBEq, reduceCtorEq, hP, ]); (repeat (refine And.intro (by first | omega | (intros; simp_all; done) | (intros; simp_all; omega)) ?_))))
          (refine WV_ret ?_; simp only [thenQ, inQ, RetQ, RetOk, resAll, resA]; simp only [go_sem, init_env', Nat.reduceEqDiff, Nat.reduceAdd, Nat.reduceMul, reduceIte, Nat.reduceLeDiff, Nat.reduceLT, Nat.reduceBEq, reduceCtorEq, tupA, AV.port, AV.portL, exists_eq_left', ]; (first | exact AVle.of rfl | refine AVle.of ?_ | skip))
          simp [latestS, hok, h]
        · have h : ¬ latestB r (wholes (zero r)) < 0 := by simpa using h
          (repeat ((first | refine WV_seq_ ?_ | refine WV_block ?_ | refine WV_ops ?_ | refine WV_skip ?_ | refine WV_exit ?_); (try simp only [go_sem, init_env', Nat.reduceEqDiff, Nat.reduceAdd, Nat.reduceMul, reduceIte, Nat.reduceLeDiff, Nat.reduceLT, Nat.reduceBEq, reduceCtorEq, hP, ]); (repeat (refine And.intro (by first | omega | (intros; simp_all; done) | (intros; simp_all; omega)) ?_))))
          (refine WV_ret ?_; simp only [thenQ, inQ, RetQ, RetOk, resAll, resA]; simp only [go_sem, init_env', Nat.reduceEqDiff, Nat.reduceAdd, Nat.reduceMul, reduceIte, Nat.reduceLeDiff, Nat.reduceLT, Nat.reduceBEq, reduceCtorEq, tupA, AV.port, AV.portL, exists_eq_left', ]; (first | exact AVle.of rfl | refine AVle.of ?_ | skip))
          simp [latestS, hok, h]
  · have hok : r.ok = false := by simpa using hok
    simp only [hok, Bool.false_eq_true, if_false]
    (refine WV_cond rfl (fun h => ?_) (fun h => ?_))
    · (repeat ((first | refine WV_seq_ ?_ | refine WV_block ?_ | refine WV_ops ?_ | refine WV_skip ?_ | refine WV_exit ?_); (try simp only [go_sem, init_env', Nat.reduceEqDiff, Nat.reduceAdd, Nat.reduceMul, reduceIte, Nat.reduceLeDiff, Nat.reduceLT, Nat.reduceBEq, reduceCtorEq, hP, ]); (repeat (refine And.intro (by first | omega | (intros; simp_all; done) | (intros; simp_all; omega)) ?_))))
      (refine WV_ret ?_; simp only [thenQ, inQ, RetQ, RetOk, resAll, resA]; simp only [go_sem, init_env', Nat.reduceEqDiff, Nat.reduceAdd, Nat.reduceMul, reduceIte, Nat.reduceLeDiff, Nat.reduceLT, Nat.reduceBEq, reduceCtorEq, tupA, AV.port, AV.portL, exists_eq_left', ]; (first | exact AVle.of rfl | refine AVle.of ?_ | skip))
      simp [latestS, hok]
    · simp at h
end Go.Proofs.Ytbejgfpaokcnpaa

namespace Go.Proofs.Ytbejgfpaokcnpaa
open Go Go.V
@[reducible] def o69_0 : List Ins := [⟨(some 5), .box 4 (.t 1), none, true⟩]
@[reducible] def o69_1 : List Ins := [⟨(some 6), .ld true 1 (.t 2), none, true⟩,
  ⟨(some 7), .bin .lss (.t 6) (.k (.c (.int .i64 0))), none, true⟩,
  ⟨(some 8), .mv (.t 7), none, true⟩,
  ⟨(some 9), .fa 3 (.t 5), (some (8, false)), true⟩,
  ⟨(some 10), .ld true 1 (.t 9), (some (8, false)), true⟩,
  ⟨(some 11), .ld true 1 (.t 2), (some (8, false)), true⟩,
  ⟨(some 12), .bin .lss (.t 10) (.t 11), (some (8, false)), true⟩,
  ⟨(some 13), .pick (.t 8) (.k (.c (.bool true))) (.t 12), none, true⟩]
@[reducible] def t69_2 : OT := (.cons ⟨(some 14), .mv (.t 0), none, false⟩
  (.br [(.cons ⟨(some 15), .call (.k (.fn 70 [])) [(.t 14)], none, true⟩
    (.br [(.cons ⟨(some 16), .fa 3 (.t 5), none, false⟩
      (.br [(.cons ⟨(some 17), .ld true 1 (.t 16), none, false⟩
        (.cons ⟨none, .st 1 (.t 3) (.t 15), none, false⟩
        (.cons ⟨none, .st 1 (.t 2) (.t 17), none, true⟩
        .nil))), (.cons ⟨none, .st 1 (.t 3) (.t 15), none, false⟩
        (.cons ⟨(some 17), .ld true 1 (.t 16), none, false⟩
        (.cons ⟨none, .st 1 (.t 2) (.t 17), none, true⟩
        .nil)))])), (.cons ⟨none, .st 1 (.t 3) (.t 15), none, false⟩
      (.cons ⟨(some 16), .fa 3 (.t 5), none, false⟩
      (.cons ⟨(some 17), .ld true 1 (.t 16), none, false⟩
      (.cons ⟨none, .st 1 (.t 2) (.t 17), none, true⟩
      .nil))))])), (.cons ⟨(some 16), .fa 3 (.t 5), none, false⟩
    (.br [(.cons ⟨(some 15), .call (.k (.fn 70 [])) [(.t 14)], none, true⟩
      (.br [(.cons ⟨(some 17), .ld true 1 (.t 16), none, false⟩
        (.cons ⟨none, .st 1 (.t 3) (.t 15), none, false⟩
        (.cons ⟨none, .st 1 (.t 2) (.t 17), none, true⟩
        .nil))), (.cons ⟨none, .st 1 (.t 3) (.t 15), none, false⟩
        (.cons ⟨(some 17), .ld true 1 (.t 16), none, false⟩
        (.cons ⟨none, .st 1 (.t 2) (.t 17), none, true⟩
        .nil)))])), (.cons ⟨(some 17), .ld true 1 (.t 16), none, false⟩
      (.cons ⟨(some 15), .call (.k (.fn 70 [])) [(.t 14)], none, true⟩
      (.cons ⟨none, .st 1 (.t 3) (.t 15), none, false⟩
      (.cons ⟨none, .st 1 (.t 2) (.t 17), none, true⟩
      .nil))))]))]))
@[reducible] def v69_3 : VC := (.cond (.t 13) (.drw t69_2) .skip)
@[reducible] def v69_4 : VC := (.seq (.ops o69_1) v69_3)
def ir69 : FC := ⟨4, 18, [], (.seq (.ops o69_0) v69_4)⟩
@[reducible] def o53_0 : List Ins := [⟨(some 1), .box 3 (.t 0), none, true⟩,
  ⟨(some 2), .alloc [(.c (.raw (.slice none 0 0)))], none, true⟩,
  ⟨(some 3), .alloc [(.c (.int .i64 0))], none, true⟩,
  ⟨(some 4), .mv (.k (.c (.int .i64 0))), none, true⟩]
@[reducible] def o53_1 : List Ins := [⟨none, .st 1 (.t 3) (.k (.c (.int .i64 (-1)))), none, true⟩]
@[reducible] def o53_2 : List Ins := [⟨(some 5), .ld false 3 (.t 1), none, true⟩,
  ⟨(some 6), .mkfn 69 [(.t 3), (.t 2)], none, true⟩,
  ⟨(some 7), .call (.k (.fn 61 [])) [(.t 5), (.t 6)], none, true⟩,
  ⟨(some 4), .mv (.t 7), none, true⟩]
@[reducible] def t53_3 : OT := (.cons ⟨(some 8), .ld true 1 (.t 2), none, false⟩
  (.br [(.cons ⟨(some 9), .ld true 1 (.t 3), none, false⟩
    (.cons ⟨none, .st 1 (.t 2) (.t 8), none, false⟩
    (.cons ⟨none, .st 1 (.t 3) (.t 9), none, false⟩
    (.cons ⟨(some 10), .mv (.t 4), none, false⟩
    (.cons ⟨(some 4), .mv (.t 10), none, true⟩
    .nil))))), (.cons ⟨(some 10), .mv (.t 4), none, false⟩
    (.br [(.cons ⟨(some 9), .ld true 1 (.t 3), none, false⟩
      (.cons ⟨none, .st 1 (.t 2) (.t 8), none, false⟩
      (.cons ⟨none, .st 1 (.t 3) (.t 9), none, false⟩
      (.cons ⟨(some 4), .mv (.t 10), none, true⟩
      .nil)))), (.cons ⟨none, .st 1 (.t 2) (.t 8), none, false⟩
      (.cons ⟨(some 9), .ld true 1 (.t 3), none, false⟩
      (.cons ⟨none, .st 1 (.t 3) (.t 9), none, false⟩
      (.cons ⟨(some 4), .mv (.t 10), none, true⟩
      .nil))))])), (.cons ⟨none, .st 1 (.t 2) (.t 8), none, false⟩
    (.cons ⟨(some 9), .ld true 1 (.t 3), none, false⟩
    (.cons ⟨none, .st 1 (.t 3) (.t 9), none, false⟩
    (.cons ⟨(some 10), .mv (.t 4), none, false⟩
    (.cons ⟨(some 4), .mv (.t 10), none, true⟩
    .nil)))))]))
@[reducible] def v53_4 : VC := (.seq (.drw t53_3) .ret)
@[reducible] def v53_5 : VC := (.seq (.ops o53_2) v53_4)
@[reducible] def v53_6 : VC := (.seq (.ops o53_1) v53_5)
def ir53 : FC := ⟨1, 11, [.cell 2 true 1, .cell 3 true 1, .t 4], (.seq (.ops o53_0) v53_6)⟩
@[reducible] def o20_0 : List Ins := [⟨(some 1), .box 3 (.t 0), none, true⟩,
  ⟨(some 2), .mv (.k (.c (.int .i64 0))), none, true⟩,
  ⟨(some 3), .mv (.k (.c (.int .i64 0))), none, true⟩]
@[reducible] def o20_1 : List Ins := [⟨(some 8), .ld false 3 (.t 1), none, true⟩,
  ⟨(some 9), .call (.k (.fn 53 [])) [(.t 8)], none, true⟩,
  ⟨(some 7), .mv (.t 9), none, true⟩,
  ⟨(some 10), .ext (.t 7) 0, none, true⟩,
  ⟨(some 11), .ext (.t 7) 1, none, true⟩,
  ⟨(some 12), .ext (.t 7) 2, none, true⟩,
  ⟨(some 4), .mv (.t 10), none, true⟩,
  ⟨(some 5), .mv (.t 11), none, true⟩,
  ⟨(some 6), .mv (.t 12), none, true⟩]
@[reducible] def o20_2 : List Ins := [⟨(some 13), .mv (.t 6), none, true⟩,
  ⟨(some 14), .bin .neq (.t 13) (.k (.c (.int .i64 0))), none, true⟩]
@[reducible] def o20_3 : List Ins := [⟨(some 15), .mv (.t 6), none, true⟩,
  ⟨(some 2), .mv (.k (.c (.int .i64 0))), none, true⟩,
  ⟨(some 3), .mv (.t 15), none, true⟩]
@[reducible] def v20_4 : VC := (.seq (.ops o20_3) .ret)
@[reducible] def v20_5 : VC := (.cond (.t 14) v20_4 .skip)
@[reducible] def o20_6 : List Ins := [⟨(some 16), .mv (.t 5), none, true⟩,
  ⟨(some 2), .mv (.t 16), none, true⟩,
  ⟨(some 3), .mv (.k (.c (.int .i64 0))), none, true⟩]
@[reducible] def v20_7 : VC := (.seq (.ops o20_6) .ret)
@[reducible] def v20_8 : VC := (.seq (.seq (.ops o20_2) v20_5) v20_7)
@[reducible] def v20_9 : VC := (.seq (.ops o20_1) v20_8)
def ir20 : FC := ⟨1, 17, [.t 2, .t 3], (.seq (.ops o20_0) v20_9)⟩
@[reducible] def o18_0 : List Ins := [⟨(some 1), .box 3 (.t 0), none, true⟩,
  ⟨(some 2), .mv (.k (.c (.raw (.slice none 0 0)))), none, true⟩,
  ⟨(some 3), .mv (.k (.c (.int .i64 0))), none, true⟩]
@[reducible] def o18_1 : List Ins := [⟨(some 8), .ld false 3 (.t 1), none, true⟩,
  ⟨(some 9), .call (.k (.fn 53 [])) [(.t 8)], none, true⟩,
  ⟨(some 7), .mv (.t 9), none, true⟩,
  ⟨(some 10), .ext (.t 7) 0, none, true⟩,
  ⟨(some 11), .ext (.t 7) 1, none, true⟩,
  ⟨(some 12), .ext (.t 7) 2, none, true⟩,
  ⟨(some 4), .mv (.t 10), none, true⟩,
  ⟨(some 5), .mv (.t 11), none, true⟩,
  ⟨(some 6), .mv (.t 12), none, true⟩]
@[reducible] def o18_2 : List Ins := [⟨(some 13), .mv (.t 6), none, true⟩,
  ⟨(some 14), .bin .neq (.t 13) (.k (.c (.int .i64 0))), none, true⟩]
@[reducible] def o18_3 : List Ins := [⟨(some 15), .mv (.t 6), none, true⟩,
  ⟨(some 2), .mv (.k (.c (.raw (.slice none 0 0)))), none, true⟩,
  ⟨(some 3), .mv (.t 15), none, true⟩]
@[reducible] def v18_4 : VC := (.seq (.ops o18_3) .ret)
@[reducible] def v18_5 : VC := (.cond (.t 14) v18_4 .skip)
@[reducible] def o18_6 : List Ins := [⟨(some 16), .mv (.t 4), none, true⟩,
  ⟨(some 2), .mv (.t 16), none, true⟩,
  ⟨(some 3), .mv (.k (.c (.int .i64 0))), none, true⟩]
@[reducible] def v18_7 : VC := (.seq (.ops o18_6) .ret)
@[reducible] def v18_8 : VC := (.seq (.seq (.ops o18_2) v18_5) v18_7)
@[reducible] def v18_9 : VC := (.seq (.ops o18_1) v18_8)
def ir18 : FC := ⟨1, 17, [.t 2, .t 3], (.seq (.ops o18_0) v18_9)⟩
theorem c69 : compM Try.prog [15] 69 = some ir69 := by kernel_rfl
theorem c53 : compM Try.prog [] 53 = some ir53 := by kernel_rfl
theorem c20 : compM Try.prog [] 20 = some ir20 := by kernel_rfl
theorem c18 : compM Try.prog [] 18 = some ir18 := by kernel_rfl



def wayC : Option (List Nat) → CD
  | none => .raw (.slice none 0 0)
  | some t => nats t
def shortT (s : Int × Option (List Nat)) (n : Int) (t : List Nat) : Int × Option (List Nat) := if s.1 < 0 ∨ n < s.1 then (n, some t) else s
def shortB (r : Route) (l : List (List Nat × Van)) : Int × Option (List Nat) := l.foldl (fun s p => shortT s (atHome r p).long p.1) (-1, none)
theorem shortB_snoc (r : Route) (l : List (List Nat × Van)) (p : List Nat × Van) : shortB r (l ++ [p]) = shortT (shortB r l) (atHome r p).long p.1 := by simp [shortB]
def shortO (s : Int × Option (List Nat)) : List Ob := [.box [iv s.1], .box [.c (wayC s.2)]]

set_option maxHeartbeats 1000000 in
theorem short69 (r : Route) (v : Van) (s : Int × Option (List Nat)) {t : List Nat} (hlen : t.length ≤ 100) : FSpecL Try.prog 69 [.vw 1 2000 0 t.length r.n, vanv r v, .bp 1000 0, .bp 1001 0] [.box [iv s.1], .box [.c (wayC s.2)]] [cellsT t] (fun res l' => res = .tup [] ∧ l' = shortO (shortT s v.long t)) := by
  have hprg : ∀ d, AV.prgL d (cellsT t) = cellsT t := fun d => prgL_pure d (cellsT_pure _)
  refine FSpecL_of c69 (by simp) (Nat.le_refl _) (by decide) (by decide) fun C hP hN hC hL => ?_; rw [init_env', ownW_upd (by simp)]; simp only [ir69, updL, updLo, List.map_nil, List.map_cons, Nat.reduceAdd, vanv, shortO]
  (repeat ((first | refine WV_seq_ ?_ | refine WV_block ?_ | refine WV_ops ?_ | refine WV_skip ?_ | refine WV_exit ?_); (try simp only [go_sem, init_env', Nat.reduceEqDiff, Nat.reduceAdd, Nat.reduceMul, reduceIte, Nat.reduceLeDiff, Nat.reduceLT, Nat.reduceBEq, reduceCtorEq, hP, hprg]); (repeat (refine And.intro (by first | omega | (intros; simp_all; done) | (intros; simp_all; omega)) ?_))))
  (refine WV_cond rfl (fun h => ?_) (fun h => ?_))
  · have h : s.1 < 0 ∨ v.long < s.1 := by simpa using h
    have e : shortT s v.long t = (v.long, some t) := if_pos h
    rw [e]
    (refine WV_drw ?_; simp only [go_sem, init_env', Nat.reduceEqDiff, Nat.reduceAdd, Nat.reduceMul, reduceIte, Nat.reduceLeDiff, Nat.reduceLT, Nat.reduceBEq, reduceCtorEq, hP, hprg]; (repeat' (refine And.intro ?_ ?_)))
    all_goals
      refine AS_fresh (clone70 (t.map fun (k : Nat) => (k : Int)) (by simp; omega)) rfl rfl rfl ?_ rfl ?_
      · simp only [go_sem, init_env', Nat.reduceEqDiff, Nat.reduceAdd, Nat.reduceMul, reduceIte, Nat.reduceLeDiff, Nat.reduceLT, Nat.reduceBEq, reduceCtorEq, AV.vportL, AV.vport]
        rw [elemsV_win (t := t) rfl]
        rfl
      · simp only [go_sem, init_env', Nat.reduceEqDiff, Nat.reduceAdd, Nat.reduceMul, reduceIte, Nat.reduceLeDiff, Nat.reduceLT, Nat.reduceBEq, reduceCtorEq, hP, hprg]
        try refine ⟨trivial, ?_⟩
        ((try simp only [thenQ, inQ, RetQL, RetOkL, resAll, resA]); (try simp only [go_sem, init_env', Nat.reduceEqDiff, Nat.reduceAdd, Nat.reduceMul, reduceIte, Nat.reduceLeDiff, Nat.reduceLT, Nat.reduceBEq, reduceCtorEq, tupA, AV.keepP, AV.keepPL]); refine ⟨_, [.box [iv v.long], .box [.c (wayC (some t))]], rfl, KeepL_mk rfl rfl ?_ ?_ rfl, ?_⟩)
        · simp only [go_sem, init_env', Nat.reduceEqDiff, Nat.reduceAdd, Nat.reduceMul, reduceIte, Nat.reduceLeDiff, Nat.reduceLT, Nat.reduceBEq, reduceCtorEq, keepAll, Ob.keepP, AV.keepP, AV.keepPL, wayC, nats]
        · simp only [go_sem, init_env', Nat.reduceEqDiff, Nat.reduceAdd, Nat.reduceMul, reduceIte, Nat.reduceLeDiff, Nat.reduceLT, Nat.reduceBEq, reduceCtorEq, winAll]
        · exact ⟨rfl, rfl⟩
  · have h : ¬ (s.1 < 0 ∨ v.long < s.1) := by simpa using h
    have e : shortT s v.long t = s := if_neg h
    rw [e]
    (repeat ((first | refine WV_seq_ ?_ | refine WV_block ?_ | refine WV_ops ?_ | refine WV_skip ?_ | refine WV_exit ?_); (try simp only [go_sem, init_env', Nat.reduceEqDiff, Nat.reduceAdd, Nat.reduceMul, reduceIte, Nat.reduceLeDiff, Nat.reduceLT, Nat.reduceBEq, reduceCtorEq, hP, hprg]); (repeat (refine And.intro (by first | omega | (intros; simp_all; done) | (intros; simp_all; omega)) ?_))))
    ((try simp only [thenQ, inQ, RetQL, RetOkL, resAll, resA]); (try simp only [go_sem, init_env', Nat.reduceEqDiff, Nat.reduceAdd, Nat.reduceMul, reduceIte, Nat.reduceLeDiff, Nat.reduceLT, Nat.reduceBEq, reduceCtorEq, tupA, AV.keepP, AV.keepPL]); refine ⟨_, [.box [iv s.1], .box [.c (wayC s.2)]], rfl, KeepL_mk rfl rfl ?_ ?_ rfl, ?_⟩)
    · simp only [go_sem, init_env', Nat.reduceEqDiff, Nat.reduceAdd, Nat.reduceMul, reduceIte, Nat.reduceLeDiff, Nat.reduceLT, Nat.reduceBEq, reduceCtorEq, keepAll, Ob.keepP, AV.keepP, AV.keepPL, e]
    · simp only [go_sem, init_env', Nat.reduceEqDiff, Nat.reduceAdd, Nat.reduceMul, reduceIte, Nat.reduceLeDiff, Nat.reduceLT, Nat.reduceBEq, reduceCtorEq, winAll]
    · exact ⟨rfl, rfl⟩

set_option maxHeartbeats 1000000 in
theorem short53 (r : Route) : FSpec Try.prog 53 [r.av] (.tup [.c (wayC (shortB r (wholesOf r)).2), iv (shortB r (wholesOf r)).1, iv (someE r)]) := by
  refine FSpec_of c53 (Nat.le_refl _) (by decide) fun C hP hN hC hL => ?_
  simp only [ir53, Route.av]
  (repeat ((first | refine WV_seq_ ?_ | refine WV_block ?_ | refine WV_ops ?_ | refine WV_skip ?_ | refine WV_exit ?_); (try simp only [go_sem, init_env', Nat.reduceEqDiff, Nat.reduceAdd, Nat.reduceMul, reduceIte, Nat.reduceLeDiff, Nat.reduceLT, Nat.reduceBEq, reduceCtorEq, hP, ]); (repeat (refine And.intro (by first | omega | (intros; simp_all; done) | (intros; simp_all; omega)) ?_))))
  · refine AS_clos [3, 2] [r.av] [] (l := shortO (shortB r [])) (lf := shortO (shortB r (wholesOf r))) (r := iv (someE r)) (some61 r) rfl rfl rfl (by decide) (by decide) rfl rfl rfl rfl ?_ (short69 r (leave r) (0, none) (t := []) (by simp)).1 ?_ rfl ?_
    · simp only [go_sem, init_env', Nat.reduceEqDiff, Nat.reduceAdd, Nat.reduceMul, reduceIte, Nat.reduceLeDiff, Nat.reduceLT, Nat.reduceBEq, reduceCtorEq, obsLend, Ob.lend, AV.lendL, AV.lend, shortO, shortB, List.foldl_nil, wayC]
    · refine Run_pre (entW r) (fun pre => shortO (shortB r pre)) (wholesOf r) (fun p => rfl) (fun t _ => rfl) (fun pre p post hts => ?_) _ [] rfl
      have hp : p ∈ wholesOf r := by rw [hts]; simp
      have hl : p.1.length ≤ 100 := by
        unfold wholesOf at hp
        split at hp
        · rename_i hok
          have hr := Route.ok_spec hok
          have h7 := hr.n7
          have := goods_len hr (List.mem_filter.1 hp).1
          omega
        · cases hp
      have := short69 r (atHome r p) (shortB r pre) hl
      simp only [shortB_snoc]
      exact this
    · refine ⟨_, rfl, rfl, ?_⟩
      simp only [go_sem, init_env', Nat.reduceEqDiff, Nat.reduceAdd, Nat.reduceMul, reduceIte, Nat.reduceLeDiff, Nat.reduceLT, Nat.reduceBEq, reduceCtorEq, ownBack]
      (repeat ((first | refine WV_seq_ ?_ | refine WV_block ?_ | refine WV_ops ?_ | refine WV_skip ?_ | refine WV_exit ?_); (try simp only [go_sem, init_env', Nat.reduceEqDiff, Nat.reduceAdd, Nat.reduceMul, reduceIte, Nat.reduceLeDiff, Nat.reduceLT, Nat.reduceBEq, reduceCtorEq, hP, ]); (repeat (refine And.intro (by first | omega | (intros; simp_all; done) | (intros; simp_all; omega)) ?_))))
      (refine WV_drw ?_; simp only [go_sem, init_env', Nat.reduceEqDiff, Nat.reduceAdd, Nat.reduceMul, reduceIte, Nat.reduceLeDiff, Nat.reduceLT, Nat.reduceBEq, reduceCtorEq, hP, ]; (repeat' (refine And.intro ?_ ?_)))
      all_goals ((refine WV_ret ?_; simp only [thenQ, inQ, RetQ, RetOk, resAll, resA]; simp only [go_sem, init_env', Nat.reduceEqDiff, Nat.reduceAdd, Nat.reduceMul, reduceIte, Nat.reduceLeDiff, Nat.reduceLT, Nat.reduceBEq, reduceCtorEq, tupA, AV.port, AV.portL, exists_eq_left', ]; (first | exact AVle.of rfl | refine AVle.of ?_ | skip)))

def shortestS (r : Route) : Int × Int := if someE r = 0 then ((shortB r (wholes r)).1, 0) else (0, someE r)
def wayS (r : Route) : CD × Int := if someE r = 0 then (wayC (shortB r (wholes r)).2, 0) else (ints [], someE r)
theorem wayS_ne {r : Route} (h : someE r ≠ 0) : wholesOf r = [] := by
  unfold wholesOf someE at *
  cases hk : r.ok <;> simp [hk] at h ⊢
  exact h

theorem shortest20 (r : Route) : FSpec Try.prog 20 [r.av] (.tup [iv (shortestS r).1, iv (shortestS r).2]) := by
  refine FSpec_of c20 (Nat.le_refl _) (by decide) fun C hP hN hC hL => ?_
  simp only [ir20, Route.av]
  (repeat ((first | refine WV_seq_ ?_ | refine WV_block ?_ | refine WV_ops ?_ | refine WV_skip ?_ | refine WV_exit ?_); (try simp only [go_sem, init_env', Nat.reduceEqDiff, Nat.reduceAdd, Nat.reduceMul, reduceIte, Nat.reduceLeDiff, Nat.reduceLT, Nat.reduceBEq, reduceCtorEq, hP, ]); (repeat (refine And.intro (by first | omega | (intros; simp_all; done) | (intros; simp_all; omega)) ?_))))
  (refine AS_pure (short53 r) rfl rfl rfl rfl rfl ?_; simp only [go_sem, init_env', Nat.reduceEqDiff, Nat.reduceAdd, Nat.reduceMul, reduceIte, Nat.reduceLeDiff, Nat.reduceLT, Nat.reduceBEq, reduceCtorEq, hP, Route.av]; (repeat (refine And.intro (by first | omega | (intros; simp_all; done) | (intros; simp_all; omega)) ?_)); (repeat ((first | refine WV_seq_ ?_ | refine WV_block ?_ | refine WV_ops ?_ | refine WV_skip ?_ | refine WV_exit ?_); (try simp only [go_sem, init_env', Nat.reduceEqDiff, Nat.reduceAdd, Nat.reduceMul, reduceIte, Nat.reduceLeDiff, Nat.reduceLT, Nat.reduceBEq, reduceCtorEq, hP, Route.av]); (repeat (refine And.intro (by first | omega | (intros; simp_all; done) | (intros; simp_all; omega)) ?_)))))
  (refine WV_cond rfl (fun h => ?_) (fun h => ?_))
  · have h : someE r ≠ 0 := by simpa using h
    (repeat ((first | refine WV_seq_ ?_ | refine WV_block ?_ | refine WV_ops ?_ | refine WV_skip ?_ | refine WV_exit ?_); (try simp only [go_sem, init_env', Nat.reduceEqDiff, Nat.reduceAdd, Nat.reduceMul, reduceIte, Nat.reduceLeDiff, Nat.reduceLT, Nat.reduceBEq, reduceCtorEq, hP, ]); (repeat (refine And.intro (by first | omega | (intros; simp_all; done) | (intros; simp_all; omega)) ?_))))
    (refine WV_ret ?_; simp only [thenQ, inQ, RetQ, RetOk, resAll, resA]; simp only [go_sem, init_env', Nat.reduceEqDiff, Nat.reduceAdd, Nat.reduceMul, reduceIte, Nat.reduceLeDiff, Nat.reduceLT, Nat.reduceBEq, reduceCtorEq, tupA, AV.port, AV.portL, exists_eq_left', ]; (first | exact AVle.of rfl | refine AVle.of ?_ | skip))
    simp [shortestS, h]
  · have h : someE r = 0 := by simpa using h
    (repeat ((first | refine WV_seq_ ?_ | refine WV_block ?_ | refine WV_ops ?_ | refine WV_skip ?_ | refine WV_exit ?_); (try simp only [go_sem, init_env', Nat.reduceEqDiff, Nat.reduceAdd, Nat.reduceMul, reduceIte, Nat.reduceLeDiff, Nat.reduceLT, Nat.reduceBEq, reduceCtorEq, hP, ]); (repeat (refine And.intro (by first | omega | (intros; simp_all; done) | (intros; simp_all; omega)) ?_))))
    (refine WV_ret ?_; simp only [thenQ, inQ, RetQ, RetOk, resAll, resA]; simp only [go_sem, init_env', Nat.reduceEqDiff, Nat.reduceAdd, Nat.reduceMul, reduceIte, Nat.reduceLeDiff, Nat.reduceLT, Nat.reduceBEq, reduceCtorEq, tupA, AV.port, AV.portL, exists_eq_left', ]; (first | exact AVle.of rfl | refine AVle.of ?_ | skip))
    simp [shortestS, h, wholesOf, (someE_ok h).1]

theorem way18 (r : Route) : FSpec Try.prog 18 [r.av] (.tup [.c (wayS r).1, iv (wayS r).2]) := by
  refine FSpec_of c18 (Nat.le_refl _) (by decide) fun C hP hN hC hL => ?_
  simp only [ir18, Route.av]
  (repeat ((first | refine WV_seq_ ?_ | refine WV_block ?_ | refine WV_ops ?_ | refine WV_skip ?_ | refine WV_exit ?_); (try simp only [go_sem, init_env', Nat.reduceEqDiff, Nat.reduceAdd, Nat.reduceMul, reduceIte, Nat.reduceLeDiff, Nat.reduceLT, Nat.reduceBEq, reduceCtorEq, hP, ]); (repeat (refine And.intro (by first | omega | (intros; simp_all; done) | (intros; simp_all; omega)) ?_))))
  (refine AS_pure (short53 r) rfl rfl rfl rfl rfl ?_; simp only [go_sem, init_env', Nat.reduceEqDiff, Nat.reduceAdd, Nat.reduceMul, reduceIte, Nat.reduceLeDiff, Nat.reduceLT, Nat.reduceBEq, reduceCtorEq, hP, Route.av]; (repeat (refine And.intro (by first | omega | (intros; simp_all; done) | (intros; simp_all; omega)) ?_)); (repeat ((first | refine WV_seq_ ?_ | refine WV_block ?_ | refine WV_ops ?_ | refine WV_skip ?_ | refine WV_exit ?_); (try simp only [go_sem, init_env', Nat.reduceEqDiff, Nat.reduceAdd, Nat.reduceMul, reduceIte, Nat.reduceLeDiff, Nat.reduceLT, Nat.reduceBEq, reduceCtorEq, hP, Route.av]); (repeat (refine And.intro (by first | omega | (intros; simp_all; done) | (intros; simp_all; omega)) ?_)))))
  (refine WV_cond rfl (fun h => ?_) (fun h => ?_))
  · have h : someE r ≠ 0 := by simpa using h
    have e : wayS r = (ints [], someE r) := if_neg h
    rw [e]
    (repeat ((first | refine WV_seq_ ?_ | refine WV_block ?_ | refine WV_ops ?_ | refine WV_skip ?_ | refine WV_exit ?_); (try simp only [go_sem, init_env', Nat.reduceEqDiff, Nat.reduceAdd, Nat.reduceMul, reduceIte, Nat.reduceLeDiff, Nat.reduceLT, Nat.reduceBEq, reduceCtorEq, hP, ]); (repeat (refine And.intro (by first | omega | (intros; simp_all; done) | (intros; simp_all; omega)) ?_))))
    (refine WV_ret ?_; simp only [thenQ, inQ, RetQ, RetOk, resAll, resA]; simp only [go_sem, init_env', Nat.reduceEqDiff, Nat.reduceAdd, Nat.reduceMul, reduceIte, Nat.reduceLeDiff, Nat.reduceLT, Nat.reduceBEq, reduceCtorEq, tupA, AV.port, AV.portL, exists_eq_left', ])
    exact AVle.tup (AVles.cons (AVle.nil 1) (AVles.refl _))
  · have h : someE r = 0 := by simpa using h
    (repeat ((first | refine WV_seq_ ?_ | refine WV_block ?_ | refine WV_ops ?_ | refine WV_skip ?_ | refine WV_exit ?_); (try simp only [go_sem, init_env', Nat.reduceEqDiff, Nat.reduceAdd, Nat.reduceMul, reduceIte, Nat.reduceLeDiff, Nat.reduceLT, Nat.reduceBEq, reduceCtorEq, hP, ]); (repeat (refine And.intro (by first | omega | (intros; simp_all; done) | (intros; simp_all; omega)) ?_))))
    (refine WV_ret ?_; simp only [thenQ, inQ, RetQ, RetOk, resAll, resA]; simp only [go_sem, init_env', Nat.reduceEqDiff, Nat.reduceAdd, Nat.reduceMul, reduceIte, Nat.reduceLeDiff, Nat.reduceLT, Nat.reduceBEq, reduceCtorEq, tupA, AV.port, AV.portL, exists_eq_left', ]; (first | exact AVle.of rfl | refine AVle.of ?_ | skip))
    simp [wayS, h, wholesOf, (someE_ok h).1]
end Go.Proofs.Ytbejgfpaokcnpaa

namespace Go.Proofs.Ytbejgfpaokcnpaa
open Go Go.V
@[reducible] def o41_0 : List Ins := [⟨(some 1), .box 3 (.t 0), none, true⟩,
  ⟨(some 2), .mv (.k (.c (.int .i64 0))), none, true⟩,
  ⟨(some 3), .mv (.k (.c (.int .i64 0))), none, true⟩]
@[reducible] def o41_1 : List Ins := [⟨(some 10), .ld false 3 (.t 1), none, true⟩,
  ⟨(some 11), .call (.k (.fn 26 [])) [(.t 10)], none, true⟩,
  ⟨(some 4), .mv (.t 11), none, true⟩]
@[reducible] def o41_2 : List Ins := [⟨(some 12), .mv (.t 4), none, true⟩,
  ⟨(some 13), .bin .neq (.t 12) (.k (.c (.int .i64 0))), none, true⟩]
@[reducible] def o41_3 : List Ins := [⟨(some 14), .mv (.t 4), none, true⟩,
  ⟨(some 2), .mv (.k (.c (.int .i64 0))), none, true⟩,
  ⟨(some 3), .mv (.t 14), none, true⟩]
@[reducible] def v41_4 : VC := (.seq (.ops o41_3) .ret)
@[reducible] def v41_5 : VC := (.cond (.t 13) v41_4 .skip)
@[reducible] def v41_6 : VC := (.seq (.ops o41_2) v41_5)
@[reducible] def o41_7 : List Ins := [⟨(some 5), .alloc [(.c (.int .i64 0))], none, true⟩,
  ⟨none, .st 1 (.t 5) (.k (.c (.int .i64 0))), none, true⟩]
@[reducible] def o41_8 : List Ins := [⟨(some 15), .call (.k (.fn 66 [])) [(.t 1)], none, true⟩]
@[reducible] def o41_9 : List Ins := [⟨(some 7), .mv (.k (.c (.int .i64 0))), none, true⟩]
@[reducible] def o41_10 : List Ins := [⟨(some 18), .mv (.t 6), none, true⟩,
  ⟨(some 19), .len (.t 18), none, true⟩,
  ⟨(some 20), .mv (.k (.c (.int .i64 0))), none, true⟩]
@[reducible] def o41_11 : List Ins := [⟨(some 21), .bin .lss (.t 20) (.t 19), none, true⟩]
@[reducible] def o41_12 : List Ins := [⟨(some 22), .ia 1 (.t 18) (.t 20), none, true⟩,
  ⟨(some 23), .ld true 1 (.t 22), none, true⟩,
  ⟨(some 9), .mv (.t 23), none, true⟩]
@[reducible] def o41_13 : List Ins := [⟨(some 24), .mv (.t 7), none, true⟩,
  ⟨(some 25), .fa 0 (.t 1), none, true⟩,
  ⟨(some 26), .ld true 1 (.t 25), none, true⟩,
  ⟨(some 27), .mv (.t 9), none, true⟩,
  ⟨(some 28), .ia 4 (.t 26) (.t 27), none, true⟩,
  ⟨(some 29), .fa 3 (.t 28), none, true⟩,
  ⟨(some 30), .ld true 1 (.t 29), none, true⟩,
  ⟨(some 31), .bin .add (.t 24) (.t 30), none, true⟩,
  ⟨(some 7), .mv (.t 31), none, true⟩]
@[reducible] def v41_14 : VC := (.seq (.ops o41_12) (.ops o41_13))
@[reducible] def o41_15 : List Ins := [⟨(some 32), .bin .add (.t 20) (.k (.c (.int .i64 1))), none, true⟩,
  ⟨(some 20), .mv (.t 32), none, true⟩]
@[reducible] def v41_16 : VC := (.seq (.block 3 v41_14) (.ops o41_15))
@[reducible] def v41_17 : VC := (.seq (.cond (.t 21) .skip (.exit 2)) v41_16)
@[reducible] def v41_18 : VC := (.seq (.ops o41_11) v41_17)
-- K41_2: changed and kept: [20, 7]
@[reducible] def K41_2 : List Nat := [1, 5, 18, 19]
@[reducible] def v41_19 : VC := (.loop v41_18)
@[reducible] def v41_20 : VC := (.block 2 v41_19)
@[reducible] def o41_21 : List Ins := [⟨(some 33), .ld true 1 (.t 5), none, true⟩,
  ⟨(some 34), .mv (.t 7), none, true⟩,
  ⟨(some 35), .mm true (.t 33) (.t 34), none, true⟩,
  ⟨none, .st 1 (.t 5) (.t 35), none, true⟩]
@[reducible] def v41_22 : VC := (.seq (.seq (.ops o41_10) v41_20) (.ops o41_21))
@[reducible] def v41_23 : VC := (.seq (.ops o41_9) v41_22)
@[reducible] def v41_24 : VC := (.block 1 v41_23)
@[reducible] def o41_25 : List Ins := [⟨(some 6), .mv (.t 16), none, true⟩]
@[reducible] def K41_1 : List Nat := [1, 5, 15]
@[reducible] def v41_26 : VC := (.rng (.t 15) [16, 17] (.ops o41_25) v41_24)
@[reducible] def v41_27 : VC := (.block 0 v41_26)
@[reducible] def o41_28 : List Ins := [⟨(some 36), .ld true 1 (.t 5), none, true⟩,
  ⟨(some 2), .mv (.t 36), none, true⟩,
  ⟨(some 3), .mv (.k (.c (.int .i64 0))), none, true⟩]
@[reducible] def v41_29 : VC := (.seq (.ops o41_28) .ret)
@[reducible] def v41_30 : VC := (.seq (.seq (.ops o41_8) v41_27) v41_29)
@[reducible] def v41_31 : VC := (.seq (.ops o41_7) v41_30)
@[reducible] def v41_32 : VC := (.seq (.seq (.ops o41_1) v41_6) v41_31)
def ir41 : FC := ⟨1, 37, [.t 2, .t 3], (.seq (.ops o41_0) v41_32)⟩
theorem c41 : compM Try.prog [] 41 = some ir41 := by kernel_rfl



def cashS (r : Route) (t : List Nat) : Int := (t.map fun k => (r.s k).ca).sum
theorem cashS_snoc (r : Route) (t : List Nat) (k : Nat) : cashS r (t ++ [k]) = cashS r t + (r.s k).ca := by simp [cashS]
theorem cashS_ok {r : Route} (hr : RouteOk r) : ∀ {t : List Nat}, (∀ k ∈ t, k < r.n) → 0 ≤ cashS r t ∧ cashS r t ≤ 99999 * t.length
  | [], _ => by simp [cashS]
  | k :: t, h => by
    have ih := cashS_ok hr (t := t) fun j hj => h j (by simp [hj])
    have hk := hr.stop k (h k (by simp))
    simp only [cashS, List.map_cons, List.sum_cons, List.length_cons] at ih ⊢
    omega
def mostB (r : Route) (l : List (List Nat × Van)) : Int := (l.map fun p => cashS r p.1).foldl max 0
theorem mostB_snoc (r : Route) (l : List (List Nat × Van)) (p : List Nat × Van) : mostB r (l ++ [p]) = max (mostB r l) (cashS r p.1) := by simp [mostB]
def mostS (r : Route) : Int × Int := if r.ok then (mostB r (goods r), 0) else (0, 80)
theorem cellsT_getD {t : List Nat} {k : Nat} (h : k < t.length) (d : AV) : (cellsT t).getD k d = iv (t[k] : Int) := by simp [cellsT, h]

set_option maxHeartbeats 4000000 in
theorem most41 (r : Route) : FSpec Try.prog 41 [r.av] (.tup [iv (mostS r).1, iv (mostS r).2]) := by
  refine FSpec_of c41 (Nat.le_refl _) (by decide) fun C hP hN hC hL => ?_
  simp only [ir41, Route.av]
  (repeat ((first | refine WV_seq_ ?_ | refine WV_block ?_ | refine WV_ops ?_ | refine WV_skip ?_ | refine WV_exit ?_); (try simp only [go_sem, init_env', Nat.reduceEqDiff, Nat.reduceAdd, Nat.reduceMul, reduceIte, Nat.reduceLeDiff, Nat.reduceLT, Nat.reduceBEq, reduceCtorEq, hP, ]); (repeat (refine And.intro (by first | omega | (intros; simp_all; done) | (intros; simp_all; omega)) ?_))))
  (refine AS_pure (rcheck_spec r) rfl rfl rfl rfl rfl ?_; simp only [go_sem, init_env', Nat.reduceEqDiff, Nat.reduceAdd, Nat.reduceMul, reduceIte, Nat.reduceLeDiff, Nat.reduceLT, Nat.reduceBEq, reduceCtorEq, hP, Route.av]; (repeat (refine And.intro (by first | omega | (intros; simp_all; done) | (intros; simp_all; omega)) ?_)); (repeat ((first | refine WV_seq_ ?_ | refine WV_block ?_ | refine WV_ops ?_ | refine WV_skip ?_ | refine WV_exit ?_); (try simp only [go_sem, init_env', Nat.reduceEqDiff, Nat.reduceAdd, Nat.reduceMul, reduceIte, Nat.reduceLeDiff, Nat.reduceLT, Nat.reduceBEq, reduceCtorEq, hP, Route.av]); (repeat (refine And.intro (by first | omega | (intros; simp_all; done) | (intros; simp_all; omega)) ?_)))))
  by_cases hok : r.ok = true
  · have hr := Route.ok_spec hok
    have hn7 := hr.n7
    simp only [hok, if_true]
    (refine WV_cond rfl (fun h => ?_) (fun h => ?_))
    · simp at h
    · clear h
      have hsl : (r.stops.length : Int) = (r.n : Int) := rfl
      refine WV_freeze 1 (ds := r.cds) rfl rfl ?_
      (repeat ((first | refine WV_seq_ ?_ | refine WV_block ?_ | refine WV_ops ?_ | refine WV_skip ?_ | refine WV_exit ?_); (try simp only [go_sem, init_env', Nat.reduceEqDiff, Nat.reduceAdd, Nat.reduceMul, reduceIte, Nat.reduceLeDiff, Nat.reduceLT, Nat.reduceBEq, reduceCtorEq, hP, ]); (repeat (refine And.intro (by first | omega | (intros; simp_all; done) | (intros; simp_all; omega)) ?_))))
      (refine AS_pure (tours66 r) rfl rfl rfl rfl rfl ?_; simp only [go_sem, init_env', Nat.reduceEqDiff, Nat.reduceAdd, Nat.reduceMul, reduceIte, Nat.reduceLeDiff, Nat.reduceLT, Nat.reduceBEq, reduceCtorEq, hP, ]; (repeat (refine And.intro (by first | omega | (intros; simp_all; done) | (intros; simp_all; omega)) ?_)); (repeat ((first | refine WV_seq_ ?_ | refine WV_block ?_ | refine WV_ops ?_ | refine WV_skip ?_ | refine WV_exit ?_); (try simp only [go_sem, init_env', Nat.reduceEqDiff, Nat.reduceAdd, Nat.reduceMul, reduceIte, Nat.reduceLeDiff, Nat.reduceLT, Nat.reduceBEq, reduceCtorEq, hP, ]); (repeat (refine And.intro (by first | omega | (intros; simp_all; done) | (intros; simp_all; omega)) ?_)))))
      refine WV_keep K41_1 ?_
      simp only [go_sem, init_env', Nat.reduceEqDiff, Nat.reduceAdd, Nat.reduceMul, reduceIte, Nat.reduceLeDiff, Nat.reduceLT, Nat.reduceBEq, reduceCtorEq]
      refine WV_rng hC (L := [5]) (l := [.box [iv (mostB r [])]]) (env' := lendF [5] _ _) (rem := (goods r).map (entT r)) (Fin := fun pend lf => pend = none ∧ lf = [.box [iv (mostB r (goods r))]]) rfl rfl rfl (by decide) (by decide) ?_ (by rw [hN]; decide) (lendF_ok _ _ _) (fun g' => ?_) ?_ ?_
      · simp only [go_sem, init_env', Nat.reduceEqDiff, Nat.reduceAdd, Nat.reduceMul, reduceIte, Nat.reduceLeDiff, Nat.reduceLT, Nat.reduceBEq, reduceCtorEq, obsLend, Ob.lend, AV.lendL, AV.lend, mostB, List.foldl_nil]
      · rw [hP]; exact ⟨_, tours74 hr g', fun _ _ h => h⟩
      · refine RunR_pre (entT r) (fun pre => [.box [iv (mostB r pre)]]) (goods r) (fun p => rfl) (fun t _ => ⟨rfl, rfl⟩) (fun pre p post hts => ?_) (goods r) [] rfl
        have hpo := goods_ok hr p (by rw [hts]; simp)
        have hple := goods_len hr (p := p) (by rw [hts]; simp)
        have hprg : ∀ d, AV.prgL d (cellsT p.1) = cellsT p.1 := fun d => prgL_pure d (cellsT_pure _)
        simp only [mostB_snoc]
        intro C1 h1 h2 h3
        have hP0 := hP
        replace hP := h1.trans hP0
        rw [ownW_upd (by simp)]
        generalize mostB r pre = b
        simp only [go_sem, init_env', Nat.reduceEqDiff, Nat.reduceAdd, Nat.reduceMul, reduceIte, Nat.reduceLeDiff, Nat.reduceLT, Nat.reduceBEq, reduceCtorEq, lendF_upd, lendF_e0, AV.lend, AV.lendL, Option.getD_some, Option.getD_none, List.zip_cons_cons, List.zip_nil_right, updLo, entT, vanv]
        (repeat ((first | refine WV_seq_ ?_ | refine WV_block ?_ | refine WV_ops ?_ | refine WV_skip ?_ | refine WV_exit ?_); (try simp only [go_sem, init_env', Nat.reduceEqDiff, Nat.reduceAdd, Nat.reduceMul, reduceIte, Nat.reduceLeDiff, Nat.reduceLT, Nat.reduceBEq, reduceCtorEq, hP, ]); (repeat (refine And.intro (by first | omega | (intros; simp_all; done) | (intros; simp_all; omega)) ?_))))
        intro C2 h1 h2 h3
        replace hP := h1.trans hP0
        (repeat ((first | refine WV_seq_ ?_ | refine WV_block ?_ | refine WV_ops ?_ | refine WV_skip ?_ | refine WV_exit ?_); (try simp only [go_sem, init_env', Nat.reduceEqDiff, Nat.reduceAdd, Nat.reduceMul, reduceIte, Nat.reduceLeDiff, Nat.reduceLT, Nat.reduceBEq, reduceCtorEq, hP, hprg, Route.cds, stopsC]); (repeat (refine And.intro (by first | omega | (intros; simp_all; done) | (intros; simp_all; omega)) ?_))))
        refine WV_loopK K41_2 [] (fun k : Nat => k ≤ p.1.length) (fun k => p.1.length - k) (fun k => [(20, iv k), (7, iv (cashS r (p.1.take k)))]) (fun _ => []) 0 (Nat.zero_le _) ?_ ?_
        · (refine Sub_of (by simp only [go_sem, init_env', Nat.reduceEqDiff, Nat.reduceAdd, Nat.reduceMul, reduceIte, Nat.reduceLeDiff, Nat.reduceLT, Nat.reduceBEq, reduceCtorEq]; ((repeat' (first | exact EnvLe_e0 _ _ | refine EnvLe_upd ?_ ?_)) <;> ((try simp only [upd_app, e0_app, o0_app, Nat.reduceEqDiff, reduceIte]); first | exact AWk.refl _ _ | exact AWk.int (by omega) | exact AWk.int (by rw [w64 (by omega) (by omega)]; omega) | exact AWk.grow rfl | exact AWk.nil _ | exact AWk.of (by simp)))) (by simp only [go_sem, init_env', Nat.reduceEqDiff, Nat.reduceAdd, Nat.reduceMul, reduceIte, Nat.reduceLeDiff, Nat.reduceLT, Nat.reduceBEq, reduceCtorEq]; ((repeat' (first | exact ObjLe_o0 _ | exact ObjLe.rfl' _ | refine ObjLe_same ?_ | refine ObjLe_upd ?_ ?_ | refine ObjLe_new rfl ?_)) <;> rfl)))
        · intro k hk
          simp only [go_sem, init_env', Nat.reduceEqDiff, Nat.reduceAdd, Nat.reduceMul, reduceIte, Nat.reduceLeDiff, Nat.reduceLT, Nat.reduceBEq, reduceCtorEq]
          (repeat ((first | refine WV_seq_ ?_ | refine WV_block ?_ | refine WV_ops ?_ | refine WV_skip ?_ | refine WV_exit ?_); (try simp only [go_sem, init_env', Nat.reduceEqDiff, Nat.reduceAdd, Nat.reduceMul, reduceIte, Nat.reduceLeDiff, Nat.reduceLT, Nat.reduceBEq, reduceCtorEq, hP, ]); (repeat (refine And.intro (by first | omega | (intros; simp_all; done) | (intros; simp_all; omega)) ?_))))
          (refine WV_cond rfl (fun h => ?_) (fun h => ?_))
          · have h : k < p.1.length := by simpa using h
            have hkk := hpo.2.1 _ (List.getElem_mem h)
            have hd1 : p.1[k] < r.stops.length := hkk
            have e1 : r.stops[p.1[k]] = r.s p.1[k] := by simp [Route.s, hd1]
            have hcs := cashS_ok hr (t := p.1.take k) fun j hj => hpo.2.1 j (List.mem_of_mem_take hj)
            have htl : (p.1.take k).length ≤ 7 := by rw [List.length_take]; omega
            have hca := hr.stop _ hkk
            have hw := w64 (n := cashS r (p.1.take k) + (r.s p.1[k]).ca) (by omega) (by omega)
            have hw2 := w64 (n := (k : Int) + 1) (by omega) (by omega)
            (repeat ((first | refine WV_seq_ ?_ | refine WV_block ?_ | refine WV_ops ?_ | refine WV_skip ?_ | refine WV_exit ?_); (try simp only [go_sem, init_env', Nat.reduceEqDiff, Nat.reduceAdd, Nat.reduceMul, reduceIte, Nat.reduceLeDiff, Nat.reduceLT, Nat.reduceBEq, reduceCtorEq, hP, hprg, Route.cds, stopsC, cellsT_len, cellsT_getD h, Int.toNat_natCast, Nat.mul_one, map_getD hd1, e1, Stop.cds, Int.ofNat_lt, h, hd1, Int.natCast_nonneg, hw, hw2]); (repeat (refine And.intro (by first | omega | (intros; simp_all; done) | (intros; simp_all; omega)) ?_))))
            refine ⟨k + 1, by omega, by omega, ?_⟩
            rw [List.take_succ_eq_append_getElem (by assumption), cashS_snoc]
            (refine Sub_of (by simp only [go_sem, init_env', Nat.reduceEqDiff, Nat.reduceAdd, Nat.reduceMul, reduceIte, Nat.reduceLeDiff, Nat.reduceLT, Nat.reduceBEq, reduceCtorEq]; ((repeat' (first | exact EnvLe_e0 _ _ | refine EnvLe_upd ?_ ?_)) <;> ((try simp only [upd_app, e0_app, o0_app, Nat.reduceEqDiff, reduceIte]); first | exact AWk.refl _ _ | exact AWk.int (by omega) | exact AWk.int (by rw [w64 (by omega) (by omega)]; omega) | exact AWk.grow rfl | exact AWk.nil _ | exact AWk.of (by simp)))) (by simp only [go_sem, init_env', Nat.reduceEqDiff, Nat.reduceAdd, Nat.reduceMul, reduceIte, Nat.reduceLeDiff, Nat.reduceLT, Nat.reduceBEq, reduceCtorEq]; ((repeat' (first | exact ObjLe_o0 _ | exact ObjLe.rfl' _ | refine ObjLe_same ?_ | refine ObjLe_upd ?_ ?_ | refine ObjLe_new rfl ?_)) <;> rfl)))
          · have h : k = p.1.length := by simp at h; omega
            subst h
            rw [List.take_length]
            (repeat ((first | refine WV_seq_ ?_ | refine WV_block ?_ | refine WV_ops ?_ | refine WV_skip ?_ | refine WV_exit ?_); (try simp only [go_sem, init_env', Nat.reduceEqDiff, Nat.reduceAdd, Nat.reduceMul, reduceIte, Nat.reduceLeDiff, Nat.reduceLT, Nat.reduceBEq, reduceCtorEq, hP, hprg]); (repeat (refine And.intro (by first | omega | (intros; simp_all; done) | (intros; simp_all; omega)) ?_))))
            refine ⟨none, _, rfl, ?_, rfl, rfl⟩
            refine KeepL_mk rfl rfl ?_ ?_ rfl
            · simp only [go_sem, init_env', Nat.reduceEqDiff, Nat.reduceAdd, Nat.reduceMul, reduceIte, Nat.reduceLeDiff, Nat.reduceLT, Nat.reduceBEq, reduceCtorEq, keepAll, Ob.keepP, AV.keepP, AV.keepPL]
            · simp only [go_sem, init_env', Nat.reduceEqDiff, Nat.reduceAdd, Nat.reduceMul, reduceIte, Nat.reduceLeDiff, Nat.reduceLT, Nat.reduceBEq, reduceCtorEq, winAll]
      · rintro _ _ ⟨rfl, rfl⟩
        refine ⟨_, rfl, rfl, ?_⟩
        simp only [go_sem, init_env', Nat.reduceEqDiff, Nat.reduceAdd, Nat.reduceMul, reduceIte, Nat.reduceLeDiff, Nat.reduceLT, Nat.reduceBEq, reduceCtorEq, exitOf, ownBack]
        (repeat ((first | refine WV_seq_ ?_ | refine WV_block ?_ | refine WV_ops ?_ | refine WV_skip ?_ | refine WV_exit ?_); (try simp only [go_sem, init_env', Nat.reduceEqDiff, Nat.reduceAdd, Nat.reduceMul, reduceIte, Nat.reduceLeDiff, Nat.reduceLT, Nat.reduceBEq, reduceCtorEq, hP, ]); (repeat (refine And.intro (by first | omega | (intros; simp_all; done) | (intros; simp_all; omega)) ?_))))
        (refine WV_ret ?_; simp only [thenQ, inQ, RetQ, RetOk, resAll, resA]; simp only [go_sem, init_env', Nat.reduceEqDiff, Nat.reduceAdd, Nat.reduceMul, reduceIte, Nat.reduceLeDiff, Nat.reduceLT, Nat.reduceBEq, reduceCtorEq, tupA, AV.port, AV.portL, exists_eq_left', ]; (first | exact AVle.of rfl | refine AVle.of ?_ | skip))
        simp [mostS, hok]
  · have hok : r.ok = false := by simpa using hok
    simp only [hok, Bool.false_eq_true, if_false]
    (refine WV_cond rfl (fun h => ?_) (fun h => ?_))
    · (repeat ((first | refine WV_seq_ ?_ | refine WV_block ?_ | refine WV_ops ?_ | refine WV_skip ?_ | refine WV_exit ?_); (try simp only [go_sem, init_env', Nat.reduceEqDiff, Nat.reduceAdd, Nat.reduceMul, reduceIte, Nat.reduceLeDiff, Nat.reduceLT, Nat.reduceBEq, reduceCtorEq, hP, ]); (repeat (refine And.intro (by first | omega | (intros; simp_all; done) | (intros; simp_all; omega)) ?_))))
      (refine WV_ret ?_; simp only [thenQ, inQ, RetQ, RetOk, resAll, resA]; simp only [go_sem, init_env', Nat.reduceEqDiff, Nat.reduceAdd, Nat.reduceMul, reduceIte, Nat.reduceLeDiff, Nat.reduceLT, Nat.reduceBEq, reduceCtorEq, tupA, AV.port, AV.portL, exists_eq_left', ]; (first | exact AVle.of rfl | refine AVle.of ?_ | skip))
      simp [mostS, hok]
    · simp at h
end Go.Proofs.Ytbejgfpaokcnpaa

namespace Go.Proofs.Ytbejgfpaokcnpaa
open Go Go.V
@[reducible] def o23_0 : List Ins := [⟨(some 2), .box 3 (.t 0), none, true⟩,
  ⟨(some 4), .mv (.k (.c (.bool false))), none, true⟩]
@[reducible] def o23_1 : List Ins := [⟨(some 5), .mv (.k (.c (.int .i64 0))), none, true⟩]
@[reducible] def o23_2 : List Ins := [⟨(some 6), .mv (.t 5), none, true⟩,
  ⟨(some 7), .mv (.t 1), none, true⟩,
  ⟨(some 8), .len (.t 7), none, true⟩,
  ⟨(some 9), .bin .lss (.t 6) (.t 8), none, true⟩]
@[reducible] def v23_3 : VC := (.cond (.t 9) .skip (.exit 0))
@[reducible] def o23_4 : List Ins := [⟨(some 12), .mv (.t 1), none, false⟩,
  ⟨(some 13), .mv (.t 5), none, false⟩,
  ⟨(some 14), .ia 1 (.t 12) (.t 13), none, false⟩,
  ⟨(some 15), .ld true 1 (.t 14), none, false⟩,
  ⟨(some 16), .fa 0 (.t 2), none, false⟩,
  ⟨(some 17), .ld true 1 (.t 16), none, false⟩,
  ⟨(some 18), .len (.t 17), none, false⟩,
  ⟨(some 19), .bin .sub (.t 18) (.k (.c (.int .i64 1))), none, false⟩,
  ⟨(some 20), .call (.k (.fn 55 [])) [(.t 15), (.k (.c (.int .i64 0))), (.t 19)], none, true⟩,
  ⟨(some 21), .un .not (.t 20), none, true⟩,
  ⟨(some 22), .mv (.t 21), none, true⟩,
  ⟨(some 23), .mv (.t 1), (some (22, false)), false⟩,
  ⟨(some 24), .mv (.t 5), (some (22, false)), false⟩,
  ⟨(some 25), .slc 1 (.t 23) none (some (.t 24)), (some (22, false)), false⟩,
  ⟨(some 26), .mv (.t 1), (some (22, false)), false⟩,
  ⟨(some 27), .mv (.t 5), (some (22, false)), false⟩,
  ⟨(some 28), .ia 1 (.t 26) (.t 27), (some (22, false)), false⟩,
  ⟨(some 29), .ld true 1 (.t 28), (some (22, false)), false⟩,
  ⟨(some 30), .call (.k (.fn 56 [])) [(.t 25), (.t 29)], (some (22, false)), true⟩,
  ⟨(some 31), .pick (.t 22) (.k (.c (.bool true))) (.t 30), none, true⟩]
@[reducible] def o23_5 : List Ins := [⟨(some 4), .mv (.k (.c (.bool false))), none, true⟩]
@[reducible] def v23_6 : VC := (.seq (.ops o23_5) .ret)
@[reducible] def v23_7 : VC := (.cond (.t 31) v23_6 .skip)
@[reducible] def v23_8 : VC := (.seq (.ops o23_4) v23_7)
@[reducible] def o23_9 : List Ins := [⟨(some 10), .mv (.t 5), none, true⟩,
  ⟨(some 11), .bin .add (.t 10) (.k (.c (.int .i64 1))), none, true⟩,
  ⟨(some 5), .mv (.t 11), none, true⟩]
@[reducible] def v23_10 : VC := (.seq (.block 1 v23_8) (.ops o23_9))
@[reducible] def v23_11 : VC := (.seq (.seq (.ops o23_2) v23_3) v23_10)
-- K23_1: changed and kept: [5]
@[reducible] def K23_1 : List Nat := [1, 2]
@[reducible] def v23_12 : VC := (.loop v23_11)
@[reducible] def v23_13 : VC := (.block 0 v23_12)
@[reducible] def o23_14 : List Ins := [⟨(some 4), .mv (.k (.c (.bool true))), none, true⟩]
@[reducible] def v23_15 : VC := (.seq (.ops o23_14) .ret)
@[reducible] def v23_16 : VC := (.seq (.seq (.ops o23_1) v23_13) v23_15)
def ir23 : FC := ⟨2, 32, [.t 4], (.seq (.ops o23_0) v23_16)⟩
theorem c23 : compM Try.prog [] 23 = some ir23 := by kernel_rfl



set_option maxHeartbeats 4000000 in
theorem istour23 {r : Route} (hn7 : r.n ≤ 7) (l : List Int) (hlen : l.length ≤ 20) : FSpec Try.prog 23 [r.av, .c (ints l)] (.c (.bool (isTour r l))) := by
  refine FSpec_of c23 (Nat.le_refl _) (by decide) fun C hP hN hC hL => ?_
  simp only [ir23, Route.av, ints]
  have hsl : (r.stops.length : Int) = (r.n : Int) := rfl
  (repeat ((first | refine WV_seq_ ?_ | refine WV_block ?_ | refine WV_ops ?_ | refine WV_skip ?_ | refine WV_exit ?_); (try simp only [go_sem, init_env', Nat.reduceEqDiff, Nat.reduceAdd, Nat.reduceMul, reduceIte, Nat.reduceLeDiff, Nat.reduceLT, Nat.reduceBEq, reduceCtorEq, hP, ]); (repeat (refine And.intro (by first | omega | (intros; simp_all; done) | (intros; simp_all; omega)) ?_))))
  refine WV_loopK K23_1 [2] (fun k : Nat => k ≤ l.length ∧ ∀ j (hj : j < l.length), j < k → 0 ≤ l[j] ∧ l[j] < (r.n : Int) ∧ l[j] ∉ l.take j) (fun k => l.length - k) (fun k => [(5, iv k)]) (fun k => [(2, .box [.c (stopsC r.stops), .c (driveC r.drive), .c (.int .i64 r.start)])]) 0 ⟨Nat.zero_le _, fun _ _ h => by omega⟩ ?_ ?_
  · (refine Sub_of (by simp only [go_sem, init_env', Nat.reduceEqDiff, Nat.reduceAdd, Nat.reduceMul, reduceIte, Nat.reduceLeDiff, Nat.reduceLT, Nat.reduceBEq, reduceCtorEq]; ((repeat' (first | exact EnvLe_e0 _ _ | refine EnvLe_upd ?_ ?_)) <;> ((try simp only [upd_app, e0_app, o0_app, Nat.reduceEqDiff, reduceIte]); first | exact AWk.refl _ _ | exact AWk.int (by omega) | exact AWk.int (by rw [w64 (by omega) (by omega)]; omega) | exact AWk.grow rfl | exact AWk.nil _ | exact AWk.of (by simp)))) (by simp only [go_sem, init_env', Nat.reduceEqDiff, Nat.reduceAdd, Nat.reduceMul, reduceIte, Nat.reduceLeDiff, Nat.reduceLT, Nat.reduceBEq, reduceCtorEq]; ((repeat' (first | exact ObjLe_o0 _ | exact ObjLe.rfl' _ | refine ObjLe_same ?_ | refine ObjLe_upd ?_ ?_ | refine ObjLe_new rfl ?_)) <;> rfl)))
  · intro k ⟨hk1, hk2⟩
    simp only [go_sem, init_env', Nat.reduceEqDiff, Nat.reduceAdd, Nat.reduceMul, reduceIte, Nat.reduceLeDiff, Nat.reduceLT, Nat.reduceBEq, reduceCtorEq]
    (repeat ((first | refine WV_seq_ ?_ | refine WV_block ?_ | refine WV_ops ?_ | refine WV_skip ?_ | refine WV_exit ?_); (try simp only [go_sem, init_env', Nat.reduceEqDiff, Nat.reduceAdd, Nat.reduceMul, reduceIte, Nat.reduceLeDiff, Nat.reduceLT, Nat.reduceBEq, reduceCtorEq, hP, ]); (repeat (refine And.intro (by first | omega | (intros; simp_all; done) | (intros; simp_all; omega)) ?_))))
    (refine WV_cond rfl (fun h => ?_) (fun h => ?_))
    · have h : k < l.length := by simpa using h
      have hw2 := w64 (n := (k : Int) + 1) (by omega) (by omega)
      (repeat ((first | refine WV_seq_ ?_ | refine WV_block ?_ | refine WV_ops ?_ | refine WV_skip ?_ | refine WV_exit ?_); (try simp only [go_sem, init_env', Nat.reduceEqDiff, Nat.reduceAdd, Nat.reduceMul, reduceIte, Nat.reduceLeDiff, Nat.reduceLT, Nat.reduceBEq, reduceCtorEq, hP, Int.toNat_natCast, map_getD h, Int.ofNat_lt, h, Int.natCast_nonneg, stopsC]); (repeat (refine And.intro (by first | omega | (intros; simp_all; done) | (intros; simp_all; omega)) ?_))))
      rw [w64 (by omega) (by omega)]
      refine AS_pure (wi55 _ _ _) rfl rfl rfl rfl rfl ?_
      have hwi : within l[k] 0 ((r.stops.length : Int) - 1) = decide (0 ≤ l[k] ∧ l[k] < (r.n : Int)) := by
        rw [Bool.eq_iff_iff]; simp [within]; omega
      rw [hwi]
      simp only [go_sem, init_env', Nat.reduceEqDiff, Nat.reduceAdd, Nat.reduceMul, reduceIte, Nat.reduceLeDiff, Nat.reduceLT, Nat.reduceBEq, reduceCtorEq, hP, Int.toNat_natCast, map_getD h, Int.ofNat_lt, h, Int.natCast_nonneg]
      refine ⟨fun hG => ⟨hG, hG, by omega, by omega⟩, ?_⟩
      refine AG_pure (fun hG => in56 (l.take k) l[k]) rfl (fun hG => by simp only [go_sem, init_env', Nat.reduceEqDiff, Nat.reduceAdd, Nat.reduceMul, reduceIte, Nat.reduceLeDiff, Nat.reduceLT, Nat.reduceBEq, reduceCtorEq, hG]) rfl ?_ rfl ?_
      · simp only [go_sem, init_env', Nat.reduceEqDiff, Nat.reduceAdd, Nat.reduceMul, reduceIte, Nat.reduceLeDiff, Nat.reduceLT, Nat.reduceBEq, reduceCtorEq, AV.portL, AV.port, Int.toNat_natCast]
        simp [ints, List.map_take]
      · simp only [go_sem, init_env', Nat.reduceEqDiff, Nat.reduceAdd, Nat.reduceMul, reduceIte, Nat.reduceLeDiff, Nat.reduceLT, Nat.reduceBEq, reduceCtorEq, hP]
        refine ⟨fun h => by rw [h]; rfl, ?_⟩
        (repeat ((first | refine WV_seq_ ?_ | refine WV_block ?_ | refine WV_ops ?_ | refine WV_skip ?_ | refine WV_exit ?_); (try simp only [go_sem, init_env', Nat.reduceEqDiff, Nat.reduceAdd, Nat.reduceMul, reduceIte, Nat.reduceLeDiff, Nat.reduceLT, Nat.reduceBEq, reduceCtorEq, hP, ]); (repeat (refine And.intro (by first | omega | (intros; simp_all; done) | (intros; simp_all; omega)) ?_))))
        (refine WV_cond rfl (fun h => ?_) (fun h => ?_))
        · have hb : ¬ (0 ≤ l[k] ∧ l[k] < (r.n : Int)) ∨ l[k] ∈ l.take k := by
            by_cases hx : 0 ≤ l[k] ∧ l[k] < (r.n : Int)
            · right; rw [decide_eq_true hx] at h; simpa using h
            · exact .inl hx
          have e := isTour_bad (by assumption) hb
          rw [e]
          (repeat ((first | refine WV_seq_ ?_ | refine WV_block ?_ | refine WV_ops ?_ | refine WV_skip ?_ | refine WV_exit ?_); (try simp only [go_sem, init_env', Nat.reduceEqDiff, Nat.reduceAdd, Nat.reduceMul, reduceIte, Nat.reduceLeDiff, Nat.reduceLT, Nat.reduceBEq, reduceCtorEq, hP, ]); (repeat (refine And.intro (by first | omega | (intros; simp_all; done) | (intros; simp_all; omega)) ?_))))
          (refine WV_ret ?_; simp only [thenQ, inQ, RetQ, RetOk, resAll, resA]; simp only [go_sem, init_env', Nat.reduceEqDiff, Nat.reduceAdd, Nat.reduceMul, reduceIte, Nat.reduceLeDiff, Nat.reduceLT, Nat.reduceBEq, reduceCtorEq, tupA, AV.port, AV.portL, exists_eq_left', ]; (first | exact AVle.of rfl | refine AVle.of ?_ | skip))
        · have hb : (0 ≤ l[k] ∧ l[k] < (r.n : Int)) ∧ l[k] ∉ l.take k := by
            by_cases hx : 0 ≤ l[k] ∧ l[k] < (r.n : Int)
            · rw [decide_eq_true hx] at h; exact ⟨hx, by simpa using h⟩
            · rw [decide_eq_false hx] at h; simp at h
          (repeat ((first | refine WV_seq_ ?_ | refine WV_block ?_ | refine WV_ops ?_ | refine WV_skip ?_ | refine WV_exit ?_); (try simp only [go_sem, init_env', Nat.reduceEqDiff, Nat.reduceAdd, Nat.reduceMul, reduceIte, Nat.reduceLeDiff, Nat.reduceLT, Nat.reduceBEq, reduceCtorEq, hP, hw2]); (repeat (refine And.intro (by first | omega | (intros; simp_all; done) | (intros; simp_all; omega)) ?_))))
          refine ⟨k + 1, ⟨by omega, fun j hj hjk => ?_⟩, by omega, ?_⟩
          · rcases Nat.lt_or_ge j k with h1 | h1
            · exact hk2 j hj h1
            · have : j = k := by omega
              subst this
              exact ⟨hb.1.1, hb.1.2, hb.2⟩
          · (refine Sub_of (by simp only [go_sem, init_env', Nat.reduceEqDiff, Nat.reduceAdd, Nat.reduceMul, reduceIte, Nat.reduceLeDiff, Nat.reduceLT, Nat.reduceBEq, reduceCtorEq]; ((repeat' (first | exact EnvLe_e0 _ _ | refine EnvLe_upd ?_ ?_)) <;> ((try simp only [upd_app, e0_app, o0_app, Nat.reduceEqDiff, reduceIte]); first | exact AWk.refl _ _ | exact AWk.int (by omega) | exact AWk.int (by rw [w64 (by omega) (by omega)]; omega) | exact AWk.grow rfl | exact AWk.nil _ | exact AWk.of (by simp)))) (by simp only [go_sem, init_env', Nat.reduceEqDiff, Nat.reduceAdd, Nat.reduceMul, reduceIte, Nat.reduceLeDiff, Nat.reduceLT, Nat.reduceBEq, reduceCtorEq]; ((repeat' (first | exact ObjLe_o0 _ | exact ObjLe.rfl' _ | refine ObjLe_same ?_ | refine ObjLe_upd ?_ ?_ | refine ObjLe_new rfl ?_)) <;> rfl)))
    · have h : k = l.length := by simp at h; omega
      subst h
      have e : isTour r l = true := isTour_good fun j hj => hk2 j hj hj
      rw [e]
      (repeat ((first | refine WV_seq_ ?_ | refine WV_block ?_ | refine WV_ops ?_ | refine WV_skip ?_ | refine WV_exit ?_); (try simp only [go_sem, init_env', Nat.reduceEqDiff, Nat.reduceAdd, Nat.reduceMul, reduceIte, Nat.reduceLeDiff, Nat.reduceLT, Nat.reduceBEq, reduceCtorEq, hP, ]); (repeat (refine And.intro (by first | omega | (intros; simp_all; done) | (intros; simp_all; omega)) ?_))))
      (refine WV_ret ?_; simp only [thenQ, inQ, RetQ, RetOk, resAll, resA]; simp only [go_sem, init_env', Nat.reduceEqDiff, Nat.reduceAdd, Nat.reduceMul, reduceIte, Nat.reduceLeDiff, Nat.reduceLT, Nat.reduceBEq, reduceCtorEq, tupA, AV.port, AV.portL, exists_eq_left', ]; (first | exact AVle.of rfl | refine AVle.of ?_ | skip))
end Go.Proofs.Ytbejgfpaokcnpaa

namespace Go.Proofs.Ytbejgfpaokcnpaa
open Go Go.V
@[reducible] def o46_0 : List Ins := [⟨(some 2), .box 3 (.t 0), none, true⟩,
  ⟨(some 4), .mv (.k (.c (.int .i64 0))), none, true⟩]
@[reducible] def o46_1 : List Ins := [⟨(some 5), .mv (.k (.c (.int .i64 0))), none, true⟩]
@[reducible] def o46_2 : List Ins := [⟨(some 6), .mv (.k (.c (.int .i64 0))), none, true⟩]
@[reducible] def o46_3 : List Ins := [⟨(some 7), .mv (.t 6), none, true⟩,
  ⟨(some 8), .mv (.t 1), none, true⟩,
  ⟨(some 9), .len (.t 8), none, true⟩,
  ⟨(some 10), .bin .lss (.t 7) (.t 9), none, true⟩]
@[reducible] def v46_4 : VC := (.cond (.t 10) .skip (.exit 0))
@[reducible] def o46_5 : List Ins := [⟨(some 13), .mv (.t 5), none, false⟩,
  ⟨(some 14), .fa 0 (.t 2), none, false⟩,
  ⟨(some 15), .ld true 1 (.t 14), none, false⟩,
  ⟨(some 16), .mv (.t 1), none, false⟩,
  ⟨(some 17), .mv (.t 6), none, false⟩,
  ⟨(some 18), .ia 1 (.t 16) (.t 17), none, false⟩,
  ⟨(some 19), .ld true 1 (.t 18), none, false⟩,
  ⟨(some 20), .ia 4 (.t 15) (.t 19), none, false⟩,
  ⟨(some 21), .fa 3 (.t 20), none, false⟩,
  ⟨(some 22), .ld true 1 (.t 21), none, false⟩,
  ⟨(some 23), .bin .add (.t 13) (.t 22), none, true⟩,
  ⟨(some 5), .mv (.t 23), none, true⟩]
@[reducible] def o46_6 : List Ins := [⟨(some 11), .mv (.t 6), none, true⟩,
  ⟨(some 12), .bin .add (.t 11) (.k (.c (.int .i64 1))), none, true⟩,
  ⟨(some 6), .mv (.t 12), none, true⟩]
@[reducible] def v46_7 : VC := (.seq (.block 1 (.ops o46_5)) (.ops o46_6))
@[reducible] def v46_8 : VC := (.seq (.seq (.ops o46_3) v46_4) v46_7)
-- K46_1: changed and kept: [6, 5]
@[reducible] def K46_1 : List Nat := [1, 2]
@[reducible] def v46_9 : VC := (.loop v46_8)
@[reducible] def v46_10 : VC := (.block 0 v46_9)
@[reducible] def o46_11 : List Ins := [⟨(some 24), .mv (.t 5), none, true⟩,
  ⟨(some 4), .mv (.t 24), none, true⟩]
@[reducible] def v46_12 : VC := (.seq (.ops o46_11) .ret)
@[reducible] def v46_13 : VC := (.seq (.seq (.ops o46_2) v46_10) v46_12)
@[reducible] def v46_14 : VC := (.seq (.ops o46_1) v46_13)
def ir46 : FC := ⟨2, 25, [.t 4], (.seq (.ops o46_0) v46_14)⟩
@[reducible] def o25_0 : List Ins := [⟨(some 2), .box 3 (.t 0), none, true⟩,
  ⟨(some 4), .mv (.k (.c (.int .i64 0))), none, true⟩]
@[reducible] def o25_1 : List Ins := [⟨(some 9), .fa 0 (.t 2), none, true⟩,
  ⟨(some 10), .ld true 1 (.t 9), none, true⟩,
  ⟨(some 11), .len (.t 10), none, true⟩,
  ⟨(some 5), .mv (.t 11), none, true⟩]
@[reducible] def o25_2 : List Ins := [⟨(some 12), .mv (.t 5), none, true⟩,
  ⟨(some 6), .mv (.k (.c (.int .i64 0))), none, true⟩,
  ⟨(some 7), .mv (.t 12), none, true⟩]
@[reducible] def o25_3 : List Ins := [⟨(some 8), .mv (.k (.c (.int .i64 0))), none, true⟩]
@[reducible] def o25_4 : List Ins := [⟨(some 13), .mv (.t 8), none, true⟩,
  ⟨(some 14), .mv (.t 1), none, true⟩,
  ⟨(some 15), .len (.t 14), none, true⟩,
  ⟨(some 16), .bin .lss (.t 13) (.t 15), none, true⟩]
@[reducible] def v25_5 : VC := (.cond (.t 16) .skip (.exit 0))
@[reducible] def o25_6 : List Ins := [⟨(some 19), .mv (.t 6), none, false⟩,
  ⟨(some 20), .fa 1 (.t 2), none, false⟩,
  ⟨(some 21), .ld true 1 (.t 20), none, false⟩,
  ⟨(some 22), .mv (.t 7), none, false⟩,
  ⟨(some 23), .ia 1 (.t 21) (.t 22), none, false⟩,
  ⟨(some 24), .ld true 1 (.t 23), none, false⟩,
  ⟨(some 25), .mv (.t 1), none, false⟩,
  ⟨(some 26), .mv (.t 8), none, false⟩,
  ⟨(some 27), .ia 1 (.t 25) (.t 26), none, false⟩,
  ⟨(some 28), .ld true 1 (.t 27), none, false⟩,
  ⟨(some 29), .ia 1 (.t 24) (.t 28), none, false⟩,
  ⟨(some 30), .ld true 1 (.t 29), none, false⟩,
  ⟨(some 31), .bin .add (.t 19) (.t 30), none, true⟩,
  ⟨(some 6), .mv (.t 31), none, true⟩]
@[reducible] def o25_7 : List Ins := [⟨(some 32), .mv (.t 1), none, true⟩,
  ⟨(some 33), .mv (.t 8), none, true⟩,
  ⟨(some 34), .ia 1 (.t 32) (.t 33), none, true⟩,
  ⟨(some 35), .ld true 1 (.t 34), none, true⟩,
  ⟨(some 7), .mv (.t 35), none, true⟩]
@[reducible] def v25_8 : VC := (.seq (.ops o25_6) (.ops o25_7))
@[reducible] def o25_9 : List Ins := [⟨(some 17), .mv (.t 8), none, true⟩,
  ⟨(some 18), .bin .add (.t 17) (.k (.c (.int .i64 1))), none, true⟩,
  ⟨(some 8), .mv (.t 18), none, true⟩]
@[reducible] def v25_10 : VC := (.seq (.block 1 v25_8) (.ops o25_9))
@[reducible] def v25_11 : VC := (.seq (.seq (.ops o25_4) v25_5) v25_10)
-- K25_1: changed and kept: [8, 6, 7]
@[reducible] def K25_1 : List Nat := [1, 2, 5]
@[reducible] def v25_12 : VC := (.loop v25_11)
@[reducible] def v25_13 : VC := (.block 0 v25_12)
@[reducible] def o25_14 : List Ins := [⟨(some 36), .mv (.t 6), none, true⟩,
  ⟨(some 37), .fa 1 (.t 2), none, true⟩,
  ⟨(some 38), .ld true 1 (.t 37), none, true⟩,
  ⟨(some 39), .mv (.t 7), none, true⟩,
  ⟨(some 40), .ia 1 (.t 38) (.t 39), none, true⟩,
  ⟨(some 41), .ld true 1 (.t 40), none, true⟩,
  ⟨(some 42), .mv (.t 5), none, true⟩,
  ⟨(some 43), .ia 1 (.t 41) (.t 42), none, true⟩,
  ⟨(some 44), .ld true 1 (.t 43), none, true⟩,
  ⟨(some 45), .bin .add (.t 36) (.t 44), none, true⟩,
  ⟨(some 4), .mv (.t 45), none, true⟩]
@[reducible] def v25_15 : VC := (.seq (.ops o25_14) .ret)
@[reducible] def v25_16 : VC := (.seq (.seq (.ops o25_3) v25_13) v25_15)
@[reducible] def v25_17 : VC := (.seq (.ops o25_2) v25_16)
@[reducible] def v25_18 : VC := (.seq (.ops o25_1) v25_17)
def ir25 : FC := ⟨2, 46, [.t 4], (.seq (.ops o25_0) v25_18)⟩
theorem c46 : compM Try.prog [] 46 = some ir46 := by kernel_rfl
theorem c25 : compM Try.prog [] 25 = some ir25 := by kernel_rfl



set_option maxHeartbeats 2000000 in
theorem cash46 {r : Route} (hr : RouteOk r) {t : List Nat} (ht : ∀ k ∈ t, k < r.n) (hlen : t.length ≤ 20) : FSpec Try.prog 46 [r.av, .c (nats t)] (iv (cashS r t)) := by
  refine FSpec_of c46 (Nat.le_refl _) (by decide) fun C hP hN hC hL => ?_
  simp only [ir46, Route.av, nats, ints]
  (repeat ((first | refine WV_seq_ ?_ | refine WV_block ?_ | refine WV_ops ?_ | refine WV_skip ?_ | refine WV_exit ?_); (try simp only [go_sem, init_env', Nat.reduceEqDiff, Nat.reduceAdd, Nat.reduceMul, reduceIte, Nat.reduceLeDiff, Nat.reduceLT, Nat.reduceBEq, reduceCtorEq, hP, ]); (repeat (refine And.intro (by first | omega | (intros; simp_all; done) | (intros; simp_all; omega)) ?_))))
  refine WV_freeze 2 (ds := r.cds) rfl rfl ?_
  simp only [go_sem, init_env', Nat.reduceEqDiff, Nat.reduceAdd, Nat.reduceMul, reduceIte, Nat.reduceLeDiff, Nat.reduceLT, Nat.reduceBEq, reduceCtorEq]
  refine WV_loopK K46_1 [] (fun k : Nat => k ≤ t.length) (fun k => t.length - k) (fun k => [(6, iv k), (5, iv (cashS r (t.take k)))]) (fun _ => []) 0 (Nat.zero_le _) ?_ ?_
  · (refine Sub_of (by simp only [go_sem, init_env', Nat.reduceEqDiff, Nat.reduceAdd, Nat.reduceMul, reduceIte, Nat.reduceLeDiff, Nat.reduceLT, Nat.reduceBEq, reduceCtorEq]; ((repeat' (first | exact EnvLe_e0 _ _ | refine EnvLe_upd ?_ ?_)) <;> ((try simp only [upd_app, e0_app, o0_app, Nat.reduceEqDiff, reduceIte]); first | exact AWk.refl _ _ | exact AWk.int (by omega) | exact AWk.int (by rw [w64 (by omega) (by omega)]; omega) | exact AWk.grow rfl | exact AWk.nil _ | exact AWk.of (by simp)))) (by simp only [go_sem, init_env', Nat.reduceEqDiff, Nat.reduceAdd, Nat.reduceMul, reduceIte, Nat.reduceLeDiff, Nat.reduceLT, Nat.reduceBEq, reduceCtorEq]; ((repeat' (first | exact ObjLe_o0 _ | exact ObjLe.rfl' _ | refine ObjLe_same ?_ | refine ObjLe_upd ?_ ?_ | refine ObjLe_new rfl ?_)) <;> rfl)))
  · intro k hk
    simp only [go_sem, init_env', Nat.reduceEqDiff, Nat.reduceAdd, Nat.reduceMul, reduceIte, Nat.reduceLeDiff, Nat.reduceLT, Nat.reduceBEq, reduceCtorEq]
    (repeat ((first | refine WV_seq_ ?_ | refine WV_block ?_ | refine WV_ops ?_ | refine WV_skip ?_ | refine WV_exit ?_); (try simp only [go_sem, init_env', Nat.reduceEqDiff, Nat.reduceAdd, Nat.reduceMul, reduceIte, Nat.reduceLeDiff, Nat.reduceLT, Nat.reduceBEq, reduceCtorEq, hP, ]); (repeat (refine And.intro (by first | omega | (intros; simp_all; done) | (intros; simp_all; omega)) ?_))))
    (refine WV_cond rfl (fun h => ?_) (fun h => ?_))
    · have h : k < t.length := by simpa using h
      have hkk := ht _ (List.getElem_mem h)
      have hkl : k < (t.map fun (n : Nat) => (n : Int)).length := by simpa using h
      have hd1 : t[k] < r.stops.length := hkk
      have e1 : r.stops[t[k]] = r.s t[k] := by simp [Route.s, hd1]
      have hcs := cashS_ok hr (t := t.take k) fun j hj => ht j (List.mem_of_mem_take hj)
      have htl : (t.take k).length ≤ 20 := by rw [List.length_take]; omega
      have hca := hr.stop _ hkk
      have hw := w64 (n := cashS r (t.take k) + (r.s t[k]).ca) (by omega) (by omega)
      have hw2 := w64 (n := (k : Int) + 1) (by omega) (by omega)
      (repeat ((first | refine WV_seq_ ?_ | refine WV_block ?_ | refine WV_ops ?_ | refine WV_skip ?_ | refine WV_exit ?_); (try simp only [go_sem, init_env', Nat.reduceEqDiff, Nat.reduceAdd, Nat.reduceMul, reduceIte, Nat.reduceLeDiff, Nat.reduceLT, Nat.reduceBEq, reduceCtorEq, hP, Int.toNat_natCast, map_getD hkl, map_getD hd1, List.getElem_map, Route.cds, stopsC, Stop.cds, e1, Int.ofNat_lt, h, hd1, Int.natCast_nonneg, hw, hw2]); (repeat (refine And.intro (by first | omega | (intros; simp_all; done) | (intros; simp_all; omega)) ?_))))
      refine ⟨k + 1, by omega, by omega, ?_⟩
      rw [List.take_succ_eq_append_getElem (by assumption), cashS_snoc]
      (refine Sub_of (by simp only [go_sem, init_env', Nat.reduceEqDiff, Nat.reduceAdd, Nat.reduceMul, reduceIte, Nat.reduceLeDiff, Nat.reduceLT, Nat.reduceBEq, reduceCtorEq]; ((repeat' (first | exact EnvLe_e0 _ _ | refine EnvLe_upd ?_ ?_)) <;> ((try simp only [upd_app, e0_app, o0_app, Nat.reduceEqDiff, reduceIte]); first | exact AWk.refl _ _ | exact AWk.int (by omega) | exact AWk.int (by rw [w64 (by omega) (by omega)]; omega) | exact AWk.grow rfl | exact AWk.nil _ | exact AWk.of (by simp)))) (by simp only [go_sem, init_env', Nat.reduceEqDiff, Nat.reduceAdd, Nat.reduceMul, reduceIte, Nat.reduceLeDiff, Nat.reduceLT, Nat.reduceBEq, reduceCtorEq]; ((repeat' (first | exact ObjLe_o0 _ | exact ObjLe.rfl' _ | refine ObjLe_same ?_ | refine ObjLe_upd ?_ ?_ | refine ObjLe_new rfl ?_)) <;> rfl)))
    · have h : k = t.length := by simp at h; omega
      subst h
      rw [List.take_length]
      (repeat ((first | refine WV_seq_ ?_ | refine WV_block ?_ | refine WV_ops ?_ | refine WV_skip ?_ | refine WV_exit ?_); (try simp only [go_sem, init_env', Nat.reduceEqDiff, Nat.reduceAdd, Nat.reduceMul, reduceIte, Nat.reduceLeDiff, Nat.reduceLT, Nat.reduceBEq, reduceCtorEq, hP, ]); (repeat (refine And.intro (by first | omega | (intros; simp_all; done) | (intros; simp_all; omega)) ?_))))
      (refine WV_ret ?_; simp only [thenQ, inQ, RetQ, RetOk, resAll, resA]; simp only [go_sem, init_env', Nat.reduceEqDiff, Nat.reduceAdd, Nat.reduceMul, reduceIte, Nat.reduceLeDiff, Nat.reduceLT, Nat.reduceBEq, reduceCtorEq, tupA, AV.port, AV.portL, exists_eq_left', ]; (first | exact AVle.of rfl | refine AVle.of ?_ | skip))

/-- Where it is behind the first stops, and how long the way was. -/
def longP (r : Route) (t : List Nat) : Nat × Int := t.foldl (fun s k => (k, s.2 + r.d s.1 k)) (r.n, 0)
def longS (r : Route) (t : List Nat) : Int := (longP r t).2 + r.d (longP r t).1 r.n
theorem longP_snoc (r : Route) (t : List Nat) (k : Nat) : longP r (t ++ [k]) = (k, (longP r t).2 + r.d (longP r t).1 k) := by simp [longP]
theorem longP_ok' {r : Route} (hr : RouteOk r) : ∀ (t : List Nat) (s : Nat × Int) (m : Nat), (∀ k ∈ t, k < r.n) → s.1 < r.n + 1 → 0 ≤ s.2 → s.2 ≤ 999 * m →
    (t.foldl (fun s k => (k, s.2 + r.d s.1 k)) s).1 < r.n + 1 ∧ 0 ≤ (t.foldl (fun s k => (k, s.2 + r.d s.1 k)) s).2 ∧ (t.foldl (fun s k => (k, s.2 + r.d s.1 k)) s).2 ≤ 999 * ((m + t.length : Nat) : Int)
  | [], s, m, _, h1, h2, h3 => ⟨h1, h2, h3⟩
  | k :: t, s, m, h, h1, h2, h3 => by
    have hk := h k (by simp)
    have hc := hr.cell s.1 k h1 (by omega)
    have ih := longP_ok' hr t (k, s.2 + r.d s.1 k) (m + 1) (fun j hj => h j (by simp [hj])) (by simp only; omega) (by simp only; omega) (by simp only; omega)
    simp only [List.foldl_cons, List.length_cons]
    rw [show m + (t.length + 1) = m + 1 + t.length from by omega]
    exact ih
theorem longP_ok {r : Route} (hr : RouteOk r) (t : List Nat) (h : ∀ k ∈ t, k < r.n) : (longP r t).1 < r.n + 1 ∧ 0 ≤ (longP r t).2 ∧ (longP r t).2 ≤ 999 * t.length := by
  have := longP_ok' hr t (r.n, 0) 0 h (Nat.lt_succ_self _) (Int.le_refl _) (Int.le_refl _)
  rw [Nat.zero_add] at this
  exact this
/-- The cells of the ways. -/
theorem d_cell {r : Route} (hr : RouteOk r) {i j : Nat} (hi : i < r.n + 1) (hj : j < r.n + 1) : ∃ (h1 : i < r.drive.length) (h2 : j < r.drive[i].length), r.drive[i][j] = r.d i j := by
  have h1 : i < r.drive.length := by rw [hr.dl]; exact hi
  have hrow := hr.row i hi
  have e : r.drive.getD i [] = r.drive[i] := by simp [h1]
  rw [e] at hrow
  have h2 : j < r.drive[i].length := by omega
  exact ⟨h1, h2, by simp [Route.d, h1, h2]⟩

set_option maxHeartbeats 2000000 in
theorem long25 {r : Route} (hr : RouteOk r) {t : List Nat} (ht : ∀ k ∈ t, k < r.n) (hlen : t.length ≤ 20) : FSpec Try.prog 25 [r.av, .c (nats t)] (iv (longS r t)) := by
  refine FSpec_of c25 (Nat.le_refl _) (by decide) fun C hP hN hC hL => ?_
  have hn7 := hr.n7
  simp only [ir25, Route.av, nats, ints]
  have hsl : r.stops.length = r.n := rfl
  (repeat ((first | refine WV_seq_ ?_ | refine WV_block ?_ | refine WV_ops ?_ | refine WV_skip ?_ | refine WV_exit ?_); (try simp only [go_sem, init_env', Nat.reduceEqDiff, Nat.reduceAdd, Nat.reduceMul, reduceIte, Nat.reduceLeDiff, Nat.reduceLT, Nat.reduceBEq, reduceCtorEq, hP, stopsC]); (repeat (refine And.intro (by first | omega | (intros; simp_all; done) | (intros; simp_all; omega)) ?_))))
  refine WV_freeze 2 (ds := r.cds) rfl rfl ?_
  simp only [go_sem, init_env', Nat.reduceEqDiff, Nat.reduceAdd, Nat.reduceMul, reduceIte, Nat.reduceLeDiff, Nat.reduceLT, Nat.reduceBEq, reduceCtorEq, hsl]
  refine WV_loopK K25_1 [] (fun k : Nat => k ≤ t.length) (fun k => t.length - k) (fun k => [(8, iv k), (6, iv (longP r (t.take k)).2), (7, iv (longP r (t.take k)).1)]) (fun _ => []) 0 (Nat.zero_le _) ?_ ?_
  · (refine Sub_of (by simp only [go_sem, init_env', Nat.reduceEqDiff, Nat.reduceAdd, Nat.reduceMul, reduceIte, Nat.reduceLeDiff, Nat.reduceLT, Nat.reduceBEq, reduceCtorEq]; ((repeat' (first | exact EnvLe_e0 _ _ | refine EnvLe_upd ?_ ?_)) <;> ((try simp only [upd_app, e0_app, o0_app, Nat.reduceEqDiff, reduceIte]); first | exact AWk.refl _ _ | exact AWk.int (by omega) | exact AWk.int (by rw [w64 (by omega) (by omega)]; omega) | exact AWk.grow rfl | exact AWk.nil _ | exact AWk.of (by simp)))) (by simp only [go_sem, init_env', Nat.reduceEqDiff, Nat.reduceAdd, Nat.reduceMul, reduceIte, Nat.reduceLeDiff, Nat.reduceLT, Nat.reduceBEq, reduceCtorEq]; ((repeat' (first | exact ObjLe_o0 _ | exact ObjLe.rfl' _ | refine ObjLe_same ?_ | refine ObjLe_upd ?_ ?_ | refine ObjLe_new rfl ?_)) <;> rfl)))
  · intro k hk
    simp only [go_sem, init_env', Nat.reduceEqDiff, Nat.reduceAdd, Nat.reduceMul, reduceIte, Nat.reduceLeDiff, Nat.reduceLT, Nat.reduceBEq, reduceCtorEq]
    (repeat ((first | refine WV_seq_ ?_ | refine WV_block ?_ | refine WV_ops ?_ | refine WV_skip ?_ | refine WV_exit ?_); (try simp only [go_sem, init_env', Nat.reduceEqDiff, Nat.reduceAdd, Nat.reduceMul, reduceIte, Nat.reduceLeDiff, Nat.reduceLT, Nat.reduceBEq, reduceCtorEq, hP, ]); (repeat (refine And.intro (by first | omega | (intros; simp_all; done) | (intros; simp_all; omega)) ?_))))
    have hlo := longP_ok hr (t.take k) fun j hj => ht j (List.mem_of_mem_take hj)
    have htl : (t.take k).length ≤ 20 := by rw [List.length_take]; omega
    (refine WV_cond rfl (fun h => ?_) (fun h => ?_))
    · have h : k < t.length := by simpa using h
      have hkk := ht _ (List.getElem_mem h)
      have hkl : k < (t.map fun (n : Nat) => (n : Int)).length := by simpa using h
      have hc := hr.cell (longP r (t.take k)).1 t[k] hlo.1 (by omega)
      obtain ⟨hd1, hd2, ed⟩ := d_cell hr hlo.1 (show t[k] < r.n + 1 by omega)
      have hw := w64 (n := (longP r (t.take k)).2 + r.d (longP r (t.take k)).1 t[k]) (by omega) (by omega)
      have hw2 := w64 (n := (k : Int) + 1) (by omega) (by omega)
      (repeat ((first | refine WV_seq_ ?_ | refine WV_block ?_ | refine WV_ops ?_ | refine WV_skip ?_ | refine WV_exit ?_); (try simp only [go_sem, init_env', Nat.reduceEqDiff, Nat.reduceAdd, Nat.reduceMul, reduceIte, Nat.reduceLeDiff, Nat.reduceLT, Nat.reduceBEq, reduceCtorEq, hP, Int.toNat_natCast, map_getD hkl, map_getD hd1, map_getD hd2, ed, List.getElem_map, Route.cds, driveC, ints, Int.ofNat_lt, h, hd1, hd2, Int.natCast_nonneg, hw, hw2]); (repeat (refine And.intro (by first | omega | (intros; simp_all; done) | (intros; simp_all; omega)) ?_))))
      refine ⟨k + 1, by omega, by omega, ?_⟩
      rw [List.take_succ_eq_append_getElem (by assumption), longP_snoc]
      (refine Sub_of (by simp only [go_sem, init_env', Nat.reduceEqDiff, Nat.reduceAdd, Nat.reduceMul, reduceIte, Nat.reduceLeDiff, Nat.reduceLT, Nat.reduceBEq, reduceCtorEq]; ((repeat' (first | exact EnvLe_e0 _ _ | refine EnvLe_upd ?_ ?_)) <;> ((try simp only [upd_app, e0_app, o0_app, Nat.reduceEqDiff, reduceIte]); first | exact AWk.refl _ _ | exact AWk.int (by omega) | exact AWk.int (by rw [w64 (by omega) (by omega)]; omega) | exact AWk.grow rfl | exact AWk.nil _ | exact AWk.of (by simp)))) (by simp only [go_sem, init_env', Nat.reduceEqDiff, Nat.reduceAdd, Nat.reduceMul, reduceIte, Nat.reduceLeDiff, Nat.reduceLT, Nat.reduceBEq, reduceCtorEq]; ((repeat' (first | exact ObjLe_o0 _ | exact ObjLe.rfl' _ | refine ObjLe_same ?_ | refine ObjLe_upd ?_ ?_ | refine ObjLe_new rfl ?_)) <;> rfl)))
    · have h : k = t.length := by simp at h; omega
      subst h
      rw [List.take_length] at hlo htl ⊢
      have hc := hr.cell (longP r t).1 r.n hlo.1 (by omega)
      obtain ⟨hd1, hd2, ed⟩ := d_cell hr hlo.1 (show r.n < r.n + 1 by omega)
      have hw := w64 (n := (longP r t).2 + r.d (longP r t).1 r.n) (by omega) (by omega)
      (repeat ((first | refine WV_seq_ ?_ | refine WV_block ?_ | refine WV_ops ?_ | refine WV_skip ?_ | refine WV_exit ?_); (try simp only [go_sem, init_env', Nat.reduceEqDiff, Nat.reduceAdd, Nat.reduceMul, reduceIte, Nat.reduceLeDiff, Nat.reduceLT, Nat.reduceBEq, reduceCtorEq, hP, Int.toNat_natCast, map_getD hd1, map_getD hd2, ed, List.getElem_map, Route.cds, driveC, ints, Int.ofNat_lt, hd1, hd2, Int.natCast_nonneg, hw]); (repeat (refine And.intro (by first | omega | (intros; simp_all; done) | (intros; simp_all; omega)) ?_))))
      (refine WV_ret ?_; simp only [thenQ, inQ, RetQ, RetOk, resAll, resA]; simp only [go_sem, init_env', Nat.reduceEqDiff, Nat.reduceAdd, Nat.reduceMul, reduceIte, Nat.reduceLeDiff, Nat.reduceLT, Nat.reduceBEq, reduceCtorEq, tupA, AV.port, AV.portL, exists_eq_left', ]; (first | exact AVle.of rfl | refine AVle.of ?_ | skip))
end Go.Proofs.Ytbejgfpaokcnpaa

namespace Go.Proofs.Ytbejgfpaokcnpaa
open Go Go.V
@[reducible] def o24_0 : List Ins := [⟨(some 2), .box 3 (.t 0), none, true⟩,
  ⟨(some 4), .alloc [(.c (.raw (.slice none 0 0))), (.c (.int .i64 0)), (.c (.int .i64 0))], none, true⟩]
@[reducible] def o24_1 : List Ins := [⟨(some 11), .fa 0 (.t 2), none, true⟩,
  ⟨(some 12), .ld true 1 (.t 11), none, true⟩,
  ⟨(some 13), .len (.t 12), none, true⟩,
  ⟨(some 5), .mv (.t 13), none, true⟩]
@[reducible] def o24_2 : List Ins := [⟨(some 14), .bld [(.c (.raw (.slice none 0 0))), (.c (.int .i64 0)), (.c (.int .i64 0))] [(1, 1, (.k (.c (.int .i64 (-1)))))], none, true⟩,
  ⟨(some 6), .alloc [(.c (.raw (.slice none 0 0))), (.c (.int .i64 0)), (.c (.int .i64 0))], none, true⟩,
  ⟨none, .st 3 (.t 6) (.t 14), none, true⟩]
@[reducible] def o24_3 : List Ins := [⟨(some 15), .mv (.t 5), none, false⟩,
  ⟨(some 16), .fa 2 (.t 2), none, false⟩,
  ⟨(some 17), .ld true 1 (.t 16), none, false⟩,
  ⟨(some 7), .mv (.t 15), none, false⟩,
  ⟨(some 8), .mv (.t 17), none, true⟩]
@[reducible] def o24_4 : List Ins := [⟨(some 9), .mv (.k (.c (.int .i64 0))), none, true⟩]
@[reducible] def o24_5 : List Ins := [⟨(some 18), .mv (.t 9), none, true⟩,
  ⟨(some 19), .mv (.t 1), none, true⟩,
  ⟨(some 20), .len (.t 19), none, true⟩,
  ⟨(some 21), .bin .lss (.t 18) (.t 20), none, true⟩]
@[reducible] def v24_6 : VC := (.cond (.t 21) .skip (.exit 0))
@[reducible] def o24_7 : List Ins := [⟨(some 24), .fa 0 (.t 2), none, false⟩,
  ⟨(some 25), .ld true 1 (.t 24), none, false⟩,
  ⟨(some 26), .mv (.t 1), none, false⟩,
  ⟨(some 27), .mv (.t 9), none, false⟩,
  ⟨(some 28), .ia 1 (.t 26) (.t 27), none, false⟩,
  ⟨(some 29), .ld true 1 (.t 28), none, false⟩,
  ⟨(some 30), .ia 4 (.t 25) (.t 29), none, false⟩,
  ⟨(some 31), .ld false 4 (.t 30), none, false⟩,
  ⟨(some 10), .alloc [(.c (.int .i64 0)), (.c (.int .i64 0)), (.c (.int .i64 0)), (.c (.int .i64 0))], none, false⟩,
  ⟨none, .st 4 (.t 10) (.t 31), none, true⟩]
@[reducible] def o24_8 : List Ins := [⟨(some 32), .mv (.t 8), none, false⟩,
  ⟨(some 33), .fa 1 (.t 2), none, false⟩,
  ⟨(some 34), .ld true 1 (.t 33), none, false⟩,
  ⟨(some 35), .mv (.t 7), none, false⟩,
  ⟨(some 36), .ia 1 (.t 34) (.t 35), none, false⟩,
  ⟨(some 37), .ld true 1 (.t 36), none, false⟩,
  ⟨(some 38), .mv (.t 1), none, false⟩,
  ⟨(some 39), .mv (.t 9), none, false⟩,
  ⟨(some 40), .ia 1 (.t 38) (.t 39), none, false⟩,
  ⟨(some 41), .ld true 1 (.t 40), none, false⟩,
  ⟨(some 42), .ia 1 (.t 37) (.t 41), none, false⟩,
  ⟨(some 43), .ld true 1 (.t 42), none, false⟩,
  ⟨(some 44), .bin .add (.t 32) (.t 43), none, true⟩,
  ⟨(some 8), .mv (.t 44), none, true⟩]
@[reducible] def o24_9 : List Ins := [⟨(some 45), .mv (.t 8), none, true⟩,
  ⟨(some 46), .fa 1 (.t 10), none, true⟩,
  ⟨(some 47), .ld true 1 (.t 46), none, true⟩,
  ⟨(some 48), .bin .gtr (.t 45) (.t 47), none, true⟩]
@[reducible] def o24_10 : List Ins := [⟨(some 49), .mv (.t 1), none, true⟩,
  ⟨(some 50), .mv (.t 9), none, true⟩,
  ⟨(some 51), .ia 1 (.t 49) (.t 50), none, true⟩,
  ⟨(some 52), .ld true 1 (.t 51), none, true⟩,
  ⟨(some 53), .fa 1 (.t 6), none, true⟩,
  ⟨none, .st 1 (.t 53) (.t 52), none, true⟩]
@[reducible] def o24_11 : List Ins := [⟨(some 54), .ld false 3 (.t 6), none, true⟩,
  ⟨none, .st 3 (.t 4) (.t 54), none, true⟩]
@[reducible] def v24_12 : VC := (.seq (.ops o24_11) .ret)
@[reducible] def v24_13 : VC := (.seq (.ops o24_10) v24_12)
@[reducible] def v24_14 : VC := (.cond (.t 48) v24_13 .skip)
@[reducible] def o24_15 : List Ins := [⟨(some 55), .mv (.t 8), none, true⟩,
  ⟨(some 56), .fa 0 (.t 10), none, true⟩,
  ⟨(some 57), .ld true 1 (.t 56), none, true⟩,
  ⟨(some 58), .mm true (.t 55) (.t 57), none, true⟩,
  ⟨(some 8), .mv (.t 58), none, true⟩]
@[reducible] def o24_16 : List Ins := [⟨(some 59), .fa 0 (.t 6), none, true⟩,
  ⟨(some 60), .ld true 1 (.t 59), none, true⟩,
  ⟨(some 61), .mv (.t 8), none, true⟩,
  ⟨(some 62), .bsl 3 1 [(.t 61)], none, true⟩,
  ⟨(some 63), .app 3 1 8 (.t 60) (.t 62), none, true⟩,
  ⟨(some 64), .fa 0 (.t 6), none, true⟩,
  ⟨none, .st 1 (.t 64) (.t 63), none, true⟩]
@[reducible] def o24_17 : List Ins := [⟨(some 65), .mv (.t 1), none, false⟩,
  ⟨(some 66), .mv (.t 9), none, false⟩,
  ⟨(some 67), .ia 1 (.t 65) (.t 66), none, false⟩,
  ⟨(some 68), .ld true 1 (.t 67), none, false⟩,
  ⟨(some 69), .mv (.t 8), none, false⟩,
  ⟨(some 70), .fa 2 (.t 10), none, false⟩,
  ⟨(some 71), .ld true 1 (.t 70), none, false⟩,
  ⟨(some 72), .bin .add (.t 69) (.t 71), none, false⟩,
  ⟨(some 7), .mv (.t 68), none, false⟩,
  ⟨(some 8), .mv (.t 72), none, true⟩]
@[reducible] def v24_18 : VC := (.seq (.ops o24_16) (.ops o24_17))
@[reducible] def v24_19 : VC := (.seq (.ops o24_15) v24_18)
@[reducible] def v24_20 : VC := (.seq (.seq (.ops o24_9) v24_14) v24_19)
@[reducible] def v24_21 : VC := (.seq (.ops o24_8) v24_20)
@[reducible] def v24_22 : VC := (.seq (.ops o24_7) v24_21)
@[reducible] def o24_23 : List Ins := [⟨(some 22), .mv (.t 9), none, true⟩,
  ⟨(some 23), .bin .add (.t 22) (.k (.c (.int .i64 1))), none, true⟩,
  ⟨(some 9), .mv (.t 23), none, true⟩]
@[reducible] def v24_24 : VC := (.seq (.block 1 v24_22) (.ops o24_23))
@[reducible] def v24_25 : VC := (.seq (.seq (.ops o24_5) v24_6) v24_24)
-- K24_1: changed and kept: [9, 8, 7]
@[reducible] def K24_1 : List Nat := [1, 2, 4, 5, 6]
@[reducible] def v24_26 : VC := (.loop v24_25)
@[reducible] def v24_27 : VC := (.block 0 v24_26)
@[reducible] def o24_28 : List Ins := [⟨(some 73), .mv (.t 8), none, true⟩,
  ⟨(some 74), .fa 1 (.t 2), none, true⟩,
  ⟨(some 75), .ld true 1 (.t 74), none, true⟩,
  ⟨(some 76), .mv (.t 7), none, true⟩,
  ⟨(some 77), .ia 1 (.t 75) (.t 76), none, true⟩,
  ⟨(some 78), .ld true 1 (.t 77), none, true⟩,
  ⟨(some 79), .mv (.t 5), none, true⟩,
  ⟨(some 80), .ia 1 (.t 78) (.t 79), none, true⟩,
  ⟨(some 81), .ld true 1 (.t 80), none, true⟩,
  ⟨(some 82), .bin .add (.t 73) (.t 81), none, true⟩,
  ⟨(some 83), .fa 2 (.t 6), none, true⟩,
  ⟨none, .st 1 (.t 83) (.t 82), none, true⟩]
@[reducible] def o24_29 : List Ins := [⟨(some 84), .ld false 3 (.t 6), none, true⟩,
  ⟨none, .st 3 (.t 4) (.t 84), none, true⟩]
@[reducible] def v24_30 : VC := (.seq (.ops o24_29) .ret)
@[reducible] def v24_31 : VC := (.seq (.ops o24_28) v24_30)
@[reducible] def v24_32 : VC := (.seq (.seq (.ops o24_4) v24_27) v24_31)
@[reducible] def v24_33 : VC := (.seq (.ops o24_3) v24_32)
@[reducible] def v24_34 : VC := (.seq (.ops o24_2) v24_33)
@[reducible] def v24_35 : VC := (.seq (.ops o24_1) v24_34)
def ir24 : FC := ⟨2, 85, [.cell 4 false 3], (.seq (.ops o24_0) v24_35)⟩
theorem c24 : compM Try.prog [] 24 = some ir24 := by kernel_rfl



/-- What comes of a tour: times, the first stop that is missed (-1: none), when it is back. -/
def goS (r : Route) (t : List Nat) : List Int × Int × Int := match ride r (leave r) t with
  | (ts, some k, _) => (ts, (k : Int), 0)
  | (ts, none, v) => (ts, -1, v.now + r.d v.at_ r.n)
def goC (x : List Int × Int × Int) : AV := .agg [.c (ints x.1), iv x.2.1, iv x.2.2]
theorem ride_stop (r : Route) : ∀ (ks : List Nat) (v : Van) (l : List Nat), (ride r v ks).2.1 ≠ none → ride r v (ks ++ l) = ride r v ks
  | [], v, l, h => by simp [ride] at h
  | a :: ks, v, l, h => by
    simp only [List.cons_append, ride] at h ⊢
    by_cases hv : (visit r v a).2.2 = true
    · simp only [hv, if_true] at h ⊢
      rw [ride_stop r ks _ l h]
    · simp only [hv]; rfl

set_option maxHeartbeats 4000000 in
theorem go24 {r : Route} (hr : RouteOk r) {t : List Nat} (ht : ∀ k ∈ t, k < r.n) (hlen : t.length ≤ 20) : FSpec Try.prog 24 [r.av, .c (nats t)] (goC (goS r t)) := by
  refine FSpec_of c24 (Nat.le_refl _) (by decide) fun C hP hN hC hL => ?_
  have hn7 := hr.n7
  have hmax : maxLen = 9223372036854775807 := rfl
  simp only [ir24, Route.av, nats, ints]
  have hsl : r.stops.length = r.n := rfl
  (repeat ((first | refine WV_seq_ ?_ | refine WV_block ?_ | refine WV_ops ?_ | refine WV_skip ?_ | refine WV_exit ?_); (try simp only [go_sem, init_env', Nat.reduceEqDiff, Nat.reduceAdd, Nat.reduceMul, reduceIte, Nat.reduceLeDiff, Nat.reduceLT, Nat.reduceBEq, reduceCtorEq, hP, stopsC]); (repeat (refine And.intro (by first | omega | (intros; simp_all; done) | (intros; simp_all; omega)) ?_))))
  refine WV_freeze 2 (ds := r.cds) rfl rfl ?_
  simp only [go_sem, init_env', Nat.reduceEqDiff, Nat.reduceAdd, Nat.reduceMul, reduceIte, Nat.reduceLeDiff, Nat.reduceLT, Nat.reduceBEq, reduceCtorEq, hsl]
  refine WV_nilbox 6 0 63 3 1 (by decide) (by decide) (by decide) rfl rfl rfl ?_
  simp only [go_sem, init_env', Nat.reduceEqDiff, Nat.reduceAdd, Nat.reduceMul, reduceIte, Nat.reduceLeDiff, Nat.reduceLT, Nat.reduceBEq, reduceCtorEq]
  refine WV_loopK K24_1 [6, 63, 4] (fun k : Nat => k ≤ t.length ∧ (ride r (leave r) (t.take k)).2.1 = none) (fun k => t.length - k)
    (fun k => [(9, iv k), (8, iv (ride r (leave r) (t.take k)).2.2.now), (7, iv (ride r (leave r) (t.take k)).2.2.at_)])
    (fun k => [(63, .grow 3 1 ((ride r (leave r) (t.take k)).1.map fun n => [.int .i64 n])), (6, .box [.gr 63, iv (-1), iv 0]), (4, .box [.c (.raw (.slice none 0 0)), iv 0, iv 0])]) 0 ⟨Nat.zero_le _, rfl⟩ ?_ ?_
  · (refine Sub_of (by simp only [go_sem, init_env', Nat.reduceEqDiff, Nat.reduceAdd, Nat.reduceMul, reduceIte, Nat.reduceLeDiff, Nat.reduceLT, Nat.reduceBEq, reduceCtorEq]; ((repeat' (first | exact EnvLe_e0 _ _ | refine EnvLe_upd ?_ ?_)) <;> ((try simp only [upd_app, e0_app, o0_app, Nat.reduceEqDiff, reduceIte]); first | exact AWk.refl _ _ | exact AWk.int (by omega) | exact AWk.int (by rw [w64 (by omega) (by omega)]; omega) | exact AWk.grow rfl | exact AWk.nil _ | exact AWk.of (by simp)))) (by simp only [go_sem, init_env', Nat.reduceEqDiff, Nat.reduceAdd, Nat.reduceMul, reduceIte, Nat.reduceLeDiff, Nat.reduceLT, Nat.reduceBEq, reduceCtorEq]; ((repeat' (first | exact ObjLe_o0 _ | exact ObjLe.rfl' _ | refine ObjLe_same ?_ | refine ObjLe_upd ?_ ?_ | refine ObjLe_new rfl ?_)) <;> rfl)))
  · rintro k ⟨hk, hn⟩
    simp only [go_sem, init_env', Nat.reduceEqDiff, Nat.reduceAdd, Nat.reduceMul, reduceIte, Nat.reduceLeDiff, Nat.reduceLT, Nat.reduceBEq, reduceCtorEq]
    (repeat ((first | refine WV_seq_ ?_ | refine WV_block ?_ | refine WV_ops ?_ | refine WV_skip ?_ | refine WV_exit ?_); (try simp only [go_sem, init_env', Nat.reduceEqDiff, Nat.reduceAdd, Nat.reduceMul, reduceIte, Nat.reduceLeDiff, Nat.reduceLT, Nat.reduceBEq, reduceCtorEq, hP, ]); (repeat (refine And.intro (by first | omega | (intros; simp_all; done) | (intros; simp_all; omega)) ?_))))
    have hv := ride_ok hr (t.take k) (leave r) 0 (leave_ok hr) (fun j hj => ht j (List.mem_of_mem_take hj)) hn
    have htl : (t.take k).length ≤ 20 := by rw [List.length_take]; omega
    have hvn := hv.now
    have hva := hv.at_
    have htsl := ride_len r (t.take k) (leave r)
    (refine WV_cond rfl (fun h => ?_) (fun h => ?_))
    · have h : k < t.length := by simpa using h
      have hkk := ht _ (List.getElem_mem h)
      have hkl : k < (t.map fun (n : Nat) => (n : Int)).length := by simpa using h
      have hst := ride_snoc r (t.take k) (leave r) t[k] hn
      rw [← List.take_succ_eq_append_getElem h] at hst
      have hrr : ride r (leave r) (t.take k) = ((ride r (leave r) (t.take k)).1, none, (ride r (leave r) (t.take k)).2.2) := by rw [← hn]
      generalize hts : (ride r (leave r) (List.take k t)).1 = ts at *
      generalize hV : (ride r (leave r) (List.take k t)).2.2 = V at *
      have hc := hr.cell V.at_ t[k] hva (by omega)
      obtain ⟨hd1, hd2, ed⟩ := d_cell hr hva (show t[k] < r.n + 1 by omega)
      have hs1 : t[k] < r.stops.length := hkk
      have e1 : r.stops[t[k]] = r.s t[k] := by simp [Route.s, hs1]
      have hs := hr.stop _ hkk
      have hw := w64 (n := V.now + r.d V.at_ t[k]) (by omega) (by omega)
      have hw2 := w64 (n := (k : Int) + 1) (by omega) (by omega)
      (repeat ((first | refine WV_seq_ ?_ | refine WV_block ?_ | refine WV_ops ?_ | refine WV_skip ?_ | refine WV_exit ?_); (try simp only [go_sem, init_env', Nat.reduceEqDiff, Nat.reduceAdd, Nat.reduceMul, reduceIte, Nat.reduceLeDiff, Nat.reduceLT, Nat.reduceBEq, reduceCtorEq, hP, Int.toNat_natCast, map_getD hkl, map_getD hd1, map_getD hd2, map_getD hs1, e1, ed, List.getElem_map, Route.cds, driveC, stopsC, Stop.cds, ints, Int.ofNat_lt, h, hd1, hd2, hs1, Int.natCast_nonneg, hw, hw2]); (repeat (refine And.intro (by first | omega | (intros; simp_all; done) | (intros; simp_all; omega)) ?_))))
      (refine WV_cond rfl (fun h => ?_) (fun h => ?_))
      · have h : (r.s t[k]).cl < V.now + r.d V.at_ t[k] := by simpa using h
        have hvis : visit r V t[k] = (drv r V t[k], 0, false) := by unfold visit; rw [if_pos (by simpa [drv] using h)]
        rw [hvis] at hst
        simp only [Bool.false_eq_true, if_false] at hst
        have hf := ride_stop r (t.take (k + 1)) (leave r) (t.drop (k + 1)) (by rw [hst]; simp)
        rw [List.take_append_drop, hst] at hf
        have e : goS r t = (ts, (t[k] : Int), 0) := by unfold goS; rw [hf]
        rw [e]
        (repeat ((first | refine WV_seq_ ?_ | refine WV_block ?_ | refine WV_ops ?_ | refine WV_skip ?_ | refine WV_exit ?_); (try simp only [go_sem, init_env', Nat.reduceEqDiff, Nat.reduceAdd, Nat.reduceMul, reduceIte, Nat.reduceLeDiff, Nat.reduceLT, Nat.reduceBEq, reduceCtorEq, hP, Int.toNat_natCast, map_getD hkl, List.getElem_map, Int.ofNat_lt, Int.natCast_nonneg]); (repeat (refine And.intro (by first | omega | (intros; simp_all; done) | (intros; simp_all; omega)) ?_))))
        (refine WV_ret ?_; simp only [thenQ, inQ, RetQ, RetOk, resAll, resA]; simp only [go_sem, init_env', Nat.reduceEqDiff, Nat.reduceAdd, Nat.reduceMul, reduceIte, Nat.reduceLeDiff, Nat.reduceLT, Nat.reduceBEq, reduceCtorEq, tupA, AV.port, AV.portL, exists_eq_left', ]; (first | exact AVle.of rfl | refine AVle.of ?_ | skip))
      · have h : ¬ (r.s t[k]).cl < V.now + r.d V.at_ t[k] := by simpa using h
        have hvis : visit r V t[k] = ({ drv r V t[k] with now := max (V.now + r.d V.at_ t[k]) (r.s t[k]).op + (r.s t[k]).st }, max (V.now + r.d V.at_ t[k]) (r.s t[k]).op, true) := by unfold visit; rw [if_neg (by simpa [drv] using h)]; rfl
        rw [hvis] at hst
        simp only [if_true] at hst
        have hw3 := w64 (n := max (V.now + r.d V.at_ t[k]) (r.s t[k]).op + (r.s t[k]).st) (by omega) (by omega)
        (repeat ((first | refine WV_seq_ ?_ | refine WV_block ?_ | refine WV_ops ?_ | refine WV_skip ?_ | refine WV_exit ?_); (try simp only [go_sem, init_env', Nat.reduceEqDiff, Nat.reduceAdd, Nat.reduceMul, reduceIte, Nat.reduceLeDiff, Nat.reduceLT, Nat.reduceBEq, reduceCtorEq, hP, Int.toNat_natCast, map_getD hkl, List.getElem_map, Int.ofNat_lt, Int.natCast_nonneg, hw3, hw2]); (repeat (refine And.intro (by first | omega | (intros; simp_all; done) | (intros; simp_all; omega)) ?_))))
        refine ⟨k + 1, ⟨by omega, by rw [hst]⟩, by omega, ?_⟩
        rw [hst]
        (refine Sub_of (by simp only [go_sem, init_env', Nat.reduceEqDiff, Nat.reduceAdd, Nat.reduceMul, reduceIte, Nat.reduceLeDiff, Nat.reduceLT, Nat.reduceBEq, reduceCtorEq]; ((repeat' (first | exact EnvLe_e0 _ _ | refine EnvLe_upd ?_ ?_)) <;> ((try simp only [upd_app, e0_app, o0_app, Nat.reduceEqDiff, reduceIte]); first | exact AWk.refl _ _ | exact AWk.int (by omega) | exact AWk.int (by rw [w64 (by omega) (by omega)]; omega) | exact AWk.grow rfl | exact AWk.nil _ | exact AWk.of (by simp)))) (by simp only [go_sem, init_env', Nat.reduceEqDiff, Nat.reduceAdd, Nat.reduceMul, reduceIte, Nat.reduceLeDiff, Nat.reduceLT, Nat.reduceBEq, reduceCtorEq]; ((repeat' (first | exact ObjLe_o0 _ | exact ObjLe.rfl' _ | refine ObjLe_same ?_ | refine ObjLe_upd ?_ ?_ | refine ObjLe_new rfl ?_)) <;> rfl)))
    · have h : k = t.length := by simp at h; omega
      subst h
      rw [List.take_length] at hn hv hvn hva htl htsl ⊢
      have hc := hr.cell (ride r (leave r) t).2.2.at_ r.n hva (by omega)
      obtain ⟨hd1, hd2, ed⟩ := d_cell hr hva (show r.n < r.n + 1 by omega)
      have e : goS r t = ((ride r (leave r) t).1, -1, (ride r (leave r) t).2.2.now + r.d (ride r (leave r) t).2.2.at_ r.n) := by
        unfold goS
        revert hn
        generalize ride r (leave r) t = x
        obtain ⟨x1, x2, x3⟩ := x
        intro hn
        simp only at hn
        subst hn
        rfl
      rw [e]
      generalize hts : (ride r (leave r) t).1 = ts at *
      generalize hV : (ride r (leave r) t).2.2 = V at *
      have hw := w64 (n := V.now + r.d V.at_ r.n) (by omega) (by omega)
      (repeat ((first | refine WV_seq_ ?_ | refine WV_block ?_ | refine WV_ops ?_ | refine WV_skip ?_ | refine WV_exit ?_); (try simp only [go_sem, init_env', Nat.reduceEqDiff, Nat.reduceAdd, Nat.reduceMul, reduceIte, Nat.reduceLeDiff, Nat.reduceLT, Nat.reduceBEq, reduceCtorEq, hP, Int.toNat_natCast, map_getD hd1, map_getD hd2, ed, List.getElem_map, Route.cds, driveC, ints, Int.ofNat_lt, hd1, hd2, Int.natCast_nonneg, hw]); (repeat (refine And.intro (by first | omega | (intros; simp_all; done) | (intros; simp_all; omega)) ?_))))
      (refine WV_ret ?_; simp only [thenQ, inQ, RetQ, RetOk, resAll, resA]; simp only [go_sem, init_env', Nat.reduceEqDiff, Nat.reduceAdd, Nat.reduceMul, reduceIte, Nat.reduceLeDiff, Nat.reduceLT, Nat.reduceBEq, reduceCtorEq, tupA, AV.port, AV.portL, exists_eq_left', ]; (first | exact AVle.of rfl | refine AVle.of ?_ | skip))
end Go.Proofs.Ytbejgfpaokcnpaa

namespace Go.Proofs.Ytbejgfpaokcnpaa
open Go Go.V
@[reducible] def o60_0 : List Ins := [⟨(some 2), .box 3 (.t 0), none, true⟩,
  ⟨(some 4), .alloc [(.c (.raw (.slice none 0 0))), (.c (.int .i64 0)), (.c (.int .i64 0))], none, true⟩,
  ⟨(some 5), .mv (.k (.c (.int .i64 0))), none, true⟩]
@[reducible] def o60_1 : List Ins := [⟨(some 7), .ld false 3 (.t 2), none, true⟩,
  ⟨(some 8), .call (.k (.fn 27 [])) [(.t 7)], none, true⟩,
  ⟨(some 6), .mv (.t 8), none, true⟩]
@[reducible] def o60_2 : List Ins := [⟨(some 9), .mv (.t 6), none, true⟩,
  ⟨(some 10), .bin .neq (.t 9) (.k (.c (.int .i64 0))), none, true⟩]
@[reducible] def o60_3 : List Ins := [⟨(some 11), .bld [(.c (.raw (.slice none 0 0))), (.c (.int .i64 0)), (.c (.int .i64 0))] [], none, true⟩,
  ⟨(some 12), .mv (.t 6), none, true⟩,
  ⟨none, .st 3 (.t 4) (.t 11), none, true⟩,
  ⟨(some 5), .mv (.t 12), none, true⟩]
@[reducible] def v60_4 : VC := (.seq (.ops o60_3) .ret)
@[reducible] def v60_5 : VC := (.cond (.t 10) v60_4 .skip)
@[reducible] def v60_6 : VC := (.seq (.ops o60_2) v60_5)
@[reducible] def o60_7 : List Ins := [⟨(some 13), .ld false 3 (.t 2), none, true⟩,
  ⟨(some 14), .mv (.t 1), none, true⟩,
  ⟨(some 15), .call (.k (.fn 23 [])) [(.t 13), (.t 14)], none, true⟩,
  ⟨(some 16), .un .not (.t 15), none, true⟩]
@[reducible] def o60_8 : List Ins := [⟨(some 17), .bld [(.c (.raw (.slice none 0 0))), (.c (.int .i64 0)), (.c (.int .i64 0))] [], none, true⟩,
  ⟨none, .st 3 (.t 4) (.t 17), none, true⟩,
  ⟨(some 5), .mv (.k (.c (.int .i64 1))), none, true⟩]
@[reducible] def v60_9 : VC := (.seq (.ops o60_8) .ret)
@[reducible] def v60_10 : VC := (.cond (.t 16) v60_9 .skip)
@[reducible] def o60_11 : List Ins := [⟨(some 18), .ld false 3 (.t 2), none, true⟩,
  ⟨(some 19), .mv (.t 1), none, true⟩,
  ⟨(some 20), .call (.k (.fn 24 [])) [(.t 18), (.t 19)], none, true⟩,
  ⟨none, .st 3 (.t 4) (.t 20), none, true⟩,
  ⟨(some 5), .mv (.k (.c (.int .i64 0))), none, true⟩]
@[reducible] def v60_12 : VC := (.seq (.ops o60_11) .ret)
@[reducible] def v60_13 : VC := (.seq (.seq (.ops o60_7) v60_10) v60_12)
@[reducible] def v60_14 : VC := (.seq (.seq (.ops o60_1) v60_6) v60_13)
def ir60 : FC := ⟨2, 21, [.cell 4 false 3, .t 5], (.seq (.ops o60_0) v60_14)⟩
@[reducible] def o29_0 : List Ins := [⟨(some 2), .box 3 (.t 0), none, true⟩,
  ⟨(some 4), .mv (.k (.c (.raw (.slice none 0 0)))), none, true⟩,
  ⟨(some 5), .mv (.k (.c (.int .i64 0))), none, true⟩]
@[reducible] def o29_1 : List Ins := [⟨(some 9), .ld false 3 (.t 2), none, true⟩,
  ⟨(some 10), .mv (.t 1), none, true⟩,
  ⟨(some 11), .call (.k (.fn 60 [])) [(.t 9), (.t 10)], none, true⟩,
  ⟨(some 8), .mv (.t 11), none, true⟩,
  ⟨(some 12), .ext (.t 8) 0, none, true⟩,
  ⟨(some 13), .ext (.t 8) 1, none, true⟩,
  ⟨(some 6), .alloc [(.c (.raw (.slice none 0 0))), (.c (.int .i64 0)), (.c (.int .i64 0))], none, true⟩,
  ⟨none, .st 3 (.t 6) (.t 12), none, true⟩,
  ⟨(some 7), .mv (.t 13), none, true⟩]
@[reducible] def o29_2 : List Ins := [⟨(some 14), .mv (.t 7), none, true⟩,
  ⟨(some 15), .bin .neq (.t 14) (.k (.c (.int .i64 0))), none, true⟩]
@[reducible] def o29_3 : List Ins := [⟨(some 16), .mv (.t 7), none, true⟩,
  ⟨(some 4), .mv (.k (.c (.raw (.slice none 0 0)))), none, true⟩,
  ⟨(some 5), .mv (.t 16), none, true⟩]
@[reducible] def v29_4 : VC := (.seq (.ops o29_3) .ret)
@[reducible] def v29_5 : VC := (.cond (.t 15) v29_4 .skip)
@[reducible] def o29_6 : List Ins := [⟨(some 17), .fa 1 (.t 6), none, true⟩,
  ⟨(some 18), .ld true 1 (.t 17), none, true⟩,
  ⟨(some 19), .bin .geq (.t 18) (.k (.c (.int .i64 0))), none, true⟩]
@[reducible] def o29_7 : List Ins := [⟨(some 4), .mv (.k (.c (.raw (.slice none 0 0)))), none, true⟩,
  ⟨(some 5), .mv (.k (.c (.int .i64 81))), none, true⟩]
@[reducible] def v29_8 : VC := (.seq (.ops o29_7) .ret)
@[reducible] def v29_9 : VC := (.cond (.t 19) v29_8 .skip)
@[reducible] def o29_10 : List Ins := [⟨(some 20), .fa 0 (.t 6), none, true⟩,
  ⟨(some 21), .ld true 1 (.t 20), none, true⟩,
  ⟨(some 4), .mv (.t 21), none, true⟩,
  ⟨(some 5), .mv (.k (.c (.int .i64 0))), none, true⟩]
@[reducible] def v29_11 : VC := (.seq (.ops o29_10) .ret)
@[reducible] def v29_12 : VC := (.seq (.seq (.ops o29_6) v29_9) v29_11)
@[reducible] def v29_13 : VC := (.seq (.seq (.ops o29_2) v29_5) v29_12)
@[reducible] def v29_14 : VC := (.seq (.ops o29_1) v29_13)
def ir29 : FC := ⟨2, 22, [.t 4, .t 5], (.seq (.ops o29_0) v29_14)⟩
@[reducible] def o31_0 : List Ins := [⟨(some 2), .box 3 (.t 0), none, true⟩,
  ⟨(some 4), .mv (.k (.c (.int .i64 0))), none, true⟩,
  ⟨(some 5), .mv (.k (.c (.int .i64 0))), none, true⟩]
@[reducible] def o31_1 : List Ins := [⟨(some 9), .ld false 3 (.t 2), none, true⟩,
  ⟨(some 10), .mv (.t 1), none, true⟩,
  ⟨(some 11), .call (.k (.fn 60 [])) [(.t 9), (.t 10)], none, true⟩,
  ⟨(some 8), .mv (.t 11), none, true⟩,
  ⟨(some 12), .ext (.t 8) 0, none, true⟩,
  ⟨(some 13), .ext (.t 8) 1, none, true⟩,
  ⟨(some 6), .alloc [(.c (.raw (.slice none 0 0))), (.c (.int .i64 0)), (.c (.int .i64 0))], none, true⟩,
  ⟨none, .st 3 (.t 6) (.t 12), none, true⟩,
  ⟨(some 7), .mv (.t 13), none, true⟩]
@[reducible] def o31_2 : List Ins := [⟨(some 14), .mv (.t 7), none, true⟩,
  ⟨(some 15), .bin .neq (.t 14) (.k (.c (.int .i64 0))), none, true⟩]
@[reducible] def o31_3 : List Ins := [⟨(some 16), .mv (.t 7), none, true⟩,
  ⟨(some 4), .mv (.k (.c (.int .i64 0))), none, true⟩,
  ⟨(some 5), .mv (.t 16), none, true⟩]
@[reducible] def v31_4 : VC := (.seq (.ops o31_3) .ret)
@[reducible] def v31_5 : VC := (.cond (.t 15) v31_4 .skip)
@[reducible] def o31_6 : List Ins := [⟨(some 17), .fa 1 (.t 6), none, true⟩,
  ⟨(some 18), .ld true 1 (.t 17), none, true⟩,
  ⟨(some 19), .bin .geq (.t 18) (.k (.c (.int .i64 0))), none, true⟩]
@[reducible] def o31_7 : List Ins := [⟨(some 4), .mv (.k (.c (.int .i64 0))), none, true⟩,
  ⟨(some 5), .mv (.k (.c (.int .i64 81))), none, true⟩]
@[reducible] def v31_8 : VC := (.seq (.ops o31_7) .ret)
@[reducible] def v31_9 : VC := (.cond (.t 19) v31_8 .skip)
@[reducible] def o31_10 : List Ins := [⟨(some 20), .fa 2 (.t 6), none, true⟩,
  ⟨(some 21), .ld true 1 (.t 20), none, true⟩,
  ⟨(some 4), .mv (.t 21), none, true⟩,
  ⟨(some 5), .mv (.k (.c (.int .i64 0))), none, true⟩]
@[reducible] def v31_11 : VC := (.seq (.ops o31_10) .ret)
@[reducible] def v31_12 : VC := (.seq (.seq (.ops o31_6) v31_9) v31_11)
@[reducible] def v31_13 : VC := (.seq (.seq (.ops o31_2) v31_5) v31_12)
@[reducible] def v31_14 : VC := (.seq (.ops o31_1) v31_13)
def ir31 : FC := ⟨2, 22, [.t 4, .t 5], (.seq (.ops o31_0) v31_14)⟩
@[reducible] def o33_0 : List Ins := [⟨(some 2), .box 3 (.t 0), none, true⟩,
  ⟨(some 4), .mv (.k (.c (.int .i64 0))), none, true⟩,
  ⟨(some 5), .mv (.k (.c (.int .i64 0))), none, true⟩]
@[reducible] def o33_1 : List Ins := [⟨(some 9), .ld false 3 (.t 2), none, true⟩,
  ⟨(some 10), .mv (.t 1), none, true⟩,
  ⟨(some 11), .call (.k (.fn 60 [])) [(.t 9), (.t 10)], none, true⟩,
  ⟨(some 8), .mv (.t 11), none, true⟩,
  ⟨(some 12), .ext (.t 8) 0, none, true⟩,
  ⟨(some 13), .ext (.t 8) 1, none, true⟩,
  ⟨(some 6), .alloc [(.c (.raw (.slice none 0 0))), (.c (.int .i64 0)), (.c (.int .i64 0))], none, true⟩,
  ⟨none, .st 3 (.t 6) (.t 12), none, true⟩,
  ⟨(some 7), .mv (.t 13), none, true⟩]
@[reducible] def o33_2 : List Ins := [⟨(some 14), .mv (.t 7), none, true⟩,
  ⟨(some 15), .bin .neq (.t 14) (.k (.c (.int .i64 0))), none, true⟩]
@[reducible] def o33_3 : List Ins := [⟨(some 16), .mv (.t 7), none, true⟩,
  ⟨(some 4), .mv (.k (.c (.int .i64 0))), none, true⟩,
  ⟨(some 5), .mv (.t 16), none, true⟩]
@[reducible] def v33_4 : VC := (.seq (.ops o33_3) .ret)
@[reducible] def v33_5 : VC := (.cond (.t 15) v33_4 .skip)
@[reducible] def o33_6 : List Ins := [⟨(some 17), .fa 1 (.t 6), none, true⟩,
  ⟨(some 18), .ld true 1 (.t 17), none, true⟩,
  ⟨(some 19), .bin .lss (.t 18) (.k (.c (.int .i64 0))), none, true⟩]
@[reducible] def o33_7 : List Ins := [⟨(some 4), .mv (.k (.c (.int .i64 0))), none, true⟩,
  ⟨(some 5), .mv (.k (.c (.int .i64 3))), none, true⟩]
@[reducible] def v33_8 : VC := (.seq (.ops o33_7) .ret)
@[reducible] def v33_9 : VC := (.cond (.t 19) v33_8 .skip)
@[reducible] def o33_10 : List Ins := [⟨(some 20), .fa 1 (.t 6), none, true⟩,
  ⟨(some 21), .ld true 1 (.t 20), none, true⟩,
  ⟨(some 4), .mv (.t 21), none, true⟩,
  ⟨(some 5), .mv (.k (.c (.int .i64 0))), none, true⟩]
@[reducible] def v33_11 : VC := (.seq (.ops o33_10) .ret)
@[reducible] def v33_12 : VC := (.seq (.seq (.ops o33_6) v33_9) v33_11)
@[reducible] def v33_13 : VC := (.seq (.seq (.ops o33_2) v33_5) v33_12)
@[reducible] def v33_14 : VC := (.seq (.ops o33_1) v33_13)
def ir33 : FC := ⟨2, 22, [.t 4, .t 5], (.seq (.ops o33_0) v33_14)⟩
theorem c60 : compM Try.prog [] 60 = some ir60 := by kernel_rfl
theorem c29 : compM Try.prog [] 29 = some ir29 := by kernel_rfl
theorem c31 : compM Try.prog [] 31 = some ir31 := by kernel_rfl
theorem c33 : compM Try.prog [] 33 = some ir33 := by kernel_rfl



def tripS (r : Route) (l : List Int) : (List Int × Int × Int) × Int := if r.ok = true ∧ isTour r l = true then (goS r (toN l), 0) else (([], 0, 0), knownE r l)

set_option maxHeartbeats 1000000 in
theorem trip60 (r : Route) (l : List Int) (hl : l.length ≤ 20) : FSpec Try.prog 60 [r.av, .c (ints l)] (.tup [goC (tripS r l).1, iv (tripS r l).2]) := by
  refine FSpec_of c60 (Nat.le_refl _) (by decide) fun C hP hN hC hL => ?_
  simp only [ir60, Route.av]
  (repeat ((first | refine WV_seq_ ?_ | refine WV_block ?_ | refine WV_ops ?_ | refine WV_skip ?_ | refine WV_exit ?_); (try simp only [go_sem, init_env', Nat.reduceEqDiff, Nat.reduceAdd, Nat.reduceMul, reduceIte, Nat.reduceLeDiff, Nat.reduceLT, Nat.reduceBEq, reduceCtorEq, hP, ]); (repeat (refine And.intro (by first | omega | (intros; simp_all; done) | (intros; simp_all; omega)) ?_))))
  (refine AS_pure (check_spec r) rfl rfl rfl rfl rfl ?_; simp only [go_sem, init_env', Nat.reduceEqDiff, Nat.reduceAdd, Nat.reduceMul, reduceIte, Nat.reduceLeDiff, Nat.reduceLT, Nat.reduceBEq, reduceCtorEq, hP, Route.av]; (repeat (refine And.intro (by first | omega | (intros; simp_all; done) | (intros; simp_all; omega)) ?_)); (repeat ((first | refine WV_seq_ ?_ | refine WV_block ?_ | refine WV_ops ?_ | refine WV_skip ?_ | refine WV_exit ?_); (try simp only [go_sem, init_env', Nat.reduceEqDiff, Nat.reduceAdd, Nat.reduceMul, reduceIte, Nat.reduceLeDiff, Nat.reduceLT, Nat.reduceBEq, reduceCtorEq, hP, Route.av]); (repeat (refine And.intro (by first | omega | (intros; simp_all; done) | (intros; simp_all; omega)) ?_)))))
  by_cases hok : r.ok = true
  · have hr := Route.ok_spec hok
    simp only [hok, if_true]
    (refine WV_cond rfl (fun h => ?_) (fun h => ?_))
    · simp at h
    · (repeat ((first | refine WV_seq_ ?_ | refine WV_block ?_ | refine WV_ops ?_ | refine WV_skip ?_ | refine WV_exit ?_); (try simp only [go_sem, init_env', Nat.reduceEqDiff, Nat.reduceAdd, Nat.reduceMul, reduceIte, Nat.reduceLeDiff, Nat.reduceLT, Nat.reduceBEq, reduceCtorEq, hP, ]); (repeat (refine And.intro (by first | omega | (intros; simp_all; done) | (intros; simp_all; omega)) ?_))))
      (refine AS_pure (istour23 hr.n7 l hl) rfl rfl rfl rfl rfl ?_; simp only [go_sem, init_env', Nat.reduceEqDiff, Nat.reduceAdd, Nat.reduceMul, reduceIte, Nat.reduceLeDiff, Nat.reduceLT, Nat.reduceBEq, reduceCtorEq, hP, Route.av]; (repeat (refine And.intro (by first | omega | (intros; simp_all; done) | (intros; simp_all; omega)) ?_)); (repeat ((first | refine WV_seq_ ?_ | refine WV_block ?_ | refine WV_ops ?_ | refine WV_skip ?_ | refine WV_exit ?_); (try simp only [go_sem, init_env', Nat.reduceEqDiff, Nat.reduceAdd, Nat.reduceMul, reduceIte, Nat.reduceLeDiff, Nat.reduceLT, Nat.reduceBEq, reduceCtorEq, hP, Route.av]); (repeat (refine And.intro (by first | omega | (intros; simp_all; done) | (intros; simp_all; omega)) ?_)))))
      (refine WV_cond rfl (fun h => ?_) (fun h => ?_))
      · have h : isTour r l = false := by simpa using h
        have e : tripS r l = (([], 0, 0), 1) := by simp [tripS, h, knownE, hok]
        rw [e]
        (repeat ((first | refine WV_seq_ ?_ | refine WV_block ?_ | refine WV_ops ?_ | refine WV_skip ?_ | refine WV_exit ?_); (try simp only [go_sem, init_env', Nat.reduceEqDiff, Nat.reduceAdd, Nat.reduceMul, reduceIte, Nat.reduceLeDiff, Nat.reduceLT, Nat.reduceBEq, reduceCtorEq, hP, ]); (repeat (refine And.intro (by first | omega | (intros; simp_all; done) | (intros; simp_all; omega)) ?_))))
        (refine WV_ret ?_; simp only [thenQ, inQ, RetQ, RetOk, resAll, resA]; simp only [go_sem, init_env', Nat.reduceEqDiff, Nat.reduceAdd, Nat.reduceMul, reduceIte, Nat.reduceLeDiff, Nat.reduceLT, Nat.reduceBEq, reduceCtorEq, tupA, AV.port, AV.portL, exists_eq_left', ])
        exact AVle.tup (AVles.cons (AVle.agg (AVles.cons (AVle.nil 1) (AVles.refl _))) (AVles.refl _))
      · have h : isTour r l = true := by simpa using h
        have e : tripS r l = (goS r (toN l), 0) := if_pos ⟨hok, h⟩
        rw [e]
        have hsp := go24 hr (toN_lt h) (by simpa [toN] using hl)
        rw [nats_toN h] at hsp
        (repeat ((first | refine WV_seq_ ?_ | refine WV_block ?_ | refine WV_ops ?_ | refine WV_skip ?_ | refine WV_exit ?_); (try simp only [go_sem, init_env', Nat.reduceEqDiff, Nat.reduceAdd, Nat.reduceMul, reduceIte, Nat.reduceLeDiff, Nat.reduceLT, Nat.reduceBEq, reduceCtorEq, hP, ]); (repeat (refine And.intro (by first | omega | (intros; simp_all; done) | (intros; simp_all; omega)) ?_))))
        (refine AS_pure (hsp) rfl rfl rfl rfl rfl ?_; simp only [go_sem, init_env', Nat.reduceEqDiff, Nat.reduceAdd, Nat.reduceMul, reduceIte, Nat.reduceLeDiff, Nat.reduceLT, Nat.reduceBEq, reduceCtorEq, hP, Route.av, goC]; (repeat (refine And.intro (by first | omega | (intros; simp_all; done) | (intros; simp_all; omega)) ?_)); (repeat ((first | refine WV_seq_ ?_ | refine WV_block ?_ | refine WV_ops ?_ | refine WV_skip ?_ | refine WV_exit ?_); (try simp only [go_sem, init_env', Nat.reduceEqDiff, Nat.reduceAdd, Nat.reduceMul, reduceIte, Nat.reduceLeDiff, Nat.reduceLT, Nat.reduceBEq, reduceCtorEq, hP, Route.av, goC]); (repeat (refine And.intro (by first | omega | (intros; simp_all; done) | (intros; simp_all; omega)) ?_)))))
        (refine WV_ret ?_; simp only [thenQ, inQ, RetQ, RetOk, resAll, resA]; simp only [go_sem, init_env', Nat.reduceEqDiff, Nat.reduceAdd, Nat.reduceMul, reduceIte, Nat.reduceLeDiff, Nat.reduceLT, Nat.reduceBEq, reduceCtorEq, tupA, AV.port, AV.portL, exists_eq_left', ]; (first | exact AVle.of rfl | refine AVle.of ?_ | skip))
  · have hok : r.ok = false := by simpa using hok
    have e : tripS r l = (([], 0, 0), 80) := by simp [tripS, knownE, hok]
    simp only [hok, Bool.false_eq_true, if_false, e]
    (refine WV_cond rfl (fun h => ?_) (fun h => ?_))
    · (repeat ((first | refine WV_seq_ ?_ | refine WV_block ?_ | refine WV_ops ?_ | refine WV_skip ?_ | refine WV_exit ?_); (try simp only [go_sem, init_env', Nat.reduceEqDiff, Nat.reduceAdd, Nat.reduceMul, reduceIte, Nat.reduceLeDiff, Nat.reduceLT, Nat.reduceBEq, reduceCtorEq, hP, ]); (repeat (refine And.intro (by first | omega | (intros; simp_all; done) | (intros; simp_all; omega)) ?_))))
      (refine WV_ret ?_; simp only [thenQ, inQ, RetQ, RetOk, resAll, resA]; simp only [go_sem, init_env', Nat.reduceEqDiff, Nat.reduceAdd, Nat.reduceMul, reduceIte, Nat.reduceLeDiff, Nat.reduceLT, Nat.reduceBEq, reduceCtorEq, tupA, AV.port, AV.portL, exists_eq_left', ])
      exact AVle.tup (AVles.cons (AVle.agg (AVles.cons (AVle.nil 1) (AVles.refl _))) (AVles.refl _))
    · simp at h

theorem tripS_ne {r : Route} {l : List Int} (h : (tripS r l).2 ≠ 0) : ¬ (r.ok = true ∧ isTour r l = true) ∧ (tripS r l).2 = knownE r l := by
  unfold tripS at *
  split at h
  · simp at h
  · rename_i hn; exact ⟨hn, by rw [if_neg hn]⟩
theorem tripS_eq {r : Route} {l : List Int} (h : (tripS r l).2 = 0) : (r.ok = true ∧ isTour r l = true) ∧ (tripS r l).1 = goS r (toN l) := by
  unfold tripS at *
  by_cases hn : r.ok = true ∧ isTour r l = true
  · exact ⟨hn, by rw [if_pos hn]⟩
  · rw [if_neg hn] at h
    exfalso
    simp only [knownE] at h
    cases h1 : r.ok <;> cases h2 : isTour r l <;> simp [h1, h2] at h hn
theorem home_back {r : Route} (hr : RouteOk r) (t : List Nat) {w : Van} {ts : List Int} (h : ride r (leave r) t = (ts, none, w)) : (home r t w).now = w.now + r.d w.at_ r.n ∧ (home r t w).long = w.long + r.d w.at_ r.n := by
  unfold home
  by_cases ht : t = []
  · subst ht
    simp only [ride, Prod.mk.injEq] at h
    obtain ⟨_, _, rfl⟩ := h
    have := hr.diag r.n (Nat.lt_succ_self _)
    simp [leave, this]
  · rw [if_neg ht]; exact ⟨rfl, rfl⟩

set_option maxHeartbeats 1000000 in
theorem rtimes29 (r : Route) (l : List Int) (hl : l.length ≤ 20) : FSpec Try.prog 29 [r.av, .c (ints l)] (.tup [.c (ints (timesS r l).1), iv (timesS r l).2]) := by
  refine FSpec_of c29 (Nat.le_refl _) (by decide) fun C hP hN hC hL => ?_
  simp only [ir29, Route.av]
  (repeat ((first | refine WV_seq_ ?_ | refine WV_block ?_ | refine WV_ops ?_ | refine WV_skip ?_ | refine WV_exit ?_); (try simp only [go_sem, init_env', Nat.reduceEqDiff, Nat.reduceAdd, Nat.reduceMul, reduceIte, Nat.reduceLeDiff, Nat.reduceLT, Nat.reduceBEq, reduceCtorEq, hP, ]); (repeat (refine And.intro (by first | omega | (intros; simp_all; done) | (intros; simp_all; omega)) ?_))))
  (refine AS_pure (trip60 r l hl) rfl rfl rfl rfl rfl ?_; simp only [go_sem, init_env', Nat.reduceEqDiff, Nat.reduceAdd, Nat.reduceMul, reduceIte, Nat.reduceLeDiff, Nat.reduceLT, Nat.reduceBEq, reduceCtorEq, hP, Route.av, goC]; (repeat (refine And.intro (by first | omega | (intros; simp_all; done) | (intros; simp_all; omega)) ?_)); (repeat ((first | refine WV_seq_ ?_ | refine WV_block ?_ | refine WV_ops ?_ | refine WV_skip ?_ | refine WV_exit ?_); (try simp only [go_sem, init_env', Nat.reduceEqDiff, Nat.reduceAdd, Nat.reduceMul, reduceIte, Nat.reduceLeDiff, Nat.reduceLT, Nat.reduceBEq, reduceCtorEq, hP, Route.av, goC]); (repeat (refine And.intro (by first | omega | (intros; simp_all; done) | (intros; simp_all; omega)) ?_)))))
  (refine WV_cond rfl (fun h => ?_) (fun h => ?_))
  · have h : (tripS r l).2 ≠ 0 := by simpa using h
    have hn := tripS_ne h
    have e : timesS r l = ([], (tripS r l).2) := by unfold timesS; rw [if_neg hn.1, hn.2]
    rw [e]
    (repeat ((first | refine WV_seq_ ?_ | refine WV_block ?_ | refine WV_ops ?_ | refine WV_skip ?_ | refine WV_exit ?_); (try simp only [go_sem, init_env', Nat.reduceEqDiff, Nat.reduceAdd, Nat.reduceMul, reduceIte, Nat.reduceLeDiff, Nat.reduceLT, Nat.reduceBEq, reduceCtorEq, hP, ]); (repeat (refine And.intro (by first | omega | (intros; simp_all; done) | (intros; simp_all; omega)) ?_))))
    (refine WV_ret ?_; simp only [thenQ, inQ, RetQ, RetOk, resAll, resA]; simp only [go_sem, init_env', Nat.reduceEqDiff, Nat.reduceAdd, Nat.reduceMul, reduceIte, Nat.reduceLeDiff, Nat.reduceLT, Nat.reduceBEq, reduceCtorEq, tupA, AV.port, AV.portL, exists_eq_left', ])
    exact AVle.tup (AVles.cons (AVle.nil 1) (AVles.refl _))
  · have h : (tripS r l).2 = 0 := by simpa using h
    have hn := tripS_eq h
    have e0 : timesS r l = _ := if_pos hn.1
    rw [hn.2]
    unfold goS
    revert e0
    generalize ride r (leave r) (toN l) = x
    obtain ⟨ts, m, v⟩ := x
    intro e0
    cases m with
    | some k =>
      simp only at e0
      rw [e0]
      (repeat ((first | refine WV_seq_ ?_ | refine WV_block ?_ | refine WV_ops ?_ | refine WV_skip ?_ | refine WV_exit ?_); (try simp only [go_sem, init_env', Nat.reduceEqDiff, Nat.reduceAdd, Nat.reduceMul, reduceIte, Nat.reduceLeDiff, Nat.reduceLT, Nat.reduceBEq, reduceCtorEq, hP, ]); (repeat (refine And.intro (by first | omega | (intros; simp_all; done) | (intros; simp_all; omega)) ?_))))
      (refine WV_cond rfl (fun h => ?_) (fun h => ?_))
      · (repeat ((first | refine WV_seq_ ?_ | refine WV_block ?_ | refine WV_ops ?_ | refine WV_skip ?_ | refine WV_exit ?_); (try simp only [go_sem, init_env', Nat.reduceEqDiff, Nat.reduceAdd, Nat.reduceMul, reduceIte, Nat.reduceLeDiff, Nat.reduceLT, Nat.reduceBEq, reduceCtorEq, hP, ]); (repeat (refine And.intro (by first | omega | (intros; simp_all; done) | (intros; simp_all; omega)) ?_))))
        (refine WV_ret ?_; simp only [thenQ, inQ, RetQ, RetOk, resAll, resA]; simp only [go_sem, init_env', Nat.reduceEqDiff, Nat.reduceAdd, Nat.reduceMul, reduceIte, Nat.reduceLeDiff, Nat.reduceLT, Nat.reduceBEq, reduceCtorEq, tupA, AV.port, AV.portL, exists_eq_left', ])
        exact AVle.tup (AVles.cons (AVle.nil 1) (AVles.refl _))
      · simp at h <;> omega
    | none =>
      simp only at e0
      rw [e0]
      (repeat ((first | refine WV_seq_ ?_ | refine WV_block ?_ | refine WV_ops ?_ | refine WV_skip ?_ | refine WV_exit ?_); (try simp only [go_sem, init_env', Nat.reduceEqDiff, Nat.reduceAdd, Nat.reduceMul, reduceIte, Nat.reduceLeDiff, Nat.reduceLT, Nat.reduceBEq, reduceCtorEq, hP, ]); (repeat (refine And.intro (by first | omega | (intros; simp_all; done) | (intros; simp_all; omega)) ?_))))
      (refine WV_cond rfl (fun h => ?_) (fun h => ?_))
      · simp at h
      · (repeat ((first | refine WV_seq_ ?_ | refine WV_block ?_ | refine WV_ops ?_ | refine WV_skip ?_ | refine WV_exit ?_); (try simp only [go_sem, init_env', Nat.reduceEqDiff, Nat.reduceAdd, Nat.reduceMul, reduceIte, Nat.reduceLeDiff, Nat.reduceLT, Nat.reduceBEq, reduceCtorEq, hP, ]); (repeat (refine And.intro (by first | omega | (intros; simp_all; done) | (intros; simp_all; omega)) ?_))))
        (refine WV_ret ?_; simp only [thenQ, inQ, RetQ, RetOk, resAll, resA]; simp only [go_sem, init_env', Nat.reduceEqDiff, Nat.reduceAdd, Nat.reduceMul, reduceIte, Nat.reduceLeDiff, Nat.reduceLT, Nat.reduceBEq, reduceCtorEq, tupA, AV.port, AV.portL, exists_eq_left', ]; (first | exact AVle.of rfl | refine AVle.of ?_ | skip))

set_option maxHeartbeats 1000000 in
theorem rback31 (r : Route) (l : List Int) (hl : l.length ≤ 20) : FSpec Try.prog 31 [r.av, .c (ints l)] (.tup [iv (backS r l).1, iv (backS r l).2]) := by
  refine FSpec_of c31 (Nat.le_refl _) (by decide) fun C hP hN hC hL => ?_
  simp only [ir31, Route.av]
  (repeat ((first | refine WV_seq_ ?_ | refine WV_block ?_ | refine WV_ops ?_ | refine WV_skip ?_ | refine WV_exit ?_); (try simp only [go_sem, init_env', Nat.reduceEqDiff, Nat.reduceAdd, Nat.reduceMul, reduceIte, Nat.reduceLeDiff, Nat.reduceLT, Nat.reduceBEq, reduceCtorEq, hP, ]); (repeat (refine And.intro (by first | omega | (intros; simp_all; done) | (intros; simp_all; omega)) ?_))))
  (refine AS_pure (trip60 r l hl) rfl rfl rfl rfl rfl ?_; simp only [go_sem, init_env', Nat.reduceEqDiff, Nat.reduceAdd, Nat.reduceMul, reduceIte, Nat.reduceLeDiff, Nat.reduceLT, Nat.reduceBEq, reduceCtorEq, hP, Route.av, goC]; (repeat (refine And.intro (by first | omega | (intros; simp_all; done) | (intros; simp_all; omega)) ?_)); (repeat ((first | refine WV_seq_ ?_ | refine WV_block ?_ | refine WV_ops ?_ | refine WV_skip ?_ | refine WV_exit ?_); (try simp only [go_sem, init_env', Nat.reduceEqDiff, Nat.reduceAdd, Nat.reduceMul, reduceIte, Nat.reduceLeDiff, Nat.reduceLT, Nat.reduceBEq, reduceCtorEq, hP, Route.av, goC]); (repeat (refine And.intro (by first | omega | (intros; simp_all; done) | (intros; simp_all; omega)) ?_)))))
  (refine WV_cond rfl (fun h => ?_) (fun h => ?_))
  · have h : (tripS r l).2 ≠ 0 := by simpa using h
    have hn := tripS_ne h
    have e : backS r l = (0, (tripS r l).2) := by unfold backS; rw [if_neg hn.1, hn.2]
    rw [e]
    (repeat ((first | refine WV_seq_ ?_ | refine WV_block ?_ | refine WV_ops ?_ | refine WV_skip ?_ | refine WV_exit ?_); (try simp only [go_sem, init_env', Nat.reduceEqDiff, Nat.reduceAdd, Nat.reduceMul, reduceIte, Nat.reduceLeDiff, Nat.reduceLT, Nat.reduceBEq, reduceCtorEq, hP, ]); (repeat (refine And.intro (by first | omega | (intros; simp_all; done) | (intros; simp_all; omega)) ?_))))
    (refine WV_ret ?_; simp only [thenQ, inQ, RetQ, RetOk, resAll, resA]; simp only [go_sem, init_env', Nat.reduceEqDiff, Nat.reduceAdd, Nat.reduceMul, reduceIte, Nat.reduceLeDiff, Nat.reduceLT, Nat.reduceBEq, reduceCtorEq, tupA, AV.port, AV.portL, exists_eq_left', ]; (first | exact AVle.of rfl | refine AVle.of ?_ | skip))
  · have h : (tripS r l).2 = 0 := by simpa using h
    have hn := tripS_eq h
    have e0 : backS r l = _ := if_pos hn.1
    have hb := fun w ts => home_back (Route.ok_spec hn.1.1) (toN l) (w := w) (ts := ts)
    rw [hn.2]
    unfold goS
    revert e0 hb
    generalize ride r (leave r) (toN l) = x
    obtain ⟨ts, m, v⟩ := x
    intro e0 hb
    cases m with
    | some k =>
      simp only at e0
      rw [e0]
      (repeat ((first | refine WV_seq_ ?_ | refine WV_block ?_ | refine WV_ops ?_ | refine WV_skip ?_ | refine WV_exit ?_); (try simp only [go_sem, init_env', Nat.reduceEqDiff, Nat.reduceAdd, Nat.reduceMul, reduceIte, Nat.reduceLeDiff, Nat.reduceLT, Nat.reduceBEq, reduceCtorEq, hP, ]); (repeat (refine And.intro (by first | omega | (intros; simp_all; done) | (intros; simp_all; omega)) ?_))))
      (refine WV_cond rfl (fun h => ?_) (fun h => ?_))
      · (repeat ((first | refine WV_seq_ ?_ | refine WV_block ?_ | refine WV_ops ?_ | refine WV_skip ?_ | refine WV_exit ?_); (try simp only [go_sem, init_env', Nat.reduceEqDiff, Nat.reduceAdd, Nat.reduceMul, reduceIte, Nat.reduceLeDiff, Nat.reduceLT, Nat.reduceBEq, reduceCtorEq, hP, ]); (repeat (refine And.intro (by first | omega | (intros; simp_all; done) | (intros; simp_all; omega)) ?_))))
        (refine WV_ret ?_; simp only [thenQ, inQ, RetQ, RetOk, resAll, resA]; simp only [go_sem, init_env', Nat.reduceEqDiff, Nat.reduceAdd, Nat.reduceMul, reduceIte, Nat.reduceLeDiff, Nat.reduceLT, Nat.reduceBEq, reduceCtorEq, tupA, AV.port, AV.portL, exists_eq_left', ]; (first | exact AVle.of rfl | refine AVle.of ?_ | skip))
      · simp at h <;> omega
    | none =>
      simp only at e0
      rw [e0, (hb v ts rfl).1]
      (repeat ((first | refine WV_seq_ ?_ | refine WV_block ?_ | refine WV_ops ?_ | refine WV_skip ?_ | refine WV_exit ?_); (try simp only [go_sem, init_env', Nat.reduceEqDiff, Nat.reduceAdd, Nat.reduceMul, reduceIte, Nat.reduceLeDiff, Nat.reduceLT, Nat.reduceBEq, reduceCtorEq, hP, ]); (repeat (refine And.intro (by first | omega | (intros; simp_all; done) | (intros; simp_all; omega)) ?_))))
      (refine WV_cond rfl (fun h => ?_) (fun h => ?_))
      · simp at h
      · (repeat ((first | refine WV_seq_ ?_ | refine WV_block ?_ | refine WV_ops ?_ | refine WV_skip ?_ | refine WV_exit ?_); (try simp only [go_sem, init_env', Nat.reduceEqDiff, Nat.reduceAdd, Nat.reduceMul, reduceIte, Nat.reduceLeDiff, Nat.reduceLT, Nat.reduceBEq, reduceCtorEq, hP, ]); (repeat (refine And.intro (by first | omega | (intros; simp_all; done) | (intros; simp_all; omega)) ?_))))
        (refine WV_ret ?_; simp only [thenQ, inQ, RetQ, RetOk, resAll, resA]; simp only [go_sem, init_env', Nat.reduceEqDiff, Nat.reduceAdd, Nat.reduceMul, reduceIte, Nat.reduceLeDiff, Nat.reduceLT, Nat.reduceBEq, reduceCtorEq, tupA, AV.port, AV.portL, exists_eq_left', ]; (first | exact AVle.of rfl | refine AVle.of ?_ | skip))

set_option maxHeartbeats 1000000 in
theorem rmissed33 (r : Route) (l : List Int) (hl : l.length ≤ 20) : FSpec Try.prog 33 [r.av, .c (ints l)] (.tup [iv (missS r l).1, iv (missS r l).2]) := by
  refine FSpec_of c33 (Nat.le_refl _) (by decide) fun C hP hN hC hL => ?_
  simp only [ir33, Route.av]
  (repeat ((first | refine WV_seq_ ?_ | refine WV_block ?_ | refine WV_ops ?_ | refine WV_skip ?_ | refine WV_exit ?_); (try simp only [go_sem, init_env', Nat.reduceEqDiff, Nat.reduceAdd, Nat.reduceMul, reduceIte, Nat.reduceLeDiff, Nat.reduceLT, Nat.reduceBEq, reduceCtorEq, hP, ]); (repeat (refine And.intro (by first | omega | (intros; simp_all; done) | (intros; simp_all; omega)) ?_))))
  (refine AS_pure (trip60 r l hl) rfl rfl rfl rfl rfl ?_; simp only [go_sem, init_env', Nat.reduceEqDiff, Nat.reduceAdd, Nat.reduceMul, reduceIte, Nat.reduceLeDiff, Nat.reduceLT, Nat.reduceBEq, reduceCtorEq, hP, Route.av, goC]; (repeat (refine And.intro (by first | omega | (intros; simp_all; done) | (intros; simp_all; omega)) ?_)); (repeat ((first | refine WV_seq_ ?_ | refine WV_block ?_ | refine WV_ops ?_ | refine WV_skip ?_ | refine WV_exit ?_); (try simp only [go_sem, init_env', Nat.reduceEqDiff, Nat.reduceAdd, Nat.reduceMul, reduceIte, Nat.reduceLeDiff, Nat.reduceLT, Nat.reduceBEq, reduceCtorEq, hP, Route.av, goC]); (repeat (refine And.intro (by first | omega | (intros; simp_all; done) | (intros; simp_all; omega)) ?_)))))
  (refine WV_cond rfl (fun h => ?_) (fun h => ?_))
  · have h : (tripS r l).2 ≠ 0 := by simpa using h
    have hn := tripS_ne h
    have e : missS r l = (0, (tripS r l).2) := by unfold missS; rw [if_neg hn.1, hn.2]
    rw [e]
    (repeat ((first | refine WV_seq_ ?_ | refine WV_block ?_ | refine WV_ops ?_ | refine WV_skip ?_ | refine WV_exit ?_); (try simp only [go_sem, init_env', Nat.reduceEqDiff, Nat.reduceAdd, Nat.reduceMul, reduceIte, Nat.reduceLeDiff, Nat.reduceLT, Nat.reduceBEq, reduceCtorEq, hP, ]); (repeat (refine And.intro (by first | omega | (intros; simp_all; done) | (intros; simp_all; omega)) ?_))))
    (refine WV_ret ?_; simp only [thenQ, inQ, RetQ, RetOk, resAll, resA]; simp only [go_sem, init_env', Nat.reduceEqDiff, Nat.reduceAdd, Nat.reduceMul, reduceIte, Nat.reduceLeDiff, Nat.reduceLT, Nat.reduceBEq, reduceCtorEq, tupA, AV.port, AV.portL, exists_eq_left', ]; (first | exact AVle.of rfl | refine AVle.of ?_ | skip))
  · have h : (tripS r l).2 = 0 := by simpa using h
    have hn := tripS_eq h
    have e0 : missS r l = _ := if_pos hn.1
    rw [hn.2]
    unfold goS
    revert e0
    generalize ride r (leave r) (toN l) = x
    obtain ⟨ts, m, v⟩ := x
    intro e0
    cases m with
    | some k =>
      simp only at e0
      rw [e0]
      (repeat ((first | refine WV_seq_ ?_ | refine WV_block ?_ | refine WV_ops ?_ | refine WV_skip ?_ | refine WV_exit ?_); (try simp only [go_sem, init_env', Nat.reduceEqDiff, Nat.reduceAdd, Nat.reduceMul, reduceIte, Nat.reduceLeDiff, Nat.reduceLT, Nat.reduceBEq, reduceCtorEq, hP, ]); (repeat (refine And.intro (by first | omega | (intros; simp_all; done) | (intros; simp_all; omega)) ?_))))
      (refine WV_cond rfl (fun h => ?_) (fun h => ?_))
      · simp at h <;> omega
      · (repeat ((first | refine WV_seq_ ?_ | refine WV_block ?_ | refine WV_ops ?_ | refine WV_skip ?_ | refine WV_exit ?_); (try simp only [go_sem, init_env', Nat.reduceEqDiff, Nat.reduceAdd, Nat.reduceMul, reduceIte, Nat.reduceLeDiff, Nat.reduceLT, Nat.reduceBEq, reduceCtorEq, hP, ]); (repeat (refine And.intro (by first | omega | (intros; simp_all; done) | (intros; simp_all; omega)) ?_))))
        (refine WV_ret ?_; simp only [thenQ, inQ, RetQ, RetOk, resAll, resA]; simp only [go_sem, init_env', Nat.reduceEqDiff, Nat.reduceAdd, Nat.reduceMul, reduceIte, Nat.reduceLeDiff, Nat.reduceLT, Nat.reduceBEq, reduceCtorEq, tupA, AV.port, AV.portL, exists_eq_left', ]; (first | exact AVle.of rfl | refine AVle.of ?_ | skip))
    | none =>
      simp only at e0
      rw [e0]
      (repeat ((first | refine WV_seq_ ?_ | refine WV_block ?_ | refine WV_ops ?_ | refine WV_skip ?_ | refine WV_exit ?_); (try simp only [go_sem, init_env', Nat.reduceEqDiff, Nat.reduceAdd, Nat.reduceMul, reduceIte, Nat.reduceLeDiff, Nat.reduceLT, Nat.reduceBEq, reduceCtorEq, hP, ]); (repeat (refine And.intro (by first | omega | (intros; simp_all; done) | (intros; simp_all; omega)) ?_))))
      (refine WV_cond rfl (fun h => ?_) (fun h => ?_))
      · (repeat ((first | refine WV_seq_ ?_ | refine WV_block ?_ | refine WV_ops ?_ | refine WV_skip ?_ | refine WV_exit ?_); (try simp only [go_sem, init_env', Nat.reduceEqDiff, Nat.reduceAdd, Nat.reduceMul, reduceIte, Nat.reduceLeDiff, Nat.reduceLT, Nat.reduceBEq, reduceCtorEq, hP, ]); (repeat (refine And.intro (by first | omega | (intros; simp_all; done) | (intros; simp_all; omega)) ?_))))
        (refine WV_ret ?_; simp only [thenQ, inQ, RetQ, RetOk, resAll, resA]; simp only [go_sem, init_env', Nat.reduceEqDiff, Nat.reduceAdd, Nat.reduceMul, reduceIte, Nat.reduceLeDiff, Nat.reduceLT, Nat.reduceBEq, reduceCtorEq, tupA, AV.port, AV.portL, exists_eq_left', ]; (first | exact AVle.of rfl | refine AVle.of ?_ | skip))
      · simp at h
end Go.Proofs.Ytbejgfpaokcnpaa

namespace Go.Proofs.Ytbejgfpaokcnpaa
open Go Go.V
@[reducible] def o63_0 : List Ins := [⟨(some 2), .box 3 (.t 0), none, true⟩,
  ⟨(some 4), .mv (.k (.c (.raw (.slice none 0 0)))), none, true⟩]
@[reducible] def o63_1 : List Ins := [⟨(some 7), .mv (.t 1), none, true⟩,
  ⟨(some 8), .bsl 33 1 [(.t 7)], none, true⟩,
  ⟨(some 5), .mv (.t 8), none, true⟩]
@[reducible] def o63_2 : List Ins := [⟨(some 6), .mv (.k (.c (.int .i64 0))), none, true⟩]
@[reducible] def o63_3 : List Ins := [⟨(some 9), .mv (.t 6), none, true⟩,
  ⟨(some 10), .fa 0 (.t 2), none, true⟩,
  ⟨(some 11), .ld true 1 (.t 10), none, true⟩,
  ⟨(some 12), .len (.t 11), none, true⟩,
  ⟨(some 13), .bin .lss (.t 9) (.t 12), none, true⟩]
@[reducible] def v63_4 : VC := (.cond (.t 13) .skip (.exit 0))
@[reducible] def o63_5 : List Ins := [⟨(some 16), .mv (.t 1), none, true⟩,
  ⟨(some 17), .mv (.t 6), none, true⟩,
  ⟨(some 18), .call (.k (.fn 56 [])) [(.t 16), (.t 17)], none, true⟩,
  ⟨(some 19), .un .not (.t 18), none, true⟩]
@[reducible] def t63_6 : OT := (.cons ⟨(some 20), .mv (.t 5), none, false⟩
  (.cons ⟨(some 21), .ld false 3 (.t 2), none, false⟩
  (.cons ⟨(some 23), .mv (.t 1), none, false⟩
  (.cons ⟨(some 25), .mv (.t 6), none, false⟩
  (.br [(.cons ⟨(some 22), .bsl 3 1 [], none, false⟩
    (.br [(.cons ⟨(some 24), .app 3 1 8 (.t 22) (.t 23), none, false⟩
      (.cons ⟨(some 26), .bsl 3 1 [(.t 25)], none, false⟩
      (.cons ⟨(some 27), .app 3 1 8 (.t 24) (.t 26), none, false⟩
      (.cons ⟨(some 28), .call (.k (.fn 63 [])) [(.t 21), (.t 27)], none, false⟩
      (.cons ⟨(some 29), .app 33 1 24 (.t 20) (.t 28), none, true⟩
      (.cons ⟨(some 5), .mv (.t 29), none, true⟩
      .nil)))))), (.cons ⟨(some 26), .bsl 3 1 [(.t 25)], none, false⟩
      (.cons ⟨(some 24), .app 3 1 8 (.t 22) (.t 23), none, false⟩
      (.cons ⟨(some 27), .app 3 1 8 (.t 24) (.t 26), none, false⟩
      (.cons ⟨(some 28), .call (.k (.fn 63 [])) [(.t 21), (.t 27)], none, false⟩
      (.cons ⟨(some 29), .app 33 1 24 (.t 20) (.t 28), none, true⟩
      (.cons ⟨(some 5), .mv (.t 29), none, true⟩
      .nil))))))])), (.cons ⟨(some 26), .bsl 3 1 [(.t 25)], none, false⟩
    (.cons ⟨(some 22), .bsl 3 1 [], none, false⟩
    (.cons ⟨(some 24), .app 3 1 8 (.t 22) (.t 23), none, false⟩
    (.cons ⟨(some 27), .app 3 1 8 (.t 24) (.t 26), none, false⟩
    (.cons ⟨(some 28), .call (.k (.fn 63 [])) [(.t 21), (.t 27)], none, false⟩
    (.cons ⟨(some 29), .app 33 1 24 (.t 20) (.t 28), none, true⟩
    (.cons ⟨(some 5), .mv (.t 29), none, true⟩
    .nil)))))))])))))
@[reducible] def v63_7 : VC := (.cond (.t 19) (.drw t63_6) .skip)
@[reducible] def v63_8 : VC := (.seq (.ops o63_5) v63_7)
@[reducible] def o63_9 : List Ins := [⟨(some 14), .mv (.t 6), none, true⟩,
  ⟨(some 15), .bin .add (.t 14) (.k (.c (.int .i64 1))), none, true⟩,
  ⟨(some 6), .mv (.t 15), none, true⟩]
@[reducible] def v63_10 : VC := (.seq (.block 1 v63_8) (.ops o63_9))
@[reducible] def v63_11 : VC := (.seq (.seq (.ops o63_3) v63_4) v63_10)
-- K63_1: changed and kept: [6, 5]
@[reducible] def K63_1 : List Nat := [1, 2]
@[reducible] def v63_12 : VC := (.loop v63_11)
@[reducible] def v63_13 : VC := (.block 0 v63_12)
@[reducible] def o63_14 : List Ins := [⟨(some 30), .mv (.t 5), none, true⟩,
  ⟨(some 4), .mv (.t 30), none, true⟩]
@[reducible] def v63_15 : VC := (.seq (.ops o63_14) .ret)
@[reducible] def v63_16 : VC := (.seq (.seq (.ops o63_2) v63_13) v63_15)
@[reducible] def v63_17 : VC := (.seq (.ops o63_1) v63_16)
def ir63 : FC := ⟨2, 31, [.t 4], (.seq (.ops o63_0) v63_17)⟩
theorem c63 : compM Try.prog [] 63 = some ir63 := by kernel_rfl



/-- All tours that begin with t, of at most f more stops. -/
def toursR (n : Nat) : Nat → List Nat → List (List Nat)
  | 0, t => [t]
  | f + 1, t => t :: (List.range n).flatMap fun k => if k ∈ t then [] else toursR n f (t ++ [k])
def moreR (n f : Nat) (t : List Nat) (k : Nat) : List (List Nat) := if k ∈ t then [] else toursR n f (t ++ [k])
def natss (l : List (List Nat)) : List (List CD) := l.map fun t => [nats t]
theorem toursR_count {n : Nat} (hn : n ≤ 7) : ∀ (f : Nat) (t : List Nat), (toursR n f t).length ≤ 8 ^ f
  | 0, t => by simp [toursR]
  | f + 1, t => by
    have ih := toursR_count hn f
    have h : ∀ l : List Nat, (l.flatMap fun k => if k ∈ t then [] else toursR n f (t ++ [k])).length ≤ l.length * 8 ^ f := by
      intro l
      induction l with
      | nil => simp
      | cons a l ihl =>
        rw [List.flatMap_cons, List.length_append, List.length_cons, Nat.add_mul]
        have : (if a ∈ t then [] else toursR n f (t ++ [a])).length ≤ 8 ^ f := by
          split
          · simp
          · exact ih _
        omega
    have := h (List.range n)
    simp only [List.length_range] at this
    simp only [toursR, List.length_cons]
    have h8 : 8 ^ (f + 1) = 8 * 8 ^ f := by rw [Nat.pow_succ, Nat.mul_comm]
    have hp : 0 < 8 ^ f := Nat.pow_pos (by decide)
    have h7 : n * 8 ^ f ≤ 7 * 8 ^ f := Nat.mul_le_mul_right _ hn
    omega
theorem moreR_count {n f : Nat} (hn : n ≤ 7) (hf : f ≤ 7) (t : List Nat) (k : Nat) : (moreR n f t k).length ≤ 2097152 := by
  unfold moreR
  split
  · simp
  · refine Nat.le_trans (toursR_count hn f _) ?_
    exact Nat.le_trans (Nat.pow_le_pow_right (by decide) hf) (by decide)
theorem mores_count {n f : Nat} (hn : n ≤ 7) (hf : f ≤ 7) (t : List Nat) : ∀ l : List Nat, (l.flatMap (moreR n f t)).length ≤ l.length * 2097152
  | [] => by simp
  | k :: l => by
    have := mores_count hn hf t l
    have hk := moreR_count hn hf t k
    rw [List.flatMap_cons, List.length_append, List.length_cons, Nat.add_mul]
    omega

theorem ints_one (l : List Int) : ((l.map fun n => [CD.int .i64 n]).all fun e => e.length == 1) = true := by
  rw [List.all_eq_true]; intro e he; obtain ⟨n, _, rfl⟩ := List.mem_map.1 he; rfl
theorem natss_one (l : List (List Nat)) : ((natss l).all fun e => e.length == 1) = true := by
  unfold natss
  rw [List.all_eq_true]; intro e he; obtain ⟨n, _, rfl⟩ := List.mem_map.1 he; rfl
theorem natss_len (l : List (List Nat)) : (natss l).length = l.length := by simp [natss]

set_option maxHeartbeats 4000000 in
theorem rtours63 {r : Route} (hn7 : r.n ≤ 7) : ∀ (f : Nat) (t : List Nat), t.length + f = r.n + 1 → t.Nodup → (∀ k ∈ t, k < r.n) → FSpec Try.prog 63 [r.av, .c (nats t)] (.c (.sl 1 (natss (toursR r.n f t)))) := by
  intro f
  induction f with
  | zero =>
    intro t hf hnd hlt
    have := tour_len hnd hlt
    omega
  | succ f ih =>
    intro t hf hnd hlt
    have hsl : (r.stops.length : Int) = (r.n : Int) := rfl
    have hmax : maxLen = 9223372036854775807 := rfl
    refine FSpec_of c63 (Nat.le_refl _) (by decide) fun C hP hN hC hL => ?_
    simp only [ir63, Route.av]
    (repeat ((first | refine WV_seq_ ?_ | refine WV_block ?_ | refine WV_ops ?_ | refine WV_skip ?_ | refine WV_exit ?_); (try simp only [go_sem, init_env', Nat.reduceEqDiff, Nat.reduceAdd, Nat.reduceMul, reduceIte, Nat.reduceLeDiff, Nat.reduceLT, Nat.reduceBEq, reduceCtorEq, hP, ]); (repeat (refine And.intro (by first | omega | (intros; simp_all; done) | (intros; simp_all; omega)) ?_))))
    refine WV_freeze 2 (ds := r.cds) rfl rfl ?_
    simp only [go_sem, init_env', Nat.reduceEqDiff, Nat.reduceAdd, Nat.reduceMul, reduceIte, Nat.reduceLeDiff, Nat.reduceLT, Nat.reduceBEq, reduceCtorEq]
    refine WV_loopK K63_1 [8, 29] (fun s : Nat × Nat => s.1 ≤ r.n ∧ (s.2 = 8 ∨ s.2 = 29)) (fun s => r.n - s.1) (fun s => [(6, iv s.1), (5, .gr s.2)])
      (fun s => [(s.2, .grow 33 1 (natss (t :: (List.range s.1).flatMap (moreR r.n f t))))]) (0, 8) ⟨Nat.zero_le _, .inl rfl⟩ ?_ ?_
    · (refine Sub_of (by simp only [go_sem, init_env', Nat.reduceEqDiff, Nat.reduceAdd, Nat.reduceMul, reduceIte, Nat.reduceLeDiff, Nat.reduceLT, Nat.reduceBEq, reduceCtorEq]; ((repeat' (first | exact EnvLe_e0 _ _ | refine EnvLe_upd ?_ ?_)) <;> ((try simp only [upd_app, e0_app, o0_app, Nat.reduceEqDiff, reduceIte]); first | exact AWk.refl _ _ | exact AWk.int (by omega) | exact AWk.int (by rw [w64 (by omega) (by omega)]; omega) | exact AWk.grow rfl | exact AWk.nil _ | exact AWk.of (by simp [natss])))) (by simp only [go_sem, init_env', Nat.reduceEqDiff, Nat.reduceAdd, Nat.reduceMul, reduceIte, Nat.reduceLeDiff, Nat.reduceLT, Nat.reduceBEq, reduceCtorEq]; ((repeat' (first | exact ObjLe_o0 _ | exact ObjLe.rfl' _ | refine ObjLe_same ?_ | refine ObjLe_upd ?_ ?_ | refine ObjLe_new rfl ?_)) <;> rfl)))
    · rintro ⟨k, o⟩ ⟨hk, ho⟩
      simp only at hk ho
      have hmc := mores_count hn7 (f := f) (by omega) t (List.range k)
      rw [List.length_range] at hmc
      generalize hD : (List.range k).flatMap (moreR r.n f t) = D at *
      obtain ⟨o', ho'⟩ : ∃ o', o' = o := ⟨o, rfl⟩
      rcases ho with rfl | rfl
      all_goals
        simp only [go_sem, init_env', Nat.reduceEqDiff, Nat.reduceAdd, Nat.reduceMul, reduceIte, Nat.reduceLeDiff, Nat.reduceLT, Nat.reduceBEq, reduceCtorEq]
        (repeat ((first | refine WV_seq_ ?_ | refine WV_block ?_ | refine WV_ops ?_ | refine WV_skip ?_ | refine WV_exit ?_); (try simp only [go_sem, init_env', Nat.reduceEqDiff, Nat.reduceAdd, Nat.reduceMul, reduceIte, Nat.reduceLeDiff, Nat.reduceLT, Nat.reduceBEq, reduceCtorEq, hP, Route.cds, stopsC]); (repeat (refine And.intro (by first | omega | (intros; simp_all; done) | (intros; simp_all; omega)) ?_))))
        (refine WV_cond rfl (fun h => ?_) (fun h => ?_))
        · have h : k < r.n := by rw [hsl] at h; simpa using h
          have hmk := moreR_count hn7 (f := f) (by omega) t k
          have hw2 := w64 (n := (k : Int) + 1) (by omega) (by omega)
          (repeat ((first | refine WV_seq_ ?_ | refine WV_block ?_ | refine WV_ops ?_ | refine WV_skip ?_ | refine WV_exit ?_); (try simp only [go_sem, init_env', Nat.reduceEqDiff, Nat.reduceAdd, Nat.reduceMul, reduceIte, Nat.reduceLeDiff, Nat.reduceLT, Nat.reduceBEq, reduceCtorEq, hP, ]); (repeat (refine And.intro (by first | omega | (intros; simp_all; done) | (intros; simp_all; omega)) ?_))))
          (refine AS_pure (in56 (t.map fun (k : Nat) => (k : Int)) k) rfl rfl rfl rfl rfl ?_; simp only [go_sem, init_env', Nat.reduceEqDiff, Nat.reduceAdd, Nat.reduceMul, reduceIte, Nat.reduceLeDiff, Nat.reduceLT, Nat.reduceBEq, reduceCtorEq, hP, ]; (repeat (refine And.intro (by first | omega | (intros; simp_all; done) | (intros; simp_all; omega)) ?_)); (repeat ((first | refine WV_seq_ ?_ | refine WV_block ?_ | refine WV_ops ?_ | refine WV_skip ?_ | refine WV_exit ?_); (try simp only [go_sem, init_env', Nat.reduceEqDiff, Nat.reduceAdd, Nat.reduceMul, reduceIte, Nat.reduceLeDiff, Nat.reduceLT, Nat.reduceBEq, reduceCtorEq, hP, ]); (repeat (refine And.intro (by first | omega | (intros; simp_all; done) | (intros; simp_all; omega)) ?_)))))
          rw [mem_cast]
          have eD : (List.range (k + 1)).flatMap (moreR r.n f t) = D ++ moreR r.n f t k := by rw [List.range_succ, List.flatMap_append, hD]; simp
          (refine WV_cond rfl (fun h => ?_) (fun h => ?_))
          · have h : k ∉ t := by simpa using h
            have e : moreR r.n f t k = toursR r.n f (t ++ [k]) := if_neg h
            rw [e] at eD hmk
            have hsp := ih (t ++ [k]) (by simp; omega) (by
              rw [List.nodup_append]
              exact ⟨hnd, by simp, fun a ha b hb => by simp at hb; subst hb; rintro rfl; exact h ha⟩) (by
              intro j hj
              rcases List.mem_append.1 hj with hj | hj
              · exact hlt j hj
              · simp at hj; omega)
            have htl := tour_len hnd hlt
            have hlen : (natss (t :: D)).length = D.length + 1 := by simp [natss]
            (refine WV_drw ?_; simp only [go_sem, init_env', Nat.reduceEqDiff, Nat.reduceAdd, Nat.reduceMul, reduceIte, Nat.reduceLeDiff, Nat.reduceLT, Nat.reduceBEq, reduceCtorEq, hP, nats, ints, ints_one, hlen]; (repeat' (refine And.intro ?_ ?_)))
            all_goals first
            | omega
            | skip
            all_goals
              refine ACall_of hsp rfl rfl rfl ?_ rfl ?_
              · simp only [go_sem, init_env', Nat.reduceEqDiff, Nat.reduceAdd, Nat.reduceMul, reduceIte, Nat.reduceLeDiff, Nat.reduceLT, Nat.reduceBEq, reduceCtorEq, AV.portL, AV.port, Route.av, Route.cds, stopsC, nats, ints]
              · simp only [go_sem, init_env', Nat.reduceEqDiff, Nat.reduceAdd, Nat.reduceMul, reduceIte, Nat.reduceLeDiff, Nat.reduceLT, Nat.reduceBEq, reduceCtorEq, hP, AV.elems, natss_one, natss_len, List.length_append]
                (repeat' (refine And.intro ?_ ?_))
                all_goals first
                | omega
                | skip
                all_goals
                  have eN : natss (t :: (D ++ toursR r.n f (t ++ [k]))) = natss (t :: D) ++ natss (toursR r.n f (t ++ [k])) := by simp [natss]
                  (repeat ((first | refine WV_seq_ ?_ | refine WV_block ?_ | refine WV_ops ?_ | refine WV_skip ?_ | refine WV_exit ?_); (try simp only [go_sem, init_env', Nat.reduceEqDiff, Nat.reduceAdd, Nat.reduceMul, reduceIte, Nat.reduceLeDiff, Nat.reduceLT, Nat.reduceBEq, reduceCtorEq, hP, hw2]); (repeat (refine And.intro (by first | omega | (intros; simp_all; done) | (intros; simp_all; omega)) ?_))))
                  refine ⟨(k + 1, 29), ⟨by omega, .inr rfl⟩, by simp only; omega, ?_⟩
                  simp only [eD, eN]
                  (refine Sub_of (by simp only [go_sem, init_env', Nat.reduceEqDiff, Nat.reduceAdd, Nat.reduceMul, reduceIte, Nat.reduceLeDiff, Nat.reduceLT, Nat.reduceBEq, reduceCtorEq]; ((repeat' (first | exact EnvLe_e0 _ _ | refine EnvLe_upd ?_ ?_)) <;> ((try simp only [upd_app, e0_app, o0_app, Nat.reduceEqDiff, reduceIte]); first | exact AWk.refl _ _ | exact AWk.int (by omega) | exact AWk.int (by rw [w64 (by omega) (by omega)]; omega) | exact AWk.grow rfl | exact AWk.nil _ | exact AWk.of (by simp)))) (by simp only [go_sem, init_env', Nat.reduceEqDiff, Nat.reduceAdd, Nat.reduceMul, reduceIte, Nat.reduceLeDiff, Nat.reduceLT, Nat.reduceBEq, reduceCtorEq]; ((repeat' (first | exact ObjLe_o0 _ | exact ObjLe.rfl' _ | refine ObjLe_same ?_ | refine ObjLe_upd ?_ ?_ | refine ObjLe_new rfl ?_)) <;> rfl)))
          · have h : k ∈ t := by simpa using h
            have e : moreR r.n f t k = [] := if_pos h
            rw [e, List.append_nil] at eD
            (repeat ((first | refine WV_seq_ ?_ | refine WV_block ?_ | refine WV_ops ?_ | refine WV_skip ?_ | refine WV_exit ?_); (try simp only [go_sem, init_env', Nat.reduceEqDiff, Nat.reduceAdd, Nat.reduceMul, reduceIte, Nat.reduceLeDiff, Nat.reduceLT, Nat.reduceBEq, reduceCtorEq, hP, hw2]); (repeat (refine And.intro (by first | omega | (intros; simp_all; done) | (intros; simp_all; omega)) ?_))))
            refine ⟨(k + 1, o'), ⟨by omega, by simp only; omega⟩, by simp only; omega, ?_⟩
            subst ho'
            simp only [eD]
            (refine Sub_of (by simp only [go_sem, init_env', Nat.reduceEqDiff, Nat.reduceAdd, Nat.reduceMul, reduceIte, Nat.reduceLeDiff, Nat.reduceLT, Nat.reduceBEq, reduceCtorEq]; ((repeat' (first | exact EnvLe_e0 _ _ | refine EnvLe_upd ?_ ?_)) <;> ((try simp only [upd_app, e0_app, o0_app, Nat.reduceEqDiff, reduceIte]); first | exact AWk.refl _ _ | exact AWk.int (by omega) | exact AWk.int (by rw [w64 (by omega) (by omega)]; omega) | exact AWk.grow rfl | exact AWk.nil _ | exact AWk.of (by simp)))) (by simp only [go_sem, init_env', Nat.reduceEqDiff, Nat.reduceAdd, Nat.reduceMul, reduceIte, Nat.reduceLeDiff, Nat.reduceLT, Nat.reduceBEq, reduceCtorEq]; ((repeat' (first | exact ObjLe_o0 _ | exact ObjLe.rfl' _ | refine ObjLe_same ?_ | refine ObjLe_upd ?_ ?_ | refine ObjLe_new rfl ?_)) <;> rfl)))
        · have h : k = r.n := by rw [hsl] at h; simp at h; omega
          subst h
          (repeat ((first | refine WV_seq_ ?_ | refine WV_block ?_ | refine WV_ops ?_ | refine WV_skip ?_ | refine WV_exit ?_); (try simp only [go_sem, init_env', Nat.reduceEqDiff, Nat.reduceAdd, Nat.reduceMul, reduceIte, Nat.reduceLeDiff, Nat.reduceLT, Nat.reduceBEq, reduceCtorEq, hP, ]); (repeat (refine And.intro (by first | omega | (intros; simp_all; done) | (intros; simp_all; omega)) ?_))))
          (refine WV_ret ?_; simp only [thenQ, inQ, RetQ, RetOk, resAll, resA]; simp only [go_sem, init_env', Nat.reduceEqDiff, Nat.reduceAdd, Nat.reduceMul, reduceIte, Nat.reduceLeDiff, Nat.reduceLT, Nat.reduceBEq, reduceCtorEq, tupA, AV.port, AV.portL, exists_eq_left', ]; (first | exact AVle.of rfl | refine AVle.of ?_ | skip))
          subst hD
          rfl
end Go.Proofs.Ytbejgfpaokcnpaa
