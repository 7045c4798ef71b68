/-
  Contracts of the layer's functions, of the laws' helpers and of the law; conditions: as each theorem states.
-/
import Derived.Test.YtbejgfpaokcnpaaU5
import Derived.Test.YtbejgfpaokcnpaaU4
set_option linter.unusedVariables false
set_option linter.unusedSimpArgs false
namespace Go.Proofs.Ytbejgfpaokcnpaa
open Go Go.V
@[reducible] def o40_0 : List Ins := [⟨(some 2), .box 3 (.t 0), none, true⟩,
  ⟨(some 3), .box 8 (.t 1), none, true⟩,
  ⟨(some 4), .alloc [(.c (.raw (.slice none 0 0))), (.c (.raw (.slice none 0 0))), (.c (.int .i64 0))], none, true⟩]
@[reducible] def o40_1 : List Ins := [⟨(some 7), .ld false 3 (.t 2), none, true⟩,
  ⟨(some 8), .call (.k (.fn 17 [])) [(.t 7)], none, true⟩,
  ⟨(some 5), .alloc [(.c (.raw (.slice none 0 0))), (.c (.raw (.slice none 0 0))), (.c (.int .i64 0))], none, true⟩,
  ⟨none, .st 3 (.t 5) (.t 8), none, true⟩]
@[reducible] def o40_2 : List Ins := [⟨(some 9), .fa 2 (.t 5), none, true⟩,
  ⟨(some 10), .ld true 1 (.t 9), none, true⟩,
  ⟨(some 11), .fa 4 (.t 3), none, true⟩,
  ⟨(some 12), .ld true 1 (.t 11), none, true⟩,
  ⟨(some 13), .bin .sub (.t 10) (.t 12), none, true⟩,
  ⟨(some 14), .fa 2 (.t 5), none, true⟩,
  ⟨none, .st 1 (.t 14) (.t 13), none, true⟩]
@[reducible] def o40_3 : List Ins := [⟨(some 15), .fa 0 (.t 3), none, true⟩,
  ⟨(some 16), .ld true 1 (.t 15), none, true⟩,
  ⟨(some 17), .bin .geq (.t 16) (.k (.c (.int .i64 0))), none, true⟩,
  ⟨(some 18), .mv (.t 17), none, true⟩,
  ⟨(some 19), .fa 0 (.t 3), (some (18, true)), true⟩,
  ⟨(some 20), .ld true 1 (.t 19), (some (18, true)), true⟩,
  ⟨(some 21), .fa 0 (.t 5), (some (18, true)), true⟩,
  ⟨(some 22), .ld true 1 (.t 21), (some (18, true)), true⟩,
  ⟨(some 23), .len (.t 22), (some (18, true)), true⟩,
  ⟨(some 24), .bin .lss (.t 20) (.t 23), (some (18, true)), true⟩,
  ⟨(some 25), .pick (.t 18) (.t 24) (.k (.c (.bool false))), none, true⟩]
@[reducible] def o40_4 : List Ins := [⟨(some 26), .fa 0 (.t 5), none, true⟩,
  ⟨(some 27), .ld true 1 (.t 26), none, true⟩,
  ⟨(some 28), .fa 0 (.t 3), none, true⟩,
  ⟨(some 29), .ld true 1 (.t 28), none, true⟩,
  ⟨(some 30), .ia 4 (.t 27) (.t 29), none, true⟩,
  ⟨(some 31), .ld false 4 (.t 30), none, true⟩,
  ⟨(some 6), .alloc [(.c (.int .i64 0)), (.c (.int .i64 0)), (.c (.int .i64 0)), (.c (.int .i64 0))], none, true⟩,
  ⟨none, .st 4 (.t 6) (.t 31), none, true⟩]
@[reducible] def o40_5 : List Ins := [⟨(some 32), .fa 0 (.t 5), none, true⟩,
  ⟨(some 33), .ld true 1 (.t 32), none, true⟩,
  ⟨(some 34), .fa 0 (.t 3), none, true⟩,
  ⟨(some 35), .ld true 1 (.t 34), none, true⟩,
  ⟨(some 36), .fa 0 (.t 6), none, true⟩,
  ⟨(some 37), .ld true 1 (.t 36), none, true⟩,
  ⟨(some 38), .fa 1 (.t 3), none, true⟩,
  ⟨(some 39), .ld true 1 (.t 38), none, true⟩,
  ⟨(some 40), .bin .sub (.t 37) (.t 39), none, true⟩,
  ⟨(some 41), .fa 1 (.t 6), none, true⟩,
  ⟨(some 42), .ld true 1 (.t 41), none, true⟩,
  ⟨(some 43), .fa 2 (.t 3), none, true⟩,
  ⟨(some 44), .ld true 1 (.t 43), none, true⟩,
  ⟨(some 45), .bin .add (.t 42) (.t 44), none, true⟩,
  ⟨(some 46), .fa 2 (.t 6), none, true⟩,
  ⟨(some 47), .ld true 1 (.t 46), none, true⟩,
  ⟨(some 48), .fa 3 (.t 3), none, true⟩,
  ⟨(some 49), .ld true 1 (.t 48), none, true⟩,
  ⟨(some 50), .bin .sub (.t 47) (.t 49), none, true⟩,
  ⟨(some 51), .fa 3 (.t 6), none, true⟩,
  ⟨(some 52), .ld true 1 (.t 51), none, true⟩,
  ⟨(some 53), .bld [(.c (.int .i64 0)), (.c (.int .i64 0)), (.c (.int .i64 0)), (.c (.int .i64 0))] [(0, 1, (.t 40)), (1, 1, (.t 45)), (2, 1, (.t 50)), (3, 1, (.t 52))], none, true⟩,
  ⟨(some 54), .ia 4 (.t 33) (.t 35), none, true⟩,
  ⟨none, .st 4 (.t 54) (.t 53), none, true⟩]
@[reducible] def v40_6 : VC := (.seq (.ops o40_4) (.ops o40_5))
@[reducible] def v40_7 : VC := (.cond (.t 25) v40_6 .skip)
@[reducible] def o40_8 : List Ins := [⟨(some 55), .fa 5 (.t 3), none, true⟩,
  ⟨(some 56), .ld true 1 (.t 55), none, true⟩,
  ⟨(some 57), .bin .geq (.t 56) (.k (.c (.int .i64 0))), none, true⟩,
  ⟨(some 58), .mv (.t 57), none, true⟩,
  ⟨(some 59), .fa 5 (.t 3), (some (58, true)), true⟩,
  ⟨(some 60), .ld true 1 (.t 59), (some (58, true)), true⟩,
  ⟨(some 61), .fa 1 (.t 5), (some (58, true)), true⟩,
  ⟨(some 62), .ld true 1 (.t 61), (some (58, true)), true⟩,
  ⟨(some 63), .len (.t 62), (some (58, true)), true⟩,
  ⟨(some 64), .bin .lss (.t 60) (.t 63), (some (58, true)), true⟩,
  ⟨(some 65), .pick (.t 58) (.t 64) (.k (.c (.bool false))), none, true⟩,
  ⟨(some 66), .mv (.t 65), none, true⟩,
  ⟨(some 67), .fa 6 (.t 3), (some (66, true)), true⟩,
  ⟨(some 68), .ld true 1 (.t 67), (some (66, true)), true⟩,
  ⟨(some 69), .bin .geq (.t 68) (.k (.c (.int .i64 0))), (some (66, true)), true⟩,
  ⟨(some 70), .pick (.t 66) (.t 69) (.k (.c (.bool false))), none, true⟩,
  ⟨(some 71), .mv (.t 70), none, true⟩,
  ⟨(some 72), .fa 6 (.t 3), (some (71, true)), true⟩,
  ⟨(some 73), .ld true 1 (.t 72), (some (71, true)), true⟩,
  ⟨(some 74), .fa 1 (.t 5), (some (71, true)), true⟩,
  ⟨(some 75), .ld true 1 (.t 74), (some (71, true)), true⟩,
  ⟨(some 76), .len (.t 75), (some (71, true)), true⟩,
  ⟨(some 77), .bin .lss (.t 73) (.t 76), (some (71, true)), true⟩,
  ⟨(some 78), .pick (.t 71) (.t 77) (.k (.c (.bool false))), none, true⟩]
@[reducible] def o40_9 : List Ins := [⟨(some 79), .fa 1 (.t 5), none, false⟩,
  ⟨(some 80), .ld true 1 (.t 79), none, false⟩,
  ⟨(some 81), .fa 5 (.t 3), none, false⟩,
  ⟨(some 82), .ld true 1 (.t 81), none, false⟩,
  ⟨(some 83), .ia 1 (.t 80) (.t 82), none, false⟩,
  ⟨(some 84), .ld true 1 (.t 83), none, false⟩,
  ⟨(some 85), .fa 6 (.t 3), none, false⟩,
  ⟨(some 86), .ld true 1 (.t 85), none, false⟩,
  ⟨(some 87), .ia 1 (.t 84) (.t 86), none, false⟩,
  ⟨(some 88), .ld true 1 (.t 87), none, false⟩,
  ⟨(some 89), .fa 7 (.t 3), none, false⟩,
  ⟨(some 90), .ld true 1 (.t 89), none, false⟩,
  ⟨(some 91), .bin .sub (.t 88) (.t 90), none, true⟩,
  ⟨(some 92), .ia 1 (.t 84) (.t 86), none, true⟩,
  ⟨none, .st 1 (.t 92) (.t 91), none, true⟩]
@[reducible] def v40_10 : VC := (.cond (.t 78) (.ops o40_9) .skip)
@[reducible] def o40_11 : List Ins := [⟨(some 93), .ld false 3 (.t 5), none, true⟩,
  ⟨none, .st 3 (.t 4) (.t 93), none, true⟩]
@[reducible] def v40_12 : VC := (.seq (.ops o40_11) .ret)
@[reducible] def v40_13 : VC := (.seq (.seq (.ops o40_8) v40_10) v40_12)
@[reducible] def v40_14 : VC := (.seq (.seq (.ops o40_3) v40_7) v40_13)
@[reducible] def v40_15 : VC := (.seq (.ops o40_2) v40_14)
@[reducible] def v40_16 : VC := (.seq (.ops o40_1) v40_15)
def ir40 : FC := ⟨2, 94, [.cell 4 false 3], (.seq (.ops o40_0) v40_16)⟩
theorem c40 : compM Try.prog [] 40 = some ir40 := by kernel_rfl



structure Ease where
  stop : Int
  op : Int
  cl : Int
  st : Int
  start : Int
  frm : Int
  to : Int
  drive : Int
def Ease.av (x : Ease) : AV := .agg [iv x.stop, iv x.op, iv x.cl, iv x.st, iv x.start, iv x.frm, iv x.to, iv x.drive]
def Ease.ok (x : Ease) : Prop := (0 ≤ x.op ∧ x.op ≤ 1440) ∧ (0 ≤ x.cl ∧ x.cl ≤ 1440) ∧ (0 ≤ x.st ∧ x.st ≤ 1440) ∧ (0 ≤ x.start ∧ x.start ≤ 1440) ∧ (0 ≤ x.drive ∧ x.drive ≤ 1440)
def easeStop (x : Ease) (s : Stop) : Stop := ⟨s.op - x.op, s.cl + x.cl, s.st - x.st, s.ca⟩
def easedR (r : Route) (x : Ease) : Route :=
  ⟨if 0 ≤ x.stop ∧ x.stop < r.n then r.stops.set x.stop.toNat (easeStop x (r.s x.stop.toNat)) else r.stops,
   if 0 ≤ x.frm ∧ x.frm < r.drive.length ∧ 0 ≤ x.to ∧ x.to < r.drive.length then r.drive.set x.frm.toNat ((r.drive.getD x.frm.toNat []).set x.to.toNat (r.d x.frm.toNat x.to.toNat - x.drive)) else r.drive,
   r.start - x.start⟩

def eS (r : Route) (x : Ease) (cap j dcap dj : Nat) (S : List Stop) (R : List (Row Int)) : St := ⟨upd (upd (upd e0 3 (.bp 3 0)) 4 (.bp 4 0)) 5 (.bp 5 0),
  fam 700 icds R (upd (upd (upd (upd (upd o0 3 (.box [iv x.stop, iv x.op, iv x.cl, iv x.st, iv x.start, iv x.frm, iv x.to, iv x.drive])) 4 (.box [.c (.raw (.slice none 0 0)), .c (.raw (.slice none 0 0)), iv 0])) 600 (.box (cellsG Stop.cds S j))) 601 (.box (refs 700 1 0 R ++ List.replicate dj .non))) 5 (.box [.vw 4 600 0 r.stops.length cap, .vw 1 601 0 R.length dcap, iv (r.start - x.start)]))⟩
def eS0 (r : Route) (x : Ease) (dcap dj : Nat) (R : List (Row Int)) : St := ⟨upd (upd (upd e0 3 (.bp 3 0)) 4 (.bp 4 0)) 5 (.bp 5 0),
  fam 700 icds R (upd (upd (upd (upd (upd o0 3 (.box [iv x.stop, iv x.op, iv x.cl, iv x.st, iv x.start, iv x.frm, iv x.to, iv x.drive])) 4 (.box [.c (.raw (.slice none 0 0)), .c (.raw (.slice none 0 0)), iv 0])) 600 (.grow 53 4 [])) 601 (.box (refs 700 1 0 R ++ List.replicate dj .non))) 5 (.box [.gr 600, .vw 1 601 0 R.length dcap, iv (r.start - x.start)]))⟩
set_option maxRecDepth 20000 in
set_option maxHeartbeats 8000000 in
theorem eased40 {r : Route} (hrk : r.ok = true) (hnear : near r = true) (x : Ease) (hx : x.ok) : FSpec Try.prog 40 [r.av, x.av] (easedR r x).av := by
  have hr := Route.ok_spec hrk
  obtain ⟨x1, x2, x3, x4, x5⟩ := hx
  have hmax : maxLen = 9223372036854775807 := rfl
  have hdl := hr.dl
  have hn7 := hr.n7
  have hrow := hr.row
  have hd0 : r.drive ≠ [] := fun h => by rw [h] at hdl; simp at hdl
  have hrows : ∀ l ∈ r.drive, l ≠ [] := fun l hl h => by
    obtain ⟨i, hi, rfl⟩ := List.getElem_of_mem hl
    have := hrow i (by omega)
    rw [List.getD_eq_getElem?_getD, List.getElem?_eq_getElem hi] at this
    simp [h] at this
  have hst := hr.st
  have hw1 := w64 (n := r.start - x.start) (by omega) (by omega)
  refine FSpec_of c40 (Nat.le_refl _) (by decide) fun C hP hN hC hL => ?_
  simp only [ir40, Route.av, Ease.av]
  (repeat ((first | refine WV_seq_ ?_ | refine WV_block ?_ | refine WV_ops ?_ | refine WV_skip ?_ | refine WV_exit ?_); (try simp only [go_sem, init_env', Nat.reduceEqDiff, Nat.reduceAdd, Nat.reduceMul, reduceIte, Nat.reduceLeDiff, Nat.reduceLT, Nat.reduceBEq, reduceCtorEq, hP, ]); (repeat (refine And.intro (by first | omega | (intros; simp_all; done) | (intros; simp_all; omega)) ?_))))
  refine AS_copy (copyN hnear hrows hd0) (by omega) rfl rfl rfl rfl (fun m => ?_) (fun m => ?_) ?_
  · simp only [go_sem, init_env', Nat.reduceEqDiff, Nat.reduceAdd, Nat.reduceMul, reduceIte, Nat.reduceLeDiff, Nat.reduceLT, Nat.reduceBEq, reduceCtorEq, ne_add]
  · simp only [go_sem, init_env', Nat.reduceEqDiff, Nat.reduceAdd, Nat.reduceMul, reduceIte, Nat.reduceLeDiff, Nat.reduceLT, Nat.reduceBEq, reduceCtorEq, ne_add]
  · intro R y o dcap dj hR hok k1 k2 k3 hy
    have hRl : R.length = r.drive.length := by rw [← hR, List.length_map]
    rcases hy with ⟨h0, rfl, rfl⟩ | ⟨h0, cap, j, q1, q2, q3, rfl, rfl⟩
    · have tail : ∀ (R' : List (Row Int)) (D : List (List Int)), R'.map Row.l = D → refs 700 1 0 R' = refs 700 1 0 R → R'.length = R.length → (∀ x ∈ R', rowOk x) →
          WV C v40_12 (RetQ [RV.cell 4 false 3] (.agg [.c (stopsC []), .c (driveC D), iv (r.start - x.start)])) (eS0 r x dcap dj R') := by
        intro R' D hD hrf hRl' hok'
        simp only [eS0]
        (repeat ((first | refine WV_seq_ ?_ | refine WV_block ?_ | refine WV_ops ?_ | refine WV_skip ?_ | refine WV_exit ?_); (try simp only [go_sem, init_env', Nat.reduceEqDiff, Nat.reduceAdd, Nat.reduceMul, reduceIte, Nat.reduceLeDiff, Nat.reduceLT, Nat.reduceBEq, reduceCtorEq, hP, fam_lo, fam_upd]); (repeat (refine And.intro (by first | omega | (intros; simp_all; done) | (intros; simp_all; omega)) ?_))))
        refine WV_sub (σ' := ⟨upd e0 4 (.bp 4 0), fam 700 icds R' (upd (upd (upd o0 4 (.box [.gr 600, .vw 1 601 0 R'.length dcap, iv (r.start - x.start)])) 600 (.grow 53 4 [])) 601 (.box (refs 700 1 0 R' ++ List.replicate dj .non)))⟩) (Sub_of (by ((repeat' (first | exact EnvLe_e0 _ _ | refine EnvLe_upd ?_ ?_)) <;> ((try simp only [upd_app, e0_app, o0_app, Nat.reduceEqDiff, reduceIte]); first | exact AWk.refl _ _ | exact AWk.int (by omega) | exact AWk.int (by rw [w64 (by omega) (by omega)]; omega) | exact AWk.grow rfl | exact AWk.nil _ | exact AWk.of (by simp)))) (ObjLe_fam (by (first | ((repeat' (first | exact ObjLe_o0 _ | exact ObjLe.rfl' _ | refine ObjLe_same ?_ | refine ObjLe_upd ?_ ?_ | refine ObjLe_new rfl ?_)) <;> rfl) | (refine ObjLe_X ?_; (repeat' (first | exact ObjLeX_o0 _ _ | refine ObjLeX_skip rfl ?_ | refine ObjLeX_upd ?_ ?_)) <;> rfl))))) ?_
        refine WV_frzD (by decide) hD (fun n ds hn => ?_) (fun n ds hn => ?_) (fun n ds hn => ?_) (fun n ds hn => rfl) (fun n ds hn => ?_) ?_
        · rw [frzE_upd, frzE_e0]; simp only [AV.frz]; rw [if_neg (by omega)]
        · rw [frzO_o0]
        · rfl
        · rfl
        simp only [go_sem, init_env', Nat.reduceEqDiff, Nat.reduceAdd, Nat.reduceMul, reduceIte, Nat.reduceLeDiff, Nat.reduceLT, Nat.reduceBEq, reduceCtorEq, stopsC, List.map_nil]
        (refine WV_ret ?_; simp only [thenQ, inQ, RetQ, RetOk, resAll, resA]; simp only [go_sem, init_env', Nat.reduceEqDiff, Nat.reduceAdd, Nat.reduceMul, reduceIte, Nat.reduceLeDiff, Nat.reduceLT, Nat.reduceBEq, reduceCtorEq, tupA, AV.port, AV.portL, exists_eq_left', ]; (first | exact AVle.of rfl | refine AVle.of ?_ | skip))
      have mid : (easedR r x).stops = [] →
          WV C v40_13 (RetQ [RV.cell 4 false 3] (easedR r x).av) (eS0 r x dcap dj R) := by
        intro hSe
        have hav : (easedR r x).av = .agg [.c (stopsC []), .c (driveC (easedR r x).drive), iv (r.start - x.start)] := by rw [← hSe]; rfl
        rw [hav]
        simp only [eS0]
        (repeat ((first | refine WV_seq_ ?_ | refine WV_block ?_ | refine WV_ops ?_ | refine WV_skip ?_ | refine WV_exit ?_); (try simp only [go_sem, init_env', Nat.reduceEqDiff, Nat.reduceAdd, Nat.reduceMul, reduceIte, Nat.reduceLeDiff, Nat.reduceLT, Nat.reduceBEq, reduceCtorEq, hP, fam_lo, fam_upd]); (repeat (refine And.intro (by first | omega | (intros; simp_all; done) | (intros; simp_all; omega)) ?_))))
        (refine WV_cond rfl (fun h => ?_) (fun h => ?_))
        · have h : (0 ≤ x.frm ∧ x.frm < R.length) ∧ 0 ≤ x.to ∧ x.to < R.length := by simpa [and_assoc] using h
          obtain ⟨F, hF⟩ : ∃ F : Nat, x.frm = F := ⟨x.frm.toNat, by omega⟩
          obtain ⟨T, hT⟩ : ∃ T : Nat, x.to = T := ⟨x.to.toNat, by omega⟩
          have hFl : F < R.length := by omega
          have hTl : T < R.length := by omega
          have hDe : (easedR r x).drive = r.drive.set F ((r.drive.getD F []).set T (r.d F T - x.drive)) := by
            unfold easedR
            simp only [hF, hT, Int.toNat_natCast]
            rw [if_pos (by omega)]
          have hrl : (R[F]).l = r.drive.getD F [] := by
            rw [← hR, List.getD_eq_getElem?_getD, List.getElem?_map, List.getElem?_eq_getElem hFl]; rfl
          have hT2 : T < (R[F]).l.length := by rw [hrl, hrow F (by omega)]; omega
          have hdv : (R[F]).l[T] = r.d F T := by
            unfold Route.d
            rw [← hrl, List.getD_eq_getElem?_getD, List.getElem?_eq_getElem hT2]; rfl
          have hget : (cellsG icds (R[F]).l (R[F]).j).getD T .non = iv (r.d F T) := by
            have := cellsG_get (cds := icds) icds_one hT2 (R[F]).j 0 (d := .int .i64 (R[F]).l[T]) rfl .non
            rw [Nat.mul_one, Nat.add_zero, hdv] at this
            exact this
          have hset : (cellsG icds (R[F]).l (R[F]).j).set T (.c (.int .i64 (r.d F T - x.drive))) = cellsG icds ((R[F]).l.set T (r.d F T - x.drive)) (R[F]).j := by
            have := cellsG_set (cds := icds) icds_one hT2 (R[F]).j 0 (by decide) (.int .i64 (r.d F T - x.drive)) (r.d F T - x.drive) rfl
            rw [Nat.mul_one, Nat.add_zero] at this
            exact this
          have hcl : T < (cellsG icds (R[F]).l (R[F]).j).length := by
            unfold cellsG
            rw [List.length_append, List.length_map, flatG_len icds_one]; omega
          have hce := hr.cell F T (by omega) (by omega)
          have hw2 := w64 (n := r.d F T - x.drive) (by omega) (by omega)
          have hfs : ∀ own, upd (fam 700 icds R own) (F + 700) (.box (cellsG icds ((R[F]).l.set T (r.d F T - x.drive)) (R[F]).j)) = fam 700 icds (R.set F ⟨(R[F]).l.set T (r.d F T - x.drive), (R[F]).j, (R[F]).cap⟩) own := fun own => fam_set hFl ⟨(R[F]).l.set T (r.d F T - x.drive), (R[F]).j, (R[F]).cap⟩
          rw [hDe, hF, hT]
          (refine WV_ops ?_; simp only [go_sem, init_env', Nat.reduceEqDiff, Nat.reduceAdd, Nat.reduceMul, reduceIte, Nat.reduceLeDiff, Nat.reduceLT, Nat.reduceBEq, reduceCtorEq, hP, fam_lo, fam_upd, Nat.mul_one, Nat.zero_add, refs_len, List.length_replicate, Int.toNat_natCast, Int.ofNat_lt, hFl, hTl, Int.natCast_nonneg, refs_get hFl, fam_at hFl, Row.ob_box, hT2, hget, hcl, hset, hw2, hfs]; (repeat (refine And.intro (by first | omega | (intros; simp_all; done) | (intros; simp_all; omega)) ?_)))
          have hrs := refs_set (b := 700) (sz := 1) hFl ⟨(R[F]).l.set T (r.d F T - x.drive), (R[F]).j, (R[F]).cap⟩ (by simp) rfl
          refine WV_sub ?_ (tail (R.set F ⟨(R[F]).l.set T (r.d F T - x.drive), (R[F]).j, (R[F]).cap⟩) _ (by rw [List.map_set, hR, hrl]) hrs (by simp) ?_)
          · simp only [eS0, List.length_set]
            exact Sub_of (by ((repeat' (first | exact EnvLe_e0 _ _ | refine EnvLe_upd ?_ ?_)) <;> ((try simp only [upd_app, e0_app, o0_app, Nat.reduceEqDiff, reduceIte]); first | exact AWk.refl _ _ | exact AWk.int (by omega) | exact AWk.int (by rw [w64 (by omega) (by omega)]; omega) | exact AWk.grow rfl | exact AWk.nil _ | exact AWk.of (by simp)))) (ObjLe_fam (by rw [hrs, ← hF, ← hT]; (first | ((repeat' (first | exact ObjLe_o0 _ | exact ObjLe.rfl' _ | refine ObjLe_same ?_ | refine ObjLe_upd ?_ ?_ | refine ObjLe_new rfl ?_)) <;> rfl) | (refine ObjLe_X ?_; (repeat' (first | exact ObjLeX_o0 _ _ | refine ObjLeX_skip rfl ?_ | refine ObjLeX_upd ?_ ?_)) <;> rfl))))
          · intro a ha
            rcases List.mem_or_eq_of_mem_set ha with ha | rfl
            · exact hok a ha
            · have := hok _ (List.getElem_mem hFl)
              simpa [rowOk] using this
        · have h : ¬ (0 ≤ x.frm ∧ x.frm < R.length ∧ 0 ≤ x.to ∧ x.to < R.length) := by
            intro hc
            simp [hc.1, hc.2.1, hc.2.2.1] at h
            omega
          have hDe : (easedR r x).drive = r.drive := by
            unfold easedR
            simp only
            rw [if_neg (by rw [hRl] at h; exact h)]
          rw [hDe]
          refine WV_skip ?_
          refine WV_sub ?_ (tail R r.drive hR rfl rfl hok)
          simp only [eS0]
          exact Sub_of (by ((repeat' (first | exact EnvLe_e0 _ _ | refine EnvLe_upd ?_ ?_)) <;> ((try simp only [upd_app, e0_app, o0_app, Nat.reduceEqDiff, reduceIte]); first | exact AWk.refl _ _ | exact AWk.int (by omega) | exact AWk.int (by rw [w64 (by omega) (by omega)]; omega) | exact AWk.grow rfl | exact AWk.nil _ | exact AWk.of (by simp)))) (ObjLe_fam (by (first | ((repeat' (first | exact ObjLe_o0 _ | exact ObjLe.rfl' _ | refine ObjLe_same ?_ | refine ObjLe_upd ?_ ?_ | refine ObjLe_new rfl ?_)) <;> rfl) | (refine ObjLe_X ?_; (repeat' (first | exact ObjLeX_o0 _ _ | refine ObjLeX_skip rfl ?_ | refine ObjLeX_upd ?_ ?_)) <;> rfl))))
      simp only [St.put]
      simp only [go_sem, init_env', Nat.reduceEqDiff, Nat.reduceAdd, Nat.reduceMul, reduceIte, Nat.reduceLeDiff, Nat.reduceLT, Nat.reduceBEq, reduceCtorEq, fam_lo, fam_upd, prgO_fam, refs_prg, prgL_append, prg_non, prg_cellsG, hw1]
      (repeat (refine And.intro (by first | omega | (intros; simp_all; done) | (intros; simp_all; omega)) ?_))
      (repeat ((first | refine WV_seq_ ?_ | refine WV_block ?_ | refine WV_ops ?_ | refine WV_skip ?_ | refine WV_exit ?_); (try simp only [go_sem, init_env', Nat.reduceEqDiff, Nat.reduceAdd, Nat.reduceMul, reduceIte, Nat.reduceLeDiff, Nat.reduceLT, Nat.reduceBEq, reduceCtorEq, hP, fam_lo, fam_upd, prgO_fam, refs_prg, prgL_append, prg_non, prg_cellsG, hw1]); (repeat (refine And.intro (by first | omega | (intros; simp_all; done) | (intros; simp_all; omega)) ?_))))
      (refine WV_cond rfl (fun h => ?_) (fun h => ?_))
      · have h : 0 ≤ x.stop ∧ x.stop < r.stops.length := by rw [h0]; simpa using h
        exfalso
        rw [h0] at h
        simp at h
        omega
      · have h : ¬ (0 ≤ x.stop ∧ x.stop < r.stops.length) := by
          intro hc
          rw [h0] at hc; simp at hc; omega
        refine WV_skip ?_
        refine WV_sub ?_ (mid ?_)
        · simp only [eS0]
          exact Sub_of (by ((repeat' (first | exact EnvLe_e0 _ _ | refine EnvLe_upd ?_ ?_)) <;> ((try simp only [upd_app, e0_app, o0_app, Nat.reduceEqDiff, reduceIte]); first | exact AWk.refl _ _ | exact AWk.int (by omega) | exact AWk.int (by rw [w64 (by omega) (by omega)]; omega) | exact AWk.grow rfl | exact AWk.nil _ | exact AWk.of (by simp)))) (ObjLe_fam (by (first | ((repeat' (first | exact ObjLe_o0 _ | exact ObjLe.rfl' _ | refine ObjLe_same ?_ | refine ObjLe_upd ?_ ?_ | refine ObjLe_new rfl ?_)) <;> rfl) | (refine ObjLe_X ?_; (repeat' (first | exact ObjLeX_o0 _ _ | refine ObjLeX_skip rfl ?_ | refine ObjLeX_upd ?_ ?_)) <;> rfl))))
        · unfold easedR
          simp only
          rw [if_neg (by unfold Route.n; exact h)]; exact h0
    · have tail : ∀ (S : List Stop) (R' : List (Row Int)) (D : List (List Int)), S.length = r.stops.length → R'.map Row.l = D → refs 700 1 0 R' = refs 700 1 0 R → R'.length = R.length → (∀ x ∈ R', rowOk x) →
          WV C v40_12 (RetQ [RV.cell 4 false 3] (.agg [.c (stopsC S), .c (driveC D), iv (r.start - x.start)])) (eS r x cap j dcap dj S R') := by
        intro S R' D hS hD hrf hRl' hok'
        simp only [eS]
        (repeat ((first | refine WV_seq_ ?_ | refine WV_block ?_ | refine WV_ops ?_ | refine WV_skip ?_ | refine WV_exit ?_); (try simp only [go_sem, init_env', Nat.reduceEqDiff, Nat.reduceAdd, Nat.reduceMul, reduceIte, Nat.reduceLeDiff, Nat.reduceLT, Nat.reduceBEq, reduceCtorEq, hP, fam_lo, fam_upd]); (repeat (refine And.intro (by first | omega | (intros; simp_all; done) | (intros; simp_all; omega)) ?_))))
        refine WV_sub (σ' := ⟨upd e0 4 (.bp 4 0), fam 700 icds R' (upd (upd (upd o0 4 (.box [.vw 4 600 0 r.stops.length cap, .vw 1 601 0 R'.length dcap, iv (r.start - x.start)])) 600 (.box (cellsG Stop.cds S j))) 601 (.box (refs 700 1 0 R' ++ List.replicate dj .non)))⟩) (Sub_of (by ((repeat' (first | exact EnvLe_e0 _ _ | refine EnvLe_upd ?_ ?_)) <;> ((try simp only [upd_app, e0_app, o0_app, Nat.reduceEqDiff, reduceIte]); first | exact AWk.refl _ _ | exact AWk.int (by omega) | exact AWk.int (by rw [w64 (by omega) (by omega)]; omega) | exact AWk.grow rfl | exact AWk.nil _ | exact AWk.of (by simp)))) (ObjLe_fam (by (first | ((repeat' (first | exact ObjLe_o0 _ | exact ObjLe.rfl' _ | refine ObjLe_same ?_ | refine ObjLe_upd ?_ ?_ | refine ObjLe_new rfl ?_)) <;> rfl) | (refine ObjLe_X ?_; (repeat' (first | exact ObjLeX_o0 _ _ | refine ObjLeX_skip rfl ?_ | refine ObjLeX_upd ?_ ?_)) <;> rfl))))) ?_
        refine WV_frzD (by decide) hD (fun n ds hn => ?_) (fun n ds hn => ?_) (fun n ds hn => ?_) (fun n ds hn => rfl) (fun n ds hn => ?_) ?_
        · rw [frzE_upd, frzE_e0]; simp only [AV.frz]; rw [if_neg (by omega)]
        · rw [frzO_o0]
        · simp only [AV.frz]; rw [if_neg (by omega)]
        · simp only [Ob.frz, frz_cellsG]
        refine WV_freezeJ 600 (ds := flatG Stop.cds S) (junk := List.replicate j .non) rfl ?_
        have hm4 : ∀ a : Stop, (Stop.cds a).length = 4 := fun _ => rfl
        have hfl : r.stops.length * 4 ≤ (flatG Stop.cds S).length := by rw [flatG_len hm4, hS]; omega
        have hgr : grp 4 r.stops.length ((flatG Stop.cds S).take (r.stops.length * 4)) = S.map Stop.cds := by rw [← hS]; exact grp_cellsG hm4 S
        simp only [go_sem, init_env', Nat.reduceEqDiff, Nat.reduceAdd, Nat.reduceMul, reduceIte, Nat.reduceLeDiff, Nat.reduceLT, Nat.reduceBEq, reduceCtorEq, hfl, List.drop_zero, hgr, stopsC]
        (refine WV_ret ?_; simp only [thenQ, inQ, RetQ, RetOk, resAll, resA]; simp only [go_sem, init_env', Nat.reduceEqDiff, Nat.reduceAdd, Nat.reduceMul, reduceIte, Nat.reduceLeDiff, Nat.reduceLT, Nat.reduceBEq, reduceCtorEq, tupA, AV.port, AV.portL, exists_eq_left', ]; (first | exact AVle.of rfl | refine AVle.of ?_ | skip))
      have mid : ∀ (S : List Stop), S.length = r.stops.length → S = (easedR r x).stops →
          WV C v40_13 (RetQ [RV.cell 4 false 3] (easedR r x).av) (eS r x cap j dcap dj S R) := by
        intro S hS hSe
        have hav : (easedR r x).av = .agg [.c (stopsC S), .c (driveC (easedR r x).drive), iv (r.start - x.start)] := by rw [hSe]; rfl
        rw [hav]
        simp only [eS]
        (repeat ((first | refine WV_seq_ ?_ | refine WV_block ?_ | refine WV_ops ?_ | refine WV_skip ?_ | refine WV_exit ?_); (try simp only [go_sem, init_env', Nat.reduceEqDiff, Nat.reduceAdd, Nat.reduceMul, reduceIte, Nat.reduceLeDiff, Nat.reduceLT, Nat.reduceBEq, reduceCtorEq, hP, fam_lo, fam_upd]); (repeat (refine And.intro (by first | omega | (intros; simp_all; done) | (intros; simp_all; omega)) ?_))))
        (refine WV_cond rfl (fun h => ?_) (fun h => ?_))
        · have h : (0 ≤ x.frm ∧ x.frm < R.length) ∧ 0 ≤ x.to ∧ x.to < R.length := by simpa [and_assoc] using h
          obtain ⟨F, hF⟩ : ∃ F : Nat, x.frm = F := ⟨x.frm.toNat, by omega⟩
          obtain ⟨T, hT⟩ : ∃ T : Nat, x.to = T := ⟨x.to.toNat, by omega⟩
          have hFl : F < R.length := by omega
          have hTl : T < R.length := by omega
          have hDe : (easedR r x).drive = r.drive.set F ((r.drive.getD F []).set T (r.d F T - x.drive)) := by
            unfold easedR
            simp only [hF, hT, Int.toNat_natCast]
            rw [if_pos (by omega)]
          have hrl : (R[F]).l = r.drive.getD F [] := by
            rw [← hR, List.getD_eq_getElem?_getD, List.getElem?_map, List.getElem?_eq_getElem hFl]; rfl
          have hT2 : T < (R[F]).l.length := by rw [hrl, hrow F (by omega)]; omega
          have hdv : (R[F]).l[T] = r.d F T := by
            unfold Route.d
            rw [← hrl, List.getD_eq_getElem?_getD, List.getElem?_eq_getElem hT2]; rfl
          have hget : (cellsG icds (R[F]).l (R[F]).j).getD T .non = iv (r.d F T) := by
            have := cellsG_get (cds := icds) icds_one hT2 (R[F]).j 0 (d := .int .i64 (R[F]).l[T]) rfl .non
            rw [Nat.mul_one, Nat.add_zero, hdv] at this
            exact this
          have hset : (cellsG icds (R[F]).l (R[F]).j).set T (.c (.int .i64 (r.d F T - x.drive))) = cellsG icds ((R[F]).l.set T (r.d F T - x.drive)) (R[F]).j := by
            have := cellsG_set (cds := icds) icds_one hT2 (R[F]).j 0 (by decide) (.int .i64 (r.d F T - x.drive)) (r.d F T - x.drive) rfl
            rw [Nat.mul_one, Nat.add_zero] at this
            exact this
          have hcl : T < (cellsG icds (R[F]).l (R[F]).j).length := by
            unfold cellsG
            rw [List.length_append, List.length_map, flatG_len icds_one]; omega
          have hce := hr.cell F T (by omega) (by omega)
          have hw2 := w64 (n := r.d F T - x.drive) (by omega) (by omega)
          have hfs : ∀ own, upd (fam 700 icds R own) (F + 700) (.box (cellsG icds ((R[F]).l.set T (r.d F T - x.drive)) (R[F]).j)) = fam 700 icds (R.set F ⟨(R[F]).l.set T (r.d F T - x.drive), (R[F]).j, (R[F]).cap⟩) own := fun own => fam_set hFl ⟨(R[F]).l.set T (r.d F T - x.drive), (R[F]).j, (R[F]).cap⟩
          rw [hDe, hF, hT]
          (refine WV_ops ?_; simp only [go_sem, init_env', Nat.reduceEqDiff, Nat.reduceAdd, Nat.reduceMul, reduceIte, Nat.reduceLeDiff, Nat.reduceLT, Nat.reduceBEq, reduceCtorEq, hP, fam_lo, fam_upd, Nat.mul_one, Nat.zero_add, refs_len, List.length_replicate, Int.toNat_natCast, Int.ofNat_lt, hFl, hTl, Int.natCast_nonneg, refs_get hFl, fam_at hFl, Row.ob_box, hT2, hget, hcl, hset, hw2, hfs]; (repeat (refine And.intro (by first | omega | (intros; simp_all; done) | (intros; simp_all; omega)) ?_)))
          have hrs := refs_set (b := 700) (sz := 1) hFl ⟨(R[F]).l.set T (r.d F T - x.drive), (R[F]).j, (R[F]).cap⟩ (by simp) rfl
          refine WV_sub ?_ (tail S (R.set F ⟨(R[F]).l.set T (r.d F T - x.drive), (R[F]).j, (R[F]).cap⟩) _ hS (by rw [List.map_set, hR, hrl]) hrs (by simp) ?_)
          · simp only [eS, List.length_set]
            exact Sub_of (by ((repeat' (first | exact EnvLe_e0 _ _ | refine EnvLe_upd ?_ ?_)) <;> ((try simp only [upd_app, e0_app, o0_app, Nat.reduceEqDiff, reduceIte]); first | exact AWk.refl _ _ | exact AWk.int (by omega) | exact AWk.int (by rw [w64 (by omega) (by omega)]; omega) | exact AWk.grow rfl | exact AWk.nil _ | exact AWk.of (by simp)))) (ObjLe_fam (by rw [hrs, ← hF, ← hT]; (first | ((repeat' (first | exact ObjLe_o0 _ | exact ObjLe.rfl' _ | refine ObjLe_same ?_ | refine ObjLe_upd ?_ ?_ | refine ObjLe_new rfl ?_)) <;> rfl) | (refine ObjLe_X ?_; (repeat' (first | exact ObjLeX_o0 _ _ | refine ObjLeX_skip rfl ?_ | refine ObjLeX_upd ?_ ?_)) <;> rfl))))
          · intro a ha
            rcases List.mem_or_eq_of_mem_set ha with ha | rfl
            · exact hok a ha
            · have := hok _ (List.getElem_mem hFl)
              simpa [rowOk] using this
        · have h : ¬ (0 ≤ x.frm ∧ x.frm < R.length ∧ 0 ≤ x.to ∧ x.to < R.length) := by
            intro hc
            simp [hc.1, hc.2.1, hc.2.2.1] at h
            omega
          have hDe : (easedR r x).drive = r.drive := by
            unfold easedR
            simp only
            rw [if_neg (by rw [hRl] at h; exact h)]
          rw [hDe]
          refine WV_skip ?_
          refine WV_sub ?_ (tail S R r.drive hS hR rfl rfl hok)
          simp only [eS]
          exact Sub_of (by ((repeat' (first | exact EnvLe_e0 _ _ | refine EnvLe_upd ?_ ?_)) <;> ((try simp only [upd_app, e0_app, o0_app, Nat.reduceEqDiff, reduceIte]); first | exact AWk.refl _ _ | exact AWk.int (by omega) | exact AWk.int (by rw [w64 (by omega) (by omega)]; omega) | exact AWk.grow rfl | exact AWk.nil _ | exact AWk.of (by simp)))) (ObjLe_fam (by (first | ((repeat' (first | exact ObjLe_o0 _ | exact ObjLe.rfl' _ | refine ObjLe_same ?_ | refine ObjLe_upd ?_ ?_ | refine ObjLe_new rfl ?_)) <;> rfl) | (refine ObjLe_X ?_; (repeat' (first | exact ObjLeX_o0 _ _ | refine ObjLeX_skip rfl ?_ | refine ObjLeX_upd ?_ ?_)) <;> rfl))))
      simp only [St.put]
      simp only [go_sem, init_env', Nat.reduceEqDiff, Nat.reduceAdd, Nat.reduceMul, reduceIte, Nat.reduceLeDiff, Nat.reduceLT, Nat.reduceBEq, reduceCtorEq, fam_lo, fam_upd, prgO_fam, refs_prg, prgL_append, prg_non, prg_cellsG, hw1]
      (repeat (refine And.intro (by first | omega | (intros; simp_all; done) | (intros; simp_all; omega)) ?_))
      (repeat ((first | refine WV_seq_ ?_ | refine WV_block ?_ | refine WV_ops ?_ | refine WV_skip ?_ | refine WV_exit ?_); (try simp only [go_sem, init_env', Nat.reduceEqDiff, Nat.reduceAdd, Nat.reduceMul, reduceIte, Nat.reduceLeDiff, Nat.reduceLT, Nat.reduceBEq, reduceCtorEq, hP, fam_lo, fam_upd, prgO_fam, refs_prg, prgL_append, prg_non, prg_cellsG, hw1]); (repeat (refine And.intro (by first | omega | (intros; simp_all; done) | (intros; simp_all; omega)) ?_))))
      (refine WV_cond rfl (fun h => ?_) (fun h => ?_))
      · have h : 0 ≤ x.stop ∧ x.stop < r.stops.length := by simpa using h
        obtain ⟨K, hK⟩ : ∃ K : Nat, x.stop = K := ⟨x.stop.toNat, by omega⟩
        have hKl : K < r.stops.length := by omega
        have hat := stops_at hKl j
        have hput := stops_put hKl j (easeStop x r.stops[K])
        simp only [Stop.cds, List.map_cons, List.map_nil, easeStop, List.cons_append, List.nil_append] at hat hput
        have hcl4 : K * 4 + 4 ≤ (cellsG Stop.cds r.stops j).length := by rw [cellsG_len stop_four]; omega
        have hso := hr.stop K hKl
        have hsK : r.s K = r.stops[K] := by unfold Route.s; rw [List.getD_eq_getElem?_getD, List.getElem?_eq_getElem hKl]; rfl
        rw [hsK] at hso
        have ha1 := w64 (n := (r.stops[K]).op - x.op) (by omega) (by omega)
        have ha2 := w64 (n := (r.stops[K]).cl + x.cl) (by omega) (by omega)
        have ha3 := w64 (n := (r.stops[K]).st - x.st) (by omega) (by omega)
        rw [hK]
        refine WV_seq_ ?_
        (refine WV_ops ?_; simp only [go_sem, init_env', Nat.reduceEqDiff, Nat.reduceAdd, Nat.reduceMul, reduceIte, Nat.reduceLeDiff, Nat.reduceLT, Nat.reduceBEq, reduceCtorEq, hP, fam_lo, fam_upd, prgO_fam, refs_prg, prgL_append, prg_non, prg_cellsG, Nat.mul_one, Nat.zero_add, Int.toNat_natCast, Int.ofNat_lt, hKl, Int.natCast_nonneg, hat, hcl4, AV.prgL, AV.prg]; (repeat (refine And.intro (by first | omega | (intros; simp_all; done) | (intros; simp_all; omega)) ?_)))
        (refine WV_ops ?_; simp only [go_sem, init_env', Nat.reduceEqDiff, Nat.reduceAdd, Nat.reduceMul, reduceIte, Nat.reduceLeDiff, Nat.reduceLT, Nat.reduceBEq, reduceCtorEq, hP, fam_lo, fam_upd, prgO_fam, refs_prg, prgL_append, prg_non, prg_cellsG, Nat.mul_one, Nat.zero_add, Int.toNat_natCast, Int.ofNat_lt, hKl, Int.natCast_nonneg, hat, hcl4, AV.prgL, AV.prg, ha1, ha2, ha3, hput]; (repeat (refine And.intro (by first | omega | (intros; simp_all; done) | (intros; simp_all; omega)) ?_)))
        refine WV_sub ?_ (mid (r.stops.set K (easeStop x r.stops[K])) (by simp) ?_)
        · simp only [eS, easeStop, hK]
          exact Sub_of (by ((repeat' (first | exact EnvLe_e0 _ _ | refine EnvLe_upd ?_ ?_)) <;> ((try simp only [upd_app, e0_app, o0_app, Nat.reduceEqDiff, reduceIte]); first | exact AWk.refl _ _ | exact AWk.int (by omega) | exact AWk.int (by rw [w64 (by omega) (by omega)]; omega) | exact AWk.grow rfl | exact AWk.nil _ | exact AWk.of (by simp)))) (ObjLe_fam (by (first | ((repeat' (first | exact ObjLe_o0 _ | exact ObjLe.rfl' _ | refine ObjLe_same ?_ | refine ObjLe_upd ?_ ?_ | refine ObjLe_new rfl ?_)) <;> rfl) | (refine ObjLe_X ?_; (repeat' (first | exact ObjLeX_o0 _ _ | refine ObjLeX_skip rfl ?_ | refine ObjLeX_upd ?_ ?_)) <;> rfl))))
        · unfold easedR
          simp only [hK, Int.toNat_natCast, hsK]
          rw [if_pos (by unfold Route.n; omega)]
      · have h : ¬ (0 ≤ x.stop ∧ x.stop < r.stops.length) := by
          intro hc
          simp [hc.1] at h
          omega
        refine WV_skip ?_
        refine WV_sub ?_ (mid r.stops rfl ?_)
        · simp only [eS]
          exact Sub_of (by ((repeat' (first | exact EnvLe_e0 _ _ | refine EnvLe_upd ?_ ?_)) <;> ((try simp only [upd_app, e0_app, o0_app, Nat.reduceEqDiff, reduceIte]); first | exact AWk.refl _ _ | exact AWk.int (by omega) | exact AWk.int (by rw [w64 (by omega) (by omega)]; omega) | exact AWk.grow rfl | exact AWk.nil _ | exact AWk.of (by simp)))) (ObjLe_fam (by (first | ((repeat' (first | exact ObjLe_o0 _ | exact ObjLe.rfl' _ | refine ObjLe_same ?_ | refine ObjLe_upd ?_ ?_ | refine ObjLe_new rfl ?_)) <;> rfl) | (refine ObjLe_X ?_; (repeat' (first | exact ObjLeX_o0 _ _ | refine ObjLeX_skip rfl ?_ | refine ObjLeX_upd ?_ ?_)) <;> rfl))))
        · unfold easedR
          simp only
          rw [if_neg (by unfold Route.n; exact h)]
end Go.Proofs.Ytbejgfpaokcnpaa

/-
  The program's tours are the reference's: plain.
-/
namespace Go.Proofs.Ytbejgfpaokcnpaa
open Go Go.V

theorem toursR_begin {n : Nat} : ∀ (f : Nat) (t p : List Nat), p ∈ toursR n f t → ∃ l, p = t ++ l
  | 0, t, p, h => by simp only [toursR, List.mem_singleton] at h; exact ⟨[], by simp [h]⟩
  | f + 1, t, p, h => by
    simp only [toursR, List.mem_cons, List.mem_flatMap, List.mem_range] at h
    rcases h with rfl | ⟨k, _, h⟩
    · exact ⟨[], by simp⟩
    · split at h
      · cases h
      · obtain ⟨l, rfl⟩ := toursR_begin f _ p h
        exact ⟨k :: l, by simp⟩
/-- Behind a stop that is missed no tour is good. -/
theorem toursR_bad {r : Route} (f : Nat) (t : List Nat) (h : (ride r (leave r) t).2.1 ≠ none) : (toursR r.n f t).filter (ridden r) = [] := by
  rw [List.filter_eq_nil_iff]
  intro p hp
  obtain ⟨l, rfl⟩ := toursR_begin f t p hp
  unfold ridden
  rw [ride_stop r t _ l h]
  cases hx : (ride r (leave r) t).2.1 with
  | none => exact absurd hx h
  | some k => simp
theorem ext_eq {r : Route} : ∀ (f : Nat) (t : List Nat), (ride r (leave r) t).2.1 = none → (ext r f t (ride r (leave r) t).2.2).map (·.1) = (toursR r.n f t).filter (ridden r)
  | 0, t, h => by simp [ext, toursR, ridden, h]
  | f + 1, t, h => by
    have hr : ridden r t = true := by simp [ridden, h]
    simp only [ext, toursR, List.map_cons, List.filter_cons, hr, if_true, List.map_flatMap, List.filter_flatMap]
    congr 1
    congr 1
    funext k
    by_cases hk : k ∈ t
    · simp [hk]
    · rw [if_neg hk, if_neg hk]
      have hs := ride_snoc r t (leave r) k h
      by_cases hv : (visit r (ride r (leave r) t).2.2 k).2.2 = true
      · rw [if_pos hv] at hs ⊢
        have := ext_eq f (t ++ [k]) (by rw [hs])
        rw [hs] at this
        exact this
      · rw [if_neg hv] at hs ⊢
        rw [toursR_bad f (t ++ [k]) (by rw [hs]; simp)]
        rfl
theorem goods_eq (r : Route) : (goods r).map (·.1) = goodR r false := by
  have := ext_eq (r := r) (r.n + 1) [] rfl
  have e : goodP r false = ridden r := by funext t; simp [goodP]
  unfold goodR allR
  rw [e]
  exact this
theorem wholes_eq (r : Route) : (wholes r).map (·.1) = goodR r true := by
  have h1 : (wholes r).map (·.1) = ((goods r).map (·.1)).filter fun t => !decide (t.length < r.n) := by
    unfold wholes
    rw [List.filter_map]
    rfl
  rw [h1, goods_eq]
  unfold goodR
  rw [List.filter_filter]
  refine List.filter_congr fun t ht => ?_
  have := allR_len ht
  simp only [goodP, Bool.not_false, Bool.true_or, Bool.true_and, Bool.not_true, Bool.false_or]
  congr 1
  rw [Bool.eq_iff_iff]
  simp
  omega
/-- The van behind the last stop is that of the ride. -/
theorem ext_ride {r : Route} : ∀ (f : Nat) (t : List Nat), (ride r (leave r) t).2.1 = none → ∀ p ∈ ext r f t (ride r (leave r) t).2.2, (ride r (leave r) p.1).2.1 = none ∧ p.2 = (ride r (leave r) p.1).2.2
  | 0, t, h, p, hp => by simp only [ext, List.mem_singleton] at hp; subst hp; exact ⟨h, rfl⟩
  | f + 1, t, h, p, hp => by
    simp only [ext, List.mem_cons, List.mem_flatMap, List.mem_range] at hp
    rcases hp with rfl | ⟨k, _, hp⟩
    · exact ⟨h, rfl⟩
    · split at hp
      · cases hp
      · split at hp
        · rename_i hv
          have hs := ride_snoc r t (leave r) k h
          rw [if_pos hv] at hs
          have := ext_ride f (t ++ [k]) (by rw [hs]) p
          rw [hs] at this
          exact this hp
        · cases hp
theorem goods_ride {r : Route} : ∀ p ∈ goods r, (ride r (leave r) p.1).2.1 = none ∧ p.2 = (ride r (leave r) p.1).2.2 := ext_ride (r := r) (r.n + 1) [] rfl
end Go.Proofs.Ytbejgfpaokcnpaa

/-
  Least and greatest: the program's answers are the reference's: plain.
-/
namespace Go.Proofs.Ytbejgfpaokcnpaa
open Go Go.V

theorem less_min : ∀ (l : List Int) (b : Int), 0 ≤ b → (∀ n ∈ l, 0 ≤ n) → l.foldl lessS b = l.foldl min b
  | [], b, _, _ => rfl
  | n :: l, b, hb, h => by
    have hn := h n (by simp)
    have e : lessS b n = min b n := by unfold lessS; split <;> omega
    simp only [List.foldl_cons, e]
    exact less_min l _ (by omega) fun m hm => h m (by simp [hm])
theorem least_min (f : List Nat → Int) (L : List (List Nat)) (hL : L ≠ []) (h : ∀ t ∈ L, 0 ≤ f t) : leastS (L.map f) = minS f L L.length := by
  cases L with
  | nil => exact absurd rfl hL
  | cons t L =>
    have ht := h t (by simp)
    unfold leastS minS
    rw [List.take_length]
    simp only [List.map_cons, List.foldl_cons, List.getD_cons_zero]
    have e : lessS (-1) (f t) = f t := by unfold lessS; rw [if_pos (by omega)]
    rw [e, less_min _ _ ht (by
      intro n hn
      obtain ⟨u, hu, rfl⟩ := List.mem_map.1 hn
      exact h u (by simp [hu])), List.foldl_map, Int.min_self]
theorem shortB_one (r : Route) (l : List (List Nat × Van)) : (shortB r l).1 = leastS (l.map fun p => (atHome r p).long) := by
  have h : ∀ (l : List (List Nat × Van)) (s : Int × Option (List Nat)), (l.foldl (fun s p => shortT s (atHome r p).long p.1) s).1 = (l.map fun p => (atHome r p).long).foldl lessS s.1 := by
    intro l
    induction l with
    | nil => intro s; rfl
    | cons p l ih =>
      intro s
      simp only [List.foldl_cons, List.map_cons]
      rw [ih]
      congr 1
      unfold shortT lessS
      split <;> rfl
  exact h l _
theorem someE_eq (r : Route) : someE r = errR r := by
  unfold someE errR
  rw [← wholes_eq]
  cases r.ok
  · rfl
  · by_cases h : wholes r = [] <;> simp [h]
theorem ride_long (r : Route) : ∀ (t : List Nat) (v : Van), (ride r v t).2.1 = none → t.foldl (fun s k => (k, s.2 + r.d s.1 k)) (v.at_, v.long) = ((ride r v t).2.2.at_, (ride r v t).2.2.long)
  | [], v, _ => rfl
  | k :: t, v, h => by
    simp only [ride] at h ⊢
    by_cases hv : (visit r v k).2.2 = true
    · simp only [hv, if_true] at h ⊢
      have ih := ride_long r t (visit r v k).1 h
      rw [List.foldl_cons, ← ih]
      congr 1
      unfold visit at hv ⊢
      split at hv
      · cases hv
      · rename_i hc
        rw [if_neg hc]
        rfl
    · simp [hv] at h
theorem atHome_eq {r : Route} (hr : RouteOk r) {p : List Nat × Van} (hp : p ∈ goods r) : (atHome r p).now = (goS r p.1).2.2 ∧ (atHome r p).long = longS r p.1 := by
  obtain ⟨h1, h2⟩ := goods_ride p hp
  have hl := ride_long r p.1 (leave r) h1
  have hh := home_back hr p.1 (w := (ride r (leave r) p.1).2.2) (ts := (ride r (leave r) p.1).1) (by rw [← h1])
  unfold atHome
  rw [h2]
  refine ⟨?_, ?_⟩
  · rw [hh.1]
    unfold goS
    revert h1
    generalize ride r (leave r) p.1 = x
    obtain ⟨x1, x2, x3⟩ := x
    intro h1
    simp only at h1
    subst h1
    rfl
  · rw [hh.2]
    unfold longS longP
    have e : ((leave r).at_, (leave r).long) = (r.n, (0 : Int)) := rfl
    rw [e] at hl
    rw [hl]
theorem atHome_pos {r : Route} (hr : RouteOk r) {p : List Nat × Van} (hp : p ∈ goods r) : 0 ≤ (atHome r p).now ∧ 0 ≤ (atHome r p).long := by
  have hv := (goods_ok hr p hp).2.2
  have h1 := hv.now
  have h2 := hv.long
  have hc := hr.cell p.2.at_ r.n hv.at_ (Nat.lt_succ_self _)
  unfold atHome home
  split
  · exact ⟨h1.1, h2.1⟩
  · simp only [drv]; omega
theorem wholes_goods {r : Route} {p : List Nat × Van} (hp : p ∈ wholes r) : p ∈ goods r := (List.mem_filter.1 hp).1

theorem soon_eq (r : Route) : soonS r = rsoonS r := by
  unfold soonS rsoonS
  rw [someE_eq]
  by_cases h : errR r = 0
  · rw [if_pos h, if_pos h]
    obtain ⟨hr, _, hlen⟩ := errR_eq h
    have e : ((wholes r).map fun p => (atHome r p).now) = (goodR r true).map fun t => (goS r t).2.2 := by
      rw [← wholes_eq, List.map_map]
      exact List.map_congr_left fun p hp => (atHome_eq hr (wholes_goods hp)).1
    rw [e, least_min _ _ (List.length_pos_iff.1 hlen)]
    intro t ht
    rw [← wholes_eq] at ht
    obtain ⟨p, hp, rfl⟩ := List.mem_map.1 ht
    rw [← (atHome_eq hr (wholes_goods hp)).1]
    exact (atHome_pos hr (wholes_goods hp)).1
  · rw [if_neg h, if_neg h]
theorem shortest_eq (r : Route) : shortestS r = rshortS r := by
  unfold shortestS rshortS
  rw [someE_eq]
  by_cases h : errR r = 0
  · rw [if_pos h, if_pos h]
    obtain ⟨hr, _, hlen⟩ := errR_eq h
    have e : ((wholes r).map fun p => (atHome r p).long) = (goodR r true).map (longS r) := by
      rw [← wholes_eq, List.map_map]
      exact List.map_congr_left fun p hp => (atHome_eq hr (wholes_goods hp)).2
    rw [shortB_one, e, least_min _ _ (List.length_pos_iff.1 hlen)]
    intro t ht
    rw [← wholes_eq] at ht
    obtain ⟨p, hp, rfl⟩ := List.mem_map.1 ht
    rw [← (atHome_eq hr (wholes_goods hp)).2]
    exact (atHome_pos hr (wholes_goods hp)).2
  · rw [if_neg h, if_neg h]
theorem most_eq (r : Route) : mostS r = rmostS r := by
  unfold mostS rmostS
  cases r.ok
  · rfl
  · simp only [if_true, mostB, rmostB]
    rw [← goods_eq, List.foldl_map, List.foldl_map]
end Go.Proofs.Ytbejgfpaokcnpaa

/-
  What Way returns, and Shut: plain.
-/
namespace Go.Proofs.Ytbejgfpaokcnpaa
open Go Go.V

end Go.Proofs.Ytbejgfpaokcnpaa

/-
  The latest start: a tour is good from a start just if this is not above what leavesS says; and Latest is the reference's: plain.
-/
namespace Go.Proofs.Ytbejgfpaokcnpaa
open Go Go.V

/-- Within reach: the first visit begins in time. -/
def inReach (r : Route) (a : Nat) (m : Int) : List Nat → Prop
  | [] => True
  | k :: ks => ∃ b, backL r (k :: ks) = some b ∧ m + r.d a k ≤ b
theorem ride_reach {r : Route} (hr : RouteOk r) : ∀ (t : List Nat) (v : Van), (∀ k ∈ t, k < r.n) → ((ride r v t).2.1 = none ↔ inReach r v.at_ v.now t)
  | [], v, _ => by simp [ride, inReach]
  | [k], v, _ => by
    simp only [ride, inReach, backL, Option.some.injEq, exists_eq_left']
    unfold visit
    by_cases h : (r.s k).cl < (drv r v k).now
    · simp only [h, if_true]
      simp [drv] at h ⊢; omega
    · simp only [h, if_false]
      simp [drv] at h ⊢; omega
  | k :: k' :: ks, v, hk => by
    have ih := ride_reach hr (k' :: ks) (visit r v k).1 (fun j hj => hk j (by simp [hj]))
    have hs := hr.stop k (hk k (by simp))
    simp only [inReach] at ih ⊢
    rw [ride]
    by_cases h : (r.s k).cl < (drv r v k).now
    · have e : (visit r v k).2.2 = false := by unfold visit; rw [if_pos h]
      rw [e]
      simp only [Bool.false_eq_true, if_false, reduceCtorEq, false_iff]
      rintro ⟨b, hb, hle⟩
      simp only [backL] at hb
      split at hb
      · cases hb
      · split at hb
        · cases hb
        · simp only [Option.some.injEq] at hb
          simp only [drv] at h
          omega
    · have e : (visit r v k).2.2 = true := by unfold visit; rw [if_neg h]
      have e1 : (visit r v k).1.at_ = k := by unfold visit; rw [if_neg h]; rfl
      have e2 : (visit r v k).1.now = max (v.now + r.d v.at_ k) (r.s k).op + (r.s k).st := by unfold visit; rw [if_neg h]; rfl
      rw [e1, e2] at ih
      rw [if_pos e]
      refine Iff.trans ?_ (ih.trans ?_)
      · rfl
      simp only [drv] at h
      cases hb : backL r (k' :: ks) with
      | none => simp [backL, hb]
      | some b =>
        simp only [Option.some.injEq, exists_eq_left', backL, hb]
        split
        · simp; omega
        · simp only [Option.some.injEq, exists_eq_left']
          omega

def setS (r : Route) (s : Int) : Route := { r with start := s }
theorem setS_ok {r : Route} (hr : RouteOk r) {s : Int} (h : 0 ≤ s ∧ s ≤ 1440) : RouteOk (setS r s) := ⟨hr.n7, hr.dl, h, hr.stop, hr.row, hr.cell, hr.diag⟩
theorem backL_setS (r : Route) (s : Int) : ∀ t, backL (setS r s) t = backL r t
  | [] => rfl
  | [k] => rfl
  | k :: k' :: ks => by simp only [backL]; rw [backL_setS r s (k' :: ks)]; rfl
theorem ridden_setS {r : Route} (hr : RouteOk r) {s : Int} (hs : 0 ≤ s ∧ s ≤ 1440) {t : List Nat} (ht : ∀ k ∈ t, k < r.n) : ridden (setS r s) t = true ↔ s ≤ leavesS r t := by
  have h := ride_reach (setS_ok hr hs) t (leave (setS r s)) ht
  have e : ridden (setS r s) t = true ↔ (ride (setS r s) (leave (setS r s)) t).2.1 = none := by
    unfold ridden
    cases (ride (setS r s) (leave (setS r s)) t).2.1 <;> simp
  rw [e, h]
  unfold leavesS
  cases t with
  | nil => simp [inReach, backL]; omega
  | cons k ks =>
    simp only [inReach]
    rw [backL_setS]
    cases hb : backL r (k :: ks) with
    | none => simp; omega
    | some b =>
      simp only [Option.some.injEq, exists_eq_left']
      have : (leave (setS r s)).now = s := rfl
      have e2 : (setS r s).d (leave (setS r s)).at_ k = r.d r.n k := rfl
      rw [this, e2]
      omega
theorem max_fold : ∀ (l : List Int) (b n : Int), n ≤ l.foldl max b ↔ n ≤ b ∨ ∃ x ∈ l, n ≤ x
  | [], b, n => by simp
  | x :: l, b, n => by
    rw [List.foldl_cons, max_fold l]
    constructor
    · rintro (h | ⟨y, hy, h⟩)
      · by_cases hb : n ≤ b
        · exact .inl hb
        · exact .inr ⟨x, by simp, by omega⟩
      · exact .inr ⟨y, by simp [hy], h⟩
    · rintro (h | ⟨y, hy, h⟩)
      · exact .inl (by omega)
      · rcases List.mem_cons.1 hy with rfl | hy
        · exact .inl (by omega)
        · exact .inr ⟨y, hy, h⟩
/-- There is a whole tour that is good from this start. -/
def hasW (r : Route) (s : Int) : Prop := ∃ t ∈ allR r, t.length = r.n ∧ s ≤ leavesS r t
theorem goodR_setS {r : Route} (hr : RouteOk r) {s : Int} (hs : 0 ≤ s ∧ s ≤ 1440) {t : List Nat} : t ∈ goodR (setS r s) true ↔ t ∈ allR r ∧ t.length = r.n ∧ s ≤ leavesS r t := by
  unfold goodR
  rw [List.mem_filter]
  have e : allR (setS r s) = allR r := rfl
  have en : (setS r s).n = r.n := rfl
  rw [e]
  refine and_congr_right fun ht => ?_
  have := ridden_setS hr hs (allR_ok _ ht).2
  simp only [goodP, Bool.not_true, Bool.false_or, Bool.and_eq_true, beq_iff_eq, en]
  rw [this]
theorem latestB_has {r : Route} (hr : RouteOk r) {s : Int} (hs : 0 ≤ s) : s ≤ latestB r (wholes (zero r)) ↔ hasW r s := by
  have e : ((wholes (zero r)).map fun p => leavesS r p.1) = (goodR (zero r) true).map (leavesS r) := by
    rw [← wholes_eq, List.map_map]; rfl
  unfold latestB
  rw [e, max_fold]
  have ez : zero r = setS r 0 := rfl
  rw [ez]
  constructor
  · rintro (h | ⟨x, hx, h4⟩)
    · omega
    · obtain ⟨t, ht, rfl⟩ := List.mem_map.1 hx
      obtain ⟨h1, h2, _⟩ := (goodR_setS hr (s := 0) (by omega)).1 ht
      exact ⟨t, h1, h2, h4⟩
  · rintro ⟨t, h1, h2, h4⟩
    exact .inr ⟨_, List.mem_map.2 ⟨t, (goodR_setS hr (s := 0) (by omega)).2 ⟨h1, h2, by omega⟩, rfl⟩, h4⟩
theorem rlatB_has {r : Route} {s : Int} (hs : 0 ≤ s) : s ≤ rlatB r (allR r) ↔ hasW r s := by
  have h : ∀ (l : List (List Nat)) (b : Int), s ≤ l.foldl (lateF r) b ↔ s ≤ b ∨ ∃ t ∈ l, t.length = r.n ∧ s ≤ leavesS r t := by
    intro l
    induction l with
    | nil => intro b; simp
    | cons t l ih =>
      intro b
      rw [List.foldl_cons, ih]
      have e : s ≤ lateF r b t ↔ s ≤ b ∨ (t.length = r.n ∧ s ≤ leavesS r t) := by
        unfold lateF
        split
        · rename_i hl
          simp only [hl, true_and]
          omega
        · rename_i hl
          simp only [hl, false_and, or_false]
      rw [e]
      constructor
      · rintro ((h | h) | ⟨u, hu, h⟩)
        · exact .inl h
        · exact .inr ⟨t, by simp, h⟩
        · exact .inr ⟨u, by simp [hu], h⟩
      · rintro (h | ⟨u, hu, h⟩)
        · exact .inl (.inl h)
        · rcases List.mem_cons.1 hu with rfl | hu
          · exact .inl (.inr h)
          · exact .inr ⟨u, hu, h⟩
  unfold rlatB hasW
  rw [h]
  constructor
  · rintro (h | h)
    · omega
    · exact h
  · exact .inr
theorem fold_low (f : Int → List Nat → Int) (hf : ∀ b t, b ≤ f b t) : ∀ (l : List (List Nat)) (b : Int), b ≤ l.foldl f b
  | [], b => Int.le_refl _
  | t :: l, b => Int.le_trans (hf b t) (fold_low f hf l _)
theorem late_eq {r : Route} (hr : RouteOk r) : latestB r (wholes (zero r)) = rlatB r (allR r) := by
  have h1 : -1 ≤ latestB r (wholes (zero r)) := (max_fold _ _ _).2 (.inl (Int.le_refl _))
  have h2 : -1 ≤ rlatB r (allR r) := fold_low (lateF r) (fun b t => by unfold lateF; split <;> omega) _ _
  refine Int.le_antisymm ?_ ?_
  · by_cases h : latestB r (wholes (zero r)) = -1
    · omega
    · exact (rlatB_has (by omega)).2 ((latestB_has hr (by omega)).1 (Int.le_refl _))
  · by_cases h : rlatB r (allR r) = -1
    · omega
    · exact (latestB_has hr (by omega)).2 ((rlatB_has (by omega)).1 (Int.le_refl _))
theorem latest_eq (r : Route) : latestS r = rlatS r := by
  unfold latestS rlatS
  by_cases h : r.ok = true
  · simp only [h, if_true]
    rw [late_eq (Route.ok_spec h)]
  · simp only [h, if_false]; rfl
end Go.Proofs.Ytbejgfpaokcnpaa

namespace Go.Proofs.Ytbejgfpaokcnpaa
open Go Go.V
@[reducible] def o13_0 : List Ins := [⟨(some 1), .box 3 (.t 0), none, true⟩,
  ⟨(some 2), .mv (.k (.c (.bool false))), none, true⟩]
@[reducible] def o13_1 : List Ins := [⟨(some 3), .ld false 3 (.t 1), none, true⟩,
  ⟨(some 4), .call (.k (.fn 19 [])) [(.t 3)], none, true⟩,
  ⟨(some 5), .un .not (.t 4), none, true⟩,
  ⟨(some 6), .mv (.t 5), none, true⟩,
  ⟨(some 7), .ld false 3 (.t 1), (some (6, true)), true⟩,
  ⟨(some 8), .call (.k (.fn 27 [])) [(.t 7)], (some (6, true)), true⟩,
  ⟨(some 9), .bin .eql (.t 8) (.k (.c (.int .i64 0))), (some (6, true)), true⟩,
  ⟨(some 10), .pick (.t 6) (.t 9) (.k (.c (.bool false))), none, true⟩,
  ⟨(some 2), .mv (.t 10), none, true⟩]
@[reducible] def v13_2 : VC := (.seq (.ops o13_1) .ret)
def ir13 : FC := ⟨1, 11, [.t 2], (.seq (.ops o13_0) v13_2)⟩
@[reducible] def o16_0 : List Ins := [⟨(some 2), .mv (.k (.c (.bool false))), none, true⟩]
@[reducible] def o16_1 : List Ins := [⟨(some 3), .mv (.t 0), none, true⟩,
  ⟨(some 4), .bin .eql (.t 3) (.k (.c (.int .i64 0))), none, true⟩,
  ⟨(some 5), .mv (.t 4), none, true⟩,
  ⟨(some 6), .mv (.t 0), (some (5, false)), true⟩,
  ⟨(some 7), .bin .eql (.t 6) (.k (.c (.int .i64 3))), (some (5, false)), true⟩,
  ⟨(some 8), .pick (.t 5) (.k (.c (.bool true))) (.t 7), none, true⟩,
  ⟨(some 2), .mv (.t 8), none, true⟩]
@[reducible] def v16_2 : VC := (.seq (.ops o16_1) .ret)
def ir16 : FC := ⟨1, 9, [.t 2], (.seq (.ops o16_0) v16_2)⟩
@[reducible] def o3_0 : List Ins := [⟨(some 2), .box 3 (.t 0), none, true⟩,
  ⟨(some 4), .mv (.k (.c (.bool false))), none, true⟩]
@[reducible] def o3_1 : List Ins := [⟨(some 10), .ld false 3 (.t 2), none, true⟩,
  ⟨(some 11), .call (.k (.fn 13 [])) [(.t 10)], none, true⟩,
  ⟨(some 12), .un .not (.t 11), none, true⟩,
  ⟨(some 13), .mv (.t 12), none, true⟩,
  ⟨(some 14), .mv (.t 1), (some (13, false)), true⟩,
  ⟨(some 15), .bin .lss (.t 14) (.k (.c (.int .i64 0))), (some (13, false)), true⟩,
  ⟨(some 16), .pick (.t 13) (.k (.c (.bool true))) (.t 15), none, true⟩,
  ⟨(some 17), .mv (.t 16), none, true⟩,
  ⟨(some 18), .mv (.t 1), (some (17, false)), true⟩,
  ⟨(some 19), .bin .gtr (.t 18) (.k (.c (.int .i64 1440))), (some (17, false)), true⟩,
  ⟨(some 20), .pick (.t 17) (.k (.c (.bool true))) (.t 19), none, true⟩]
@[reducible] def o3_2 : List Ins := [⟨(some 21), .call (.k (.fn 14 [])) [], none, true⟩,
  ⟨(some 4), .mv (.t 21), none, true⟩]
@[reducible] def v3_3 : VC := (.seq (.ops o3_2) .ret)
@[reducible] def v3_4 : VC := (.cond (.t 20) v3_3 .skip)
@[reducible] def o3_5 : List Ins := [⟨(some 23), .ld false 3 (.t 2), none, true⟩,
  ⟨(some 24), .call (.k (.fn 15 [])) [(.t 23)], none, true⟩,
  ⟨(some 22), .mv (.t 24), none, true⟩,
  ⟨(some 25), .ext (.t 22) 0, none, true⟩,
  ⟨(some 26), .ext (.t 22) 1, none, true⟩,
  ⟨(some 5), .mv (.t 25), none, true⟩,
  ⟨(some 6), .mv (.t 26), none, true⟩]
@[reducible] def o3_6 : List Ins := [⟨(some 27), .mv (.t 6), none, true⟩,
  ⟨(some 28), .call (.k (.fn 16 [])) [(.t 27)], none, true⟩,
  ⟨(some 29), .un .not (.t 28), none, true⟩,
  ⟨(some 30), .mv (.t 29), none, true⟩,
  ⟨(some 31), .mv (.t 6), (some (30, false)), true⟩,
  ⟨(some 32), .bin .eql (.t 31) (.k (.c (.int .i64 0))), (some (30, false)), true⟩,
  ⟨(some 33), .mv (.t 32), (some (30, false)), true⟩,
  ⟨(some 34), .mv (.t 5), (some (33, true)), true⟩,
  ⟨(some 35), .bin .lss (.t 34) (.k (.c (.int .i64 0))), (some (33, true)), true⟩,
  ⟨(some 36), .mv (.t 35), (some (33, true)), true⟩,
  ⟨(some 37), .mv (.t 5), (some (36, false)), true⟩,
  ⟨(some 38), .bin .gtr (.t 37) (.k (.c (.int .i64 1440))), (some (36, false)), true⟩,
  ⟨(some 39), .pick (.t 36) (.k (.c (.bool true))) (.t 38), (some (33, true)), true⟩,
  ⟨(some 40), .pick (.t 33) (.t 39) (.k (.c (.bool false))), (some (30, false)), true⟩,
  ⟨(some 41), .pick (.t 30) (.k (.c (.bool true))) (.t 40), none, true⟩]
@[reducible] def o3_7 : List Ins := [⟨(some 4), .mv (.k (.c (.bool false))), none, true⟩]
@[reducible] def v3_8 : VC := (.seq (.ops o3_7) .ret)
@[reducible] def v3_9 : VC := (.cond (.t 41) v3_8 .skip)
@[reducible] def o3_10 : List Ins := [⟨(some 42), .ld false 3 (.t 2), none, true⟩,
  ⟨(some 43), .call (.k (.fn 17 [])) [(.t 42)], none, true⟩,
  ⟨(some 7), .alloc [(.c (.raw (.slice none 0 0))), (.c (.raw (.slice none 0 0))), (.c (.int .i64 0))], none, true⟩,
  ⟨none, .st 3 (.t 7) (.t 43), none, true⟩]
@[reducible] def o3_11 : List Ins := [⟨(some 44), .mv (.t 1), none, true⟩,
  ⟨(some 45), .fa 2 (.t 7), none, true⟩,
  ⟨none, .st 1 (.t 45) (.t 44), none, true⟩]
@[reducible] def o3_12 : List Ins := [⟨(some 47), .ld false 3 (.t 7), none, true⟩,
  ⟨(some 48), .call (.k (.fn 18 [])) [(.t 47)], none, true⟩,
  ⟨(some 46), .mv (.t 48), none, true⟩,
  ⟨(some 49), .ext (.t 46) 0, none, true⟩,
  ⟨(some 50), .ext (.t 46) 1, none, true⟩,
  ⟨(some 8), .mv (.t 49), none, true⟩,
  ⟨(some 9), .mv (.t 50), none, true⟩]
@[reducible] def o3_13 : List Ins := [⟨(some 51), .mv (.t 9), none, true⟩,
  ⟨(some 52), .call (.k (.fn 16 [])) [(.t 51)], none, true⟩,
  ⟨(some 53), .un .not (.t 52), none, true⟩,
  ⟨(some 54), .mv (.t 53), none, true⟩,
  ⟨(some 55), .mv (.t 9), (some (54, false)), true⟩,
  ⟨(some 56), .bin .eql (.t 55) (.k (.c (.int .i64 0))), (some (54, false)), true⟩,
  ⟨(some 57), .mv (.t 6), (some (54, false)), true⟩,
  ⟨(some 58), .bin .eql (.t 57) (.k (.c (.int .i64 0))), (some (54, false)), true⟩,
  ⟨(some 59), .mv (.t 58), (some (54, false)), true⟩,
  ⟨(some 60), .mv (.t 1), (some (59, true)), true⟩,
  ⟨(some 61), .mv (.t 5), (some (59, true)), true⟩,
  ⟨(some 62), .bin .leq (.t 60) (.t 61), (some (59, true)), true⟩,
  ⟨(some 63), .pick (.t 59) (.t 62) (.k (.c (.bool false))), (some (54, false)), true⟩,
  ⟨(some 64), .eqs true (.t 56) (.t 63), (some (54, false)), true⟩,
  ⟨(some 65), .pick (.t 54) (.k (.c (.bool true))) (.t 64), none, true⟩]
@[reducible] def o3_14 : List Ins := [⟨(some 4), .mv (.k (.c (.bool false))), none, true⟩]
@[reducible] def v3_15 : VC := (.seq (.ops o3_14) .ret)
@[reducible] def v3_16 : VC := (.cond (.t 65) v3_15 .skip)
@[reducible] def o3_17 : List Ins := [⟨(some 66), .mv (.t 6), none, true⟩,
  ⟨(some 67), .bin .neq (.t 66) (.k (.c (.int .i64 0))), none, true⟩]
@[reducible] def o3_18 : List Ins := [⟨(some 68), .call (.k (.fn 14 [])) [], none, true⟩,
  ⟨(some 4), .mv (.t 68), none, true⟩]
@[reducible] def v3_19 : VC := (.seq (.ops o3_18) .ret)
@[reducible] def v3_20 : VC := (.cond (.t 67) v3_19 .skip)
@[reducible] def o3_21 : List Ins := [⟨(some 69), .mv (.t 5), none, true⟩,
  ⟨(some 70), .fa 2 (.t 7), none, true⟩,
  ⟨none, .st 1 (.t 70) (.t 69), none, true⟩]
@[reducible] def o3_22 : List Ins := [⟨(some 72), .ld false 3 (.t 7), none, true⟩,
  ⟨(some 73), .call (.k (.fn 18 [])) [(.t 72)], none, true⟩,
  ⟨(some 71), .mv (.t 73), none, true⟩,
  ⟨(some 74), .ext (.t 71) 0, none, true⟩,
  ⟨(some 75), .ext (.t 71) 1, none, true⟩,
  ⟨(some 9), .mv (.t 75), none, true⟩]
@[reducible] def o3_23 : List Ins := [⟨(some 76), .mv (.t 9), none, true⟩,
  ⟨(some 77), .bin .neq (.t 76) (.k (.c (.int .i64 0))), none, true⟩,
  ⟨(some 78), .mv (.t 77), none, true⟩,
  ⟨(some 79), .mv (.t 5), (some (78, false)), true⟩,
  ⟨(some 80), .bin .eql (.t 79) (.k (.c (.int .i64 1440))), (some (78, false)), true⟩,
  ⟨(some 81), .pick (.t 78) (.k (.c (.bool true))) (.t 80), none, true⟩]
@[reducible] def o3_24 : List Ins := [⟨(some 82), .mv (.t 9), none, true⟩,
  ⟨(some 83), .bin .eql (.t 82) (.k (.c (.int .i64 0))), none, true⟩,
  ⟨(some 84), .mv (.t 83), none, true⟩,
  ⟨(some 85), .call (.k (.fn 14 [])) [], (some (84, true)), true⟩,
  ⟨(some 86), .pick (.t 84) (.t 85) (.k (.c (.bool false))), none, true⟩,
  ⟨(some 4), .mv (.t 86), none, true⟩]
@[reducible] def v3_25 : VC := (.seq (.ops o3_24) .ret)
@[reducible] def v3_26 : VC := (.cond (.t 81) v3_25 .skip)
@[reducible] def o3_27 : List Ins := [⟨(some 87), .fa 2 (.t 7), none, true⟩,
  ⟨(some 88), .ld true 1 (.t 87), none, true⟩,
  ⟨(some 89), .bin .add (.t 88) (.k (.c (.int .i64 1))), none, true⟩,
  ⟨(some 90), .fa 2 (.t 7), none, true⟩,
  ⟨none, .st 1 (.t 90) (.t 89), none, true⟩]
@[reducible] def o3_28 : List Ins := [⟨(some 92), .ld false 3 (.t 7), none, true⟩,
  ⟨(some 93), .call (.k (.fn 18 [])) [(.t 92)], none, true⟩,
  ⟨(some 91), .mv (.t 93), none, true⟩,
  ⟨(some 94), .ext (.t 91) 0, none, true⟩,
  ⟨(some 95), .ext (.t 91) 1, none, true⟩,
  ⟨(some 9), .mv (.t 95), none, true⟩]
@[reducible] def o3_29 : List Ins := [⟨(some 96), .mv (.t 9), none, true⟩,
  ⟨(some 97), .bin .eql (.t 96) (.k (.c (.int .i64 3))), none, true⟩,
  ⟨(some 98), .mv (.t 97), none, true⟩,
  ⟨(some 99), .call (.k (.fn 14 [])) [], (some (98, true)), true⟩,
  ⟨(some 100), .pick (.t 98) (.t 99) (.k (.c (.bool false))), none, true⟩,
  ⟨(some 4), .mv (.t 100), none, true⟩]
@[reducible] def v3_30 : VC := (.seq (.ops o3_29) .ret)
@[reducible] def v3_31 : VC := (.seq (.ops o3_28) v3_30)
@[reducible] def v3_32 : VC := (.seq (.ops o3_27) v3_31)
@[reducible] def v3_33 : VC := (.seq (.seq (.ops o3_23) v3_26) v3_32)
@[reducible] def v3_34 : VC := (.seq (.ops o3_22) v3_33)
@[reducible] def v3_35 : VC := (.seq (.ops o3_21) v3_34)
@[reducible] def v3_36 : VC := (.seq (.seq (.ops o3_17) v3_20) v3_35)
@[reducible] def v3_37 : VC := (.seq (.seq (.ops o3_13) v3_16) v3_36)
@[reducible] def v3_38 : VC := (.seq (.ops o3_12) v3_37)
@[reducible] def v3_39 : VC := (.seq (.ops o3_11) v3_38)
@[reducible] def v3_40 : VC := (.seq (.ops o3_10) v3_39)
@[reducible] def v3_41 : VC := (.seq (.seq (.ops o3_6) v3_9) v3_40)
@[reducible] def v3_42 : VC := (.seq (.ops o3_5) v3_41)
@[reducible] def v3_43 : VC := (.seq (.seq (.ops o3_1) v3_4) v3_42)
def ir3 : FC := ⟨2, 101, [.t 4], (.seq (.ops o3_0) v3_43)⟩
theorem c13 : compM Try.prog [] 13 = some ir13 := by kernel_rfl
theorem c16 : compM Try.prog [] 16 = some ir16 := by kernel_rfl
theorem c3 : compM Try.prog [] 3 = some ir3 := by kernel_rfl



def readyS (r : Route) : Bool := !farS r && r.ok
theorem readyS_of {r : Route} (h : readyS r = true) : r.ok = true ∧ near r = true := by
  unfold readyS at h
  simp only [Bool.and_eq_true, Bool.not_eq_true'] at h
  refine ⟨h.2, ?_⟩
  have hf := h.1
  unfold farS at hf
  by_cases hn : near r = true
  · exact hn
  · rw [if_neg hn] at hf; cases hf

set_option maxHeartbeats 2000000 in
theorem ready13 (r : Route) : FSpec Try.prog 13 [r.av] (.c (.bool (readyS r))) := by
  refine FSpec_of c13 (Nat.le_refl _) (by decide) fun C hP hN hC hL => ?_
  simp only [ir13, Route.av]
  (repeat ((first | refine WV_seq_ ?_ | refine WV_block ?_ | refine WV_ops ?_ | refine WV_skip ?_ | refine WV_exit ?_); (try simp only [go_sem, init_env', Nat.reduceEqDiff, Nat.reduceAdd, Nat.reduceMul, reduceIte, Nat.reduceLeDiff, Nat.reduceLT, Nat.reduceBEq, reduceCtorEq, hP, ]); (repeat (refine And.intro (by first | omega | (intros; simp_all; done) | (intros; simp_all; omega)) ?_))))
  (refine AS_pure (far19 r) rfl rfl rfl rfl rfl ?_; simp only [go_sem, init_env', Nat.reduceEqDiff, Nat.reduceAdd, Nat.reduceMul, reduceIte, Nat.reduceLeDiff, Nat.reduceLT, Nat.reduceBEq, reduceCtorEq, hP, Route.av]; (repeat (refine And.intro (by first | omega | (intros; simp_all; done) | (intros; simp_all; omega)) ?_)); (repeat ((first | refine WV_seq_ ?_ | refine WV_block ?_ | refine WV_ops ?_ | refine WV_skip ?_ | refine WV_exit ?_); (try simp only [go_sem, init_env', Nat.reduceEqDiff, Nat.reduceAdd, Nat.reduceMul, reduceIte, Nat.reduceLeDiff, Nat.reduceLT, Nat.reduceBEq, reduceCtorEq, hP, Route.av]); (repeat (refine And.intro (by first | omega | (intros; simp_all; done) | (intros; simp_all; omega)) ?_)))))
  (refine AG_pure (fun hG => check_spec r) rfl (fun hG => by first | (simp only [go_sem, init_env', Nat.reduceEqDiff, Nat.reduceAdd, Nat.reduceMul, reduceIte, Nat.reduceLeDiff, Nat.reduceLT, Nat.reduceBEq, reduceCtorEq, hG]; done) | (simp only [go_sem, init_env', Nat.reduceEqDiff, Nat.reduceAdd, Nat.reduceMul, reduceIte, Nat.reduceLeDiff, Nat.reduceLT, Nat.reduceBEq, reduceCtorEq]; revert hG; simp; done) | (simp only [go_sem, init_env', Nat.reduceEqDiff, Nat.reduceAdd, Nat.reduceMul, reduceIte, Nat.reduceLeDiff, Nat.reduceLT, Nat.reduceBEq, reduceCtorEq, hG]; simp_all; done) | (revert hG; simp; done) | simp_all) rfl rfl rfl ?_; simp only [go_sem, init_env', Nat.reduceEqDiff, Nat.reduceAdd, Nat.reduceMul, reduceIte, Nat.reduceLeDiff, Nat.reduceLT, Nat.reduceBEq, reduceCtorEq, hP, Route.av]; (repeat (refine And.intro (by first | omega | (intros; simp_all; done) | (intros; simp_all; omega)) ?_)); (repeat ((first | refine WV_seq_ ?_ | refine WV_block ?_ | refine WV_ops ?_ | refine WV_skip ?_ | refine WV_exit ?_); (try simp only [go_sem, init_env', Nat.reduceEqDiff, Nat.reduceAdd, Nat.reduceMul, reduceIte, Nat.reduceLeDiff, Nat.reduceLT, Nat.reduceBEq, reduceCtorEq, hP, Route.av]); (repeat (refine And.intro (by first | omega | (intros; simp_all; done) | (intros; simp_all; omega)) ?_)))))
  by_cases hok : r.ok = true
  · simp only [hok, if_true, beq_self_eq_true]
    (try refine ⟨fun h => by simpa using h, ?_⟩)
    (repeat ((first | refine WV_seq_ ?_ | refine WV_block ?_ | refine WV_ops ?_ | refine WV_skip ?_ | refine WV_exit ?_); (try simp only [go_sem, init_env', Nat.reduceEqDiff, Nat.reduceAdd, Nat.reduceMul, reduceIte, Nat.reduceLeDiff, Nat.reduceLT, Nat.reduceBEq, reduceCtorEq, hP, ]); (repeat (refine And.intro (by first | omega | (intros; simp_all; done) | (intros; simp_all; omega)) ?_))))
    (refine WV_ret ?_; simp only [thenQ, inQ, RetQ, RetOk, resAll, resA]; simp only [go_sem, init_env', Nat.reduceEqDiff, Nat.reduceAdd, Nat.reduceMul, reduceIte, Nat.reduceLeDiff, Nat.reduceLT, Nat.reduceBEq, reduceCtorEq, tupA, AV.port, AV.portL, exists_eq_left', ]; (first | exact AVle.of rfl | refine AVle.of ?_ | skip))
    simp [readyS, hok]
  · have hok : r.ok = false := by simpa using hok
    simp only [hok, Bool.false_eq_true, if_false]
    (try refine ⟨fun h => by simpa using h, ?_⟩)
    (repeat ((first | refine WV_seq_ ?_ | refine WV_block ?_ | refine WV_ops ?_ | refine WV_skip ?_ | refine WV_exit ?_); (try simp only [go_sem, init_env', Nat.reduceEqDiff, Nat.reduceAdd, Nat.reduceMul, reduceIte, Nat.reduceLeDiff, Nat.reduceLT, Nat.reduceBEq, reduceCtorEq, hP, ]); (repeat (refine And.intro (by first | omega | (intros; simp_all; done) | (intros; simp_all; omega)) ?_))))
    (refine WV_ret ?_; simp only [thenQ, inQ, RetQ, RetOk, resAll, resA]; simp only [go_sem, init_env', Nat.reduceEqDiff, Nat.reduceAdd, Nat.reduceMul, reduceIte, Nat.reduceLeDiff, Nat.reduceLT, Nat.reduceBEq, reduceCtorEq, tupA, AV.port, AV.portL, exists_eq_left', ]; (first | exact AVle.of rfl | refine AVle.of ?_ | skip))
    simp [readyS, hok]

def knownS (e : Int) : Bool := e == 0 || e == 3
theorem known16 (e : Int) : FSpec Try.prog 16 [iv e] (.c (.bool (knownS e))) := by
  refine FSpec_of c16 (Nat.le_refl _) (by decide) fun C hP hN hC hL => ?_
  simp only [ir16]
  (repeat ((first | refine WV_seq_ ?_ | refine WV_block ?_ | refine WV_ops ?_ | refine WV_skip ?_ | refine WV_exit ?_); (try simp only [go_sem, init_env', Nat.reduceEqDiff, Nat.reduceAdd, Nat.reduceMul, reduceIte, Nat.reduceLeDiff, Nat.reduceLT, Nat.reduceBEq, reduceCtorEq, hP, ]); (repeat (refine And.intro (by first | omega | (intros; simp_all; done) | (intros; simp_all; omega)) ?_))))
  (refine WV_ret ?_; simp only [thenQ, inQ, RetQ, RetOk, resAll, resA]; simp only [go_sem, init_env', Nat.reduceEqDiff, Nat.reduceAdd, Nat.reduceMul, reduceIte, Nat.reduceLeDiff, Nat.reduceLT, Nat.reduceBEq, reduceCtorEq, tupA, AV.port, AV.portL, exists_eq_left', ]; (first | exact AVle.of rfl | refine AVle.of ?_ | skip))

end Go.Proofs.Ytbejgfpaokcnpaa

namespace Go.Proofs.Ytbejgfpaokcnpaa
open Go Go.V
@[reducible] def o42_0 : List Ins := [⟨(some 1), .box 3 (.t 0), none, true⟩,
  ⟨(some 2), .mv (.k (.c (.raw (.slice none 0 0)))), none, true⟩,
  ⟨(some 3), .mv (.k (.c (.int .i64 0))), none, true⟩]
@[reducible] def o42_1 : List Ins := [⟨(some 9), .ld false 3 (.t 1), none, true⟩,
  ⟨(some 10), .call (.k (.fn 26 [])) [(.t 9)], none, true⟩,
  ⟨(some 4), .mv (.t 10), none, true⟩]
@[reducible] def o42_2 : List Ins := [⟨(some 11), .mv (.t 4), none, true⟩,
  ⟨(some 12), .bin .neq (.t 11) (.k (.c (.int .i64 0))), none, true⟩]
@[reducible] def o42_3 : List Ins := [⟨(some 13), .mv (.t 4), none, true⟩,
  ⟨(some 2), .mv (.k (.c (.raw (.slice none 0 0)))), none, true⟩,
  ⟨(some 3), .mv (.t 13), none, true⟩]
@[reducible] def v42_4 : VC := (.seq (.ops o42_3) .ret)
@[reducible] def v42_5 : VC := (.cond (.t 12) v42_4 .skip)
@[reducible] def v42_6 : VC := (.seq (.ops o42_2) v42_5)
@[reducible] def o42_7 : List Ins := [⟨(some 5), .alloc [(.c (.bool false)), (.c (.bool false)), (.c (.bool false)), (.c (.bool false)), (.c (.bool false)), (.c (.bool false)), (.c (.bool false))], none, true⟩]
@[reducible] def o42_8 : List Ins := [⟨(some 14), .call (.k (.fn 66 [])) [(.t 1)], none, true⟩]
@[reducible] def o42_9 : List Ins := [⟨(some 17), .mv (.t 6), none, true⟩,
  ⟨(some 18), .len (.t 17), none, true⟩,
  ⟨(some 19), .bin .gtr (.t 18) (.k (.c (.int .i64 0))), none, true⟩]
@[reducible] def o42_10 : List Ins := [⟨(some 20), .mv (.t 6), none, true⟩,
  ⟨(some 21), .mv (.t 6), none, true⟩,
  ⟨(some 22), .len (.t 21), none, true⟩,
  ⟨(some 23), .bin .sub (.t 22) (.k (.c (.int .i64 1))), none, true⟩,
  ⟨(some 24), .ia 1 (.t 20) (.t 23), none, true⟩,
  ⟨(some 25), .ld true 1 (.t 24), none, true⟩,
  ⟨(some 26), .iap 7 1 (.t 5) (.t 25), none, true⟩,
  ⟨none, .st 1 (.t 26) (.k (.c (.bool true))), none, true⟩]
@[reducible] def v42_11 : VC := (.cond (.t 19) (.ops o42_10) .skip)
@[reducible] def v42_12 : VC := (.seq (.ops o42_9) v42_11)
@[reducible] def v42_13 : VC := (.block 1 v42_12)
@[reducible] def o42_14 : List Ins := [⟨(some 6), .mv (.t 15), none, true⟩]
@[reducible] def K42_1 : List Nat := [1, 5, 14]
@[reducible] def v42_15 : VC := (.rng (.t 14) [15, 16] (.ops o42_14) v42_13)
@[reducible] def v42_16 : VC := (.block 0 v42_15)
@[reducible] def o42_17 : List Ins := [⟨(some 7), .mv (.k (.c (.raw (.slice none 0 0)))), none, true⟩]
@[reducible] def o42_18 : List Ins := [⟨(some 27), .fa 0 (.t 1), none, true⟩,
  ⟨(some 28), .ld true 1 (.t 27), none, true⟩,
  ⟨(some 29), .len (.t 28), none, true⟩,
  ⟨(some 30), .mv (.k (.c (.int .i64 0))), none, true⟩]
@[reducible] def o42_19 : List Ins := [⟨(some 31), .bin .lss (.t 30) (.t 29), none, true⟩]
@[reducible] def o42_20 : List Ins := [⟨(some 32), .mv (.t 30), none, true⟩,
  ⟨(some 8), .mv (.t 32), none, true⟩]
@[reducible] def o42_21 : List Ins := [⟨(some 33), .mv (.t 8), none, true⟩,
  ⟨(some 34), .iap 7 1 (.t 5) (.t 33), none, true⟩,
  ⟨(some 35), .ld true 1 (.t 34), none, true⟩,
  ⟨(some 36), .un .not (.t 35), none, true⟩]
@[reducible] def o42_22 : List Ins := [⟨(some 37), .mv (.t 7), none, true⟩,
  ⟨(some 38), .mv (.t 8), none, true⟩,
  ⟨(some 39), .bsl 3 1 [(.t 38)], none, true⟩,
  ⟨(some 40), .app 3 1 8 (.t 37) (.t 39), none, true⟩,
  ⟨(some 7), .mv (.t 40), none, true⟩]
@[reducible] def v42_23 : VC := (.cond (.t 36) (.ops o42_22) .skip)
@[reducible] def v42_24 : VC := (.seq (.ops o42_21) v42_23)
@[reducible] def v42_25 : VC := (.seq (.ops o42_20) v42_24)
@[reducible] def o42_26 : List Ins := [⟨(some 41), .bin .add (.t 30) (.k (.c (.int .i64 1))), none, true⟩,
  ⟨(some 30), .mv (.t 41), none, true⟩]
@[reducible] def v42_27 : VC := (.seq (.block 3 v42_25) (.ops o42_26))
@[reducible] def v42_28 : VC := (.seq (.cond (.t 31) .skip (.exit 2)) v42_27)
@[reducible] def v42_29 : VC := (.seq (.ops o42_19) v42_28)
-- K42_2: changed and kept: [30, 7]
@[reducible] def K42_2 : List Nat := [5, 29]
@[reducible] def v42_30 : VC := (.loop v42_29)
@[reducible] def v42_31 : VC := (.block 2 v42_30)
@[reducible] def o42_32 : List Ins := [⟨(some 42), .mv (.t 7), none, true⟩,
  ⟨(some 2), .mv (.t 42), none, true⟩,
  ⟨(some 3), .mv (.k (.c (.int .i64 0))), none, true⟩]
@[reducible] def v42_33 : VC := (.seq (.ops o42_32) .ret)
@[reducible] def v42_34 : VC := (.seq (.seq (.ops o42_18) v42_31) v42_33)
@[reducible] def v42_35 : VC := (.seq (.ops o42_17) v42_34)
@[reducible] def v42_36 : VC := (.seq (.seq (.ops o42_8) v42_16) v42_35)
@[reducible] def v42_37 : VC := (.seq (.ops o42_7) v42_36)
@[reducible] def v42_38 : VC := (.seq (.seq (.ops o42_1) v42_6) v42_37)
def ir42 : FC := ⟨1, 43, [.t 2, .t 3], (.seq (.ops o42_0) v42_38)⟩
theorem c42 : compM Try.prog [] 42 = some ir42 := by kernel_rfl



theorem seenC_pure (l : List Int) : AV.pureL (seenC l) = true := rfl
theorem seenC_solid (l : List Int) : AV.isSolidL (seenC l) = true := rfl
/-- The last stops of tours. -/
def lasts (l : List (List Nat × Van)) : List Int := l.filterMap fun p => p.1.getLast?.map fun (k : Nat) => (k : Int)
theorem lasts_snoc (l : List (List Nat × Van)) (p : List Nat × Van) : lasts (l ++ [p]) = lasts l ++ (p.1.getLast?.map fun (k : Nat) => (k : Int)).toList := by
  unfold lasts
  rw [List.filterMap_append]
  cases h : p.1.getLast? <;> simp [h]
/-- The stops up to k that are none of these. -/
def shutL (s : List Int) (k : Nat) : List Int := ((List.range k).map fun (n : Nat) => (n : Int)).filter fun n => !decide (n ∈ s)
theorem shutL_succ (s : List Int) (k : Nat) : shutL s (k + 1) = shutL s k ++ (if (k : Int) ∈ s then [] else [(k : Int)]) := by
  unfold shutL
  rw [List.range_succ, List.map_append, List.filter_append]
  by_cases h : (k : Int) ∈ s <;> simp [h]
theorem shutL_len (s : List Int) (k : Nat) : (shutL s k).length ≤ k := by
  unfold shutL
  exact Nat.le_trans (List.length_filter_le _ _) (by simp)
def shutS (r : Route) : List Int × Int := if r.ok then (shutL (lasts (goods r)) r.n, 0) else ([], 80)

set_option maxHeartbeats 4000000 in
theorem shut42 (r : Route) : FSpec Try.prog 42 [r.av] (.tup [.c (ints (shutS r).1), iv (shutS r).2]) := by
  refine FSpec_of c42 (Nat.le_refl _) (by decide) fun C hP hN hC hL => ?_
  simp only [ir42, Route.av]
  (repeat ((first | refine WV_seq_ ?_ | refine WV_block ?_ | refine WV_ops ?_ | refine WV_skip ?_ | refine WV_exit ?_); (try simp only [go_sem, init_env', Nat.reduceEqDiff, Nat.reduceAdd, Nat.reduceMul, reduceIte, Nat.reduceLeDiff, Nat.reduceLT, Nat.reduceBEq, reduceCtorEq, hP, ]); (repeat (refine And.intro (by first | omega | (intros; simp_all; done) | (intros; simp_all; omega)) ?_))))
  (refine AS_pure (rcheck_spec r) rfl rfl rfl rfl rfl ?_; simp only [go_sem, init_env', Nat.reduceEqDiff, Nat.reduceAdd, Nat.reduceMul, reduceIte, Nat.reduceLeDiff, Nat.reduceLT, Nat.reduceBEq, reduceCtorEq, hP, Route.av]; (repeat (refine And.intro (by first | omega | (intros; simp_all; done) | (intros; simp_all; omega)) ?_)); (repeat ((first | refine WV_seq_ ?_ | refine WV_block ?_ | refine WV_ops ?_ | refine WV_skip ?_ | refine WV_exit ?_); (try simp only [go_sem, init_env', Nat.reduceEqDiff, Nat.reduceAdd, Nat.reduceMul, reduceIte, Nat.reduceLeDiff, Nat.reduceLT, Nat.reduceBEq, reduceCtorEq, hP, Route.av]); (repeat (refine And.intro (by first | omega | (intros; simp_all; done) | (intros; simp_all; omega)) ?_)))))
  by_cases hok : r.ok = true
  · have hr := Route.ok_spec hok
    have hn7 := hr.n7
    simp only [hok, if_true]
    (refine WV_cond rfl (fun h => ?_) (fun h => ?_))
    · simp at h
    · clear h
      have hsl : (r.stops.length : Int) = (r.n : Int) := rfl
      refine WV_freeze 1 (ds := r.cds) rfl rfl ?_
      (repeat ((first | refine WV_seq_ ?_ | refine WV_block ?_ | refine WV_ops ?_ | refine WV_skip ?_ | refine WV_exit ?_); (try simp only [go_sem, init_env', Nat.reduceEqDiff, Nat.reduceAdd, Nat.reduceMul, reduceIte, Nat.reduceLeDiff, Nat.reduceLT, Nat.reduceBEq, reduceCtorEq, hP, ]); (repeat (refine And.intro (by first | omega | (intros; simp_all; done) | (intros; simp_all; omega)) ?_))))
      (refine AS_pure (tours66 r) rfl rfl rfl rfl rfl ?_; simp only [go_sem, init_env', Nat.reduceEqDiff, Nat.reduceAdd, Nat.reduceMul, reduceIte, Nat.reduceLeDiff, Nat.reduceLT, Nat.reduceBEq, reduceCtorEq, hP, ]; (repeat (refine And.intro (by first | omega | (intros; simp_all; done) | (intros; simp_all; omega)) ?_)); (repeat ((first | refine WV_seq_ ?_ | refine WV_block ?_ | refine WV_ops ?_ | refine WV_skip ?_ | refine WV_exit ?_); (try simp only [go_sem, init_env', Nat.reduceEqDiff, Nat.reduceAdd, Nat.reduceMul, reduceIte, Nat.reduceLeDiff, Nat.reduceLT, Nat.reduceBEq, reduceCtorEq, hP, ]); (repeat (refine And.intro (by first | omega | (intros; simp_all; done) | (intros; simp_all; omega)) ?_)))))
      refine WV_keep K42_1 ?_
      simp only [go_sem, init_env', Nat.reduceEqDiff, Nat.reduceAdd, Nat.reduceMul, reduceIte, Nat.reduceLeDiff, Nat.reduceLT, Nat.reduceBEq, reduceCtorEq]
      refine WV_rng hC (L := [5]) (l := [.box (seenC (lasts []))]) (env' := lendF [5] _ _) (rem := (goods r).map (entT r)) (Fin := fun pend lf => pend = none ∧ lf = [.box (seenC (lasts (goods r)))]) rfl rfl rfl (by decide) (by decide) ?_ (by rw [hN]; decide) (lendF_ok _ _ _) (fun g' => ?_) ?_ ?_
      · simp only [go_sem, init_env', Nat.reduceEqDiff, Nat.reduceAdd, Nat.reduceMul, reduceIte, Nat.reduceLeDiff, Nat.reduceLT, Nat.reduceBEq, reduceCtorEq, obsLend, Ob.lend, AV.lendL, AV.lend]
        rfl
      · rw [hP]; exact ⟨_, tours74 hr g', fun _ _ h => h⟩
      · refine RunR_pre (entT r) (fun pre => [.box (seenC (lasts pre))]) (goods r) (fun p => rfl) (fun t _ => ⟨rfl, rfl⟩) (fun pre p post hts => ?_) (goods r) [] rfl
        have hpo := goods_ok hr p (by rw [hts]; simp)
        have hple := goods_len hr (p := p) (by rw [hts]; simp)
        have hprg : ∀ d, AV.prgL d (cellsT p.1) = cellsT p.1 := fun d => prgL_pure d (cellsT_pure _)
        simp only [lasts_snoc]
        intro C1 h1 h2 h3
        have hP0 := hP
        replace hP := h1.trans hP0
        rw [ownW_upd (by simp)]
        generalize lasts pre = s
        have hpsg : ∀ d s, AV.prgL d (seenC s) = seenC s := fun d s => prgL_pure d (seenC_pure _)
        simp only [go_sem, init_env', Nat.reduceEqDiff, Nat.reduceAdd, Nat.reduceMul, reduceIte, Nat.reduceLeDiff, Nat.reduceLT, Nat.reduceBEq, reduceCtorEq, lendF_upd, lendF_e0, AV.lend, AV.lendL, Option.getD_some, Option.getD_none, List.zip_cons_cons, List.zip_nil_right, updLo, entT, vanv]
        (repeat ((first | refine WV_seq_ ?_ | refine WV_block ?_ | refine WV_ops ?_ | refine WV_skip ?_ | refine WV_exit ?_); (try simp only [go_sem, init_env', Nat.reduceEqDiff, Nat.reduceAdd, Nat.reduceMul, reduceIte, Nat.reduceLeDiff, Nat.reduceLT, Nat.reduceBEq, reduceCtorEq, hP, hpsg]); (repeat (refine And.intro (by first | omega | (intros; simp_all; done) | (intros; simp_all; omega)) ?_))))
        intro C2 h1 h2 h3
        replace hP := h1.trans hP0
        (repeat ((first | refine WV_seq_ ?_ | refine WV_block ?_ | refine WV_ops ?_ | refine WV_skip ?_ | refine WV_exit ?_); (try simp only [go_sem, init_env', Nat.reduceEqDiff, Nat.reduceAdd, Nat.reduceMul, reduceIte, Nat.reduceLeDiff, Nat.reduceLT, Nat.reduceBEq, reduceCtorEq, hP, hprg, hpsg]); (repeat (refine And.intro (by first | omega | (intros; simp_all; done) | (intros; simp_all; omega)) ?_))))
        (refine WV_cond rfl (fun h => ?_) (fun h => ?_))
        · have h : 0 < p.1.length := by simpa using h
          obtain ⟨m, hm⟩ : ∃ m, p.1.length = m + 1 := ⟨p.1.length - 1, by omega⟩
          have hml : m < p.1.length := by omega
          have hkk := hpo.2.1 _ (List.getElem_mem hml)
          have hm7 : p.1[m] < 7 := by omega
          have hla : p.1.getLast? = some p.1[m] := by rw [List.getLast?_eq_getElem?, hm, Nat.add_sub_cancel, List.getElem?_eq_getElem]
          have hw := w64 (n := ((m + 1 : Nat) : Int) - 1) (by omega) (by omega)
          have ew : ((m + 1 : Nat) : Int) - 1 = (m : Int) := by omega
          rw [ew] at hw
          rw [hla]
          simp only [Option.map_some, Option.toList_some]
          (repeat ((first | refine WV_seq_ ?_ | refine WV_block ?_ | refine WV_ops ?_ | refine WV_skip ?_ | refine WV_exit ?_); (try simp only [go_sem, init_env', Nat.reduceEqDiff, Nat.reduceAdd, Nat.reduceMul, reduceIte, Nat.reduceLeDiff, Nat.reduceLT, Nat.reduceBEq, reduceCtorEq, hP, hprg, hpsg, hm, ew, hw, cellsT_len, cellsT_getD hml, Int.toNat_natCast, Nat.mul_one, Int.natCast_nonneg, seenC_len, seenC_set _ hm7]); (repeat (refine And.intro (by first | omega | (intros; simp_all; done) | (intros; simp_all; omega)) ?_))))
          refine ⟨none, _, rfl, ?_, rfl, rfl⟩
          refine KeepL_mk rfl rfl ?_ ?_ rfl
          · simp only [go_sem, init_env', Nat.reduceEqDiff, Nat.reduceAdd, Nat.reduceMul, reduceIte, Nat.reduceLeDiff, Nat.reduceLT, Nat.reduceBEq, reduceCtorEq, keepAll, Ob.keepP, keepPL_pure (seenC_pure _) (seenC_solid _)]
          · simp only [go_sem, init_env', Nat.reduceEqDiff, Nat.reduceAdd, Nat.reduceMul, reduceIte, Nat.reduceLeDiff, Nat.reduceLT, Nat.reduceBEq, reduceCtorEq, winAll]
        · have h : p.1 = [] := by simpa using h
          rw [h]
          simp only [List.getLast?_nil, Option.map_none, Option.toList_none, List.append_nil]
          (repeat ((first | refine WV_seq_ ?_ | refine WV_block ?_ | refine WV_ops ?_ | refine WV_skip ?_ | refine WV_exit ?_); (try simp only [go_sem, init_env', Nat.reduceEqDiff, Nat.reduceAdd, Nat.reduceMul, reduceIte, Nat.reduceLeDiff, Nat.reduceLT, Nat.reduceBEq, reduceCtorEq, hP, ]); (repeat (refine And.intro (by first | omega | (intros; simp_all; done) | (intros; simp_all; omega)) ?_))))
          refine ⟨none, _, rfl, ?_, rfl, rfl⟩
          refine KeepL_mk rfl rfl ?_ ?_ rfl
          · simp only [go_sem, init_env', Nat.reduceEqDiff, Nat.reduceAdd, Nat.reduceMul, reduceIte, Nat.reduceLeDiff, Nat.reduceLT, Nat.reduceBEq, reduceCtorEq, keepAll, Ob.keepP, keepPL_pure (seenC_pure _) (seenC_solid _)]
          · simp only [go_sem, init_env', Nat.reduceEqDiff, Nat.reduceAdd, Nat.reduceMul, reduceIte, Nat.reduceLeDiff, Nat.reduceLT, Nat.reduceBEq, reduceCtorEq, winAll]
      · rintro _ _ ⟨rfl, rfl⟩
        have hbk := backs_pure (L := [5]) (seenC_pure (lasts (goods r)))
        refine ⟨[.box (seenC (lasts (goods r)))], by simp only [obsBack, Ob.back, hbk]; rfl, rfl, ?_⟩
        simp only [go_sem, init_env', Nat.reduceEqDiff, Nat.reduceAdd, Nat.reduceMul, reduceIte, Nat.reduceLeDiff, Nat.reduceLT, Nat.reduceBEq, reduceCtorEq, exitOf, ownBack]
        (repeat ((first | refine WV_seq_ ?_ | refine WV_block ?_ | refine WV_ops ?_ | refine WV_skip ?_ | refine WV_exit ?_); (try simp only [go_sem, init_env', Nat.reduceEqDiff, Nat.reduceAdd, Nat.reduceMul, reduceIte, Nat.reduceLeDiff, Nat.reduceLT, Nat.reduceBEq, reduceCtorEq, hP, Route.cds, stopsC]); (repeat (refine And.intro (by first | omega | (intros; simp_all; done) | (intros; simp_all; omega)) ?_))))
        generalize hs : lasts (goods r) = s
        have hpsg : ∀ d s, AV.prgL d (seenC s) = seenC s := fun d s => prgL_pure d (seenC_pure _)
        refine WV_nilslot 7 40 3 1 (by decide) (by decide) rfl rfl ?_
        simp only [go_sem, init_env', Nat.reduceEqDiff, Nat.reduceAdd, Nat.reduceMul, reduceIte, Nat.reduceLeDiff, Nat.reduceLT, Nat.reduceBEq, reduceCtorEq, hpsg]
        have hmax : maxLen = 9223372036854775807 := rfl
        refine WV_loopK K42_2 [5, 40] (fun k : Nat => k ≤ r.n) (fun k => r.n - k) (fun k => [(30, iv k), (7, .gr 40)]) (fun k => [(5, .box (seenC s)), (40, .grow 3 1 ((shutL s k).map fun n => [.int .i64 n]))]) 0 (Nat.zero_le _) ?_ ?_
        · (refine Sub_of (by simp only [go_sem, init_env', Nat.reduceEqDiff, Nat.reduceAdd, Nat.reduceMul, reduceIte, Nat.reduceLeDiff, Nat.reduceLT, Nat.reduceBEq, reduceCtorEq]; ((repeat' (first | exact EnvLe_e0 _ _ | refine EnvLe_upd ?_ ?_)) <;> ((try simp only [upd_app, e0_app, o0_app, Nat.reduceEqDiff, reduceIte]); first | exact AWk.refl _ _ | exact AWk.int (by omega) | exact AWk.int (by rw [w64 (by omega) (by omega)]; omega) | exact AWk.grow rfl | exact AWk.nil _ | exact AWk.of (by simp)))) (by simp only [go_sem, init_env', Nat.reduceEqDiff, Nat.reduceAdd, Nat.reduceMul, reduceIte, Nat.reduceLeDiff, Nat.reduceLT, Nat.reduceBEq, reduceCtorEq]; (first | ((repeat' (first | exact ObjLe_o0 _ | exact ObjLe.rfl' _ | refine ObjLe_same ?_ | refine ObjLe_upd ?_ ?_ | refine ObjLe_new rfl ?_)) <;> rfl) | (refine ObjLe_X ?_; (repeat' (first | exact ObjLeX_o0 _ _ | refine ObjLeX_skip rfl ?_ | refine ObjLeX_upd ?_ ?_)) <;> rfl))))
        · intro k hk
          have hsll := shutL_len s k
          simp only [go_sem, init_env', Nat.reduceEqDiff, Nat.reduceAdd, Nat.reduceMul, reduceIte, Nat.reduceLeDiff, Nat.reduceLT, Nat.reduceBEq, reduceCtorEq, hpsg]
          (repeat ((first | refine WV_seq_ ?_ | refine WV_block ?_ | refine WV_ops ?_ | refine WV_skip ?_ | refine WV_exit ?_); (try simp only [go_sem, init_env', Nat.reduceEqDiff, Nat.reduceAdd, Nat.reduceMul, reduceIte, Nat.reduceLeDiff, Nat.reduceLT, Nat.reduceBEq, reduceCtorEq, hP, hpsg]); (repeat (refine And.intro (by first | omega | (intros; simp_all; done) | (intros; simp_all; omega)) ?_))))
          (refine WV_cond rfl (fun h => ?_) (fun h => ?_))
          · have h : k < r.n := by rw [hsl] at h; simpa using h
            have hk7 : k < 7 := by omega
            have hw2 := w64 (n := (k : Int) + 1) (by omega) (by omega)
            (repeat ((first | refine WV_seq_ ?_ | refine WV_block ?_ | refine WV_ops ?_ | refine WV_skip ?_ | refine WV_exit ?_); (try simp only [go_sem, init_env', Nat.reduceEqDiff, Nat.reduceAdd, Nat.reduceMul, reduceIte, Nat.reduceLeDiff, Nat.reduceLT, Nat.reduceBEq, reduceCtorEq, hP, hpsg, Int.toNat_natCast, Nat.mul_one, Int.natCast_nonneg, seenC_len, seenC_get _ hk7, hw2]); (repeat (refine And.intro (by first | omega | (intros; simp_all; done) | (intros; simp_all; omega)) ?_))))
            (refine WV_cond rfl (fun h => ?_) (fun h => ?_))
            · have h : ¬ (k : Int) ∈ s := by simpa using h
              have e := shutL_succ s k
              rw [if_neg h] at e
              (repeat ((first | refine WV_seq_ ?_ | refine WV_block ?_ | refine WV_ops ?_ | refine WV_skip ?_ | refine WV_exit ?_); (try simp only [go_sem, init_env', Nat.reduceEqDiff, Nat.reduceAdd, Nat.reduceMul, reduceIte, Nat.reduceLeDiff, Nat.reduceLT, Nat.reduceBEq, reduceCtorEq, hP, hpsg, hw2]); (repeat (refine And.intro (by first | omega | (intros; simp_all; done) | (intros; simp_all; omega)) ?_))))
              refine ⟨k + 1, by omega, by omega, ?_⟩
              rw [e]
              (refine Sub_of (by simp only [go_sem, init_env', Nat.reduceEqDiff, Nat.reduceAdd, Nat.reduceMul, reduceIte, Nat.reduceLeDiff, Nat.reduceLT, Nat.reduceBEq, reduceCtorEq]; ((repeat' (first | exact EnvLe_e0 _ _ | refine EnvLe_upd ?_ ?_)) <;> ((try simp only [upd_app, e0_app, o0_app, Nat.reduceEqDiff, reduceIte]); first | exact AWk.refl _ _ | exact AWk.int (by omega) | exact AWk.int (by rw [w64 (by omega) (by omega)]; omega) | exact AWk.grow rfl | exact AWk.nil _ | exact AWk.of (by simp)))) (by simp only [go_sem, init_env', Nat.reduceEqDiff, Nat.reduceAdd, Nat.reduceMul, reduceIte, Nat.reduceLeDiff, Nat.reduceLT, Nat.reduceBEq, reduceCtorEq]; (first | ((repeat' (first | exact ObjLe_o0 _ | exact ObjLe.rfl' _ | refine ObjLe_same ?_ | refine ObjLe_upd ?_ ?_ | refine ObjLe_new rfl ?_)) <;> rfl) | (refine ObjLe_X ?_; (repeat' (first | exact ObjLeX_o0 _ _ | refine ObjLeX_skip rfl ?_ | refine ObjLeX_upd ?_ ?_)) <;> rfl))))
            · have h : (k : Int) ∈ s := by simpa using h
              have e := shutL_succ s k
              rw [if_pos h, List.append_nil] at e
              (repeat ((first | refine WV_seq_ ?_ | refine WV_block ?_ | refine WV_ops ?_ | refine WV_skip ?_ | refine WV_exit ?_); (try simp only [go_sem, init_env', Nat.reduceEqDiff, Nat.reduceAdd, Nat.reduceMul, reduceIte, Nat.reduceLeDiff, Nat.reduceLT, Nat.reduceBEq, reduceCtorEq, hP, hpsg, hw2]); (repeat (refine And.intro (by first | omega | (intros; simp_all; done) | (intros; simp_all; omega)) ?_))))
              refine ⟨k + 1, by omega, by omega, ?_⟩
              rw [e]
              (refine Sub_of (by simp only [go_sem, init_env', Nat.reduceEqDiff, Nat.reduceAdd, Nat.reduceMul, reduceIte, Nat.reduceLeDiff, Nat.reduceLT, Nat.reduceBEq, reduceCtorEq]; ((repeat' (first | exact EnvLe_e0 _ _ | refine EnvLe_upd ?_ ?_)) <;> ((try simp only [upd_app, e0_app, o0_app, Nat.reduceEqDiff, reduceIte]); first | exact AWk.refl _ _ | exact AWk.int (by omega) | exact AWk.int (by rw [w64 (by omega) (by omega)]; omega) | exact AWk.grow rfl | exact AWk.nil _ | exact AWk.of (by simp)))) (by simp only [go_sem, init_env', Nat.reduceEqDiff, Nat.reduceAdd, Nat.reduceMul, reduceIte, Nat.reduceLeDiff, Nat.reduceLT, Nat.reduceBEq, reduceCtorEq]; (first | ((repeat' (first | exact ObjLe_o0 _ | exact ObjLe.rfl' _ | refine ObjLe_same ?_ | refine ObjLe_upd ?_ ?_ | refine ObjLe_new rfl ?_)) <;> rfl) | (refine ObjLe_X ?_; (repeat' (first | exact ObjLeX_o0 _ _ | refine ObjLeX_skip rfl ?_ | refine ObjLeX_upd ?_ ?_)) <;> rfl))))
          · have h : k = r.n := by rw [hsl] at h; simp at h; omega
            subst h
            (repeat ((first | refine WV_seq_ ?_ | refine WV_block ?_ | refine WV_ops ?_ | refine WV_skip ?_ | refine WV_exit ?_); (try simp only [go_sem, init_env', Nat.reduceEqDiff, Nat.reduceAdd, Nat.reduceMul, reduceIte, Nat.reduceLeDiff, Nat.reduceLT, Nat.reduceBEq, reduceCtorEq, hP, hpsg]); (repeat (refine And.intro (by first | omega | (intros; simp_all; done) | (intros; simp_all; omega)) ?_))))
            (refine WV_ret ?_; simp only [thenQ, inQ, RetQ, RetOk, resAll, resA]; simp only [go_sem, init_env', Nat.reduceEqDiff, Nat.reduceAdd, Nat.reduceMul, reduceIte, Nat.reduceLeDiff, Nat.reduceLT, Nat.reduceBEq, reduceCtorEq, tupA, AV.port, AV.portL, exists_eq_left', ]; (first | exact AVle.of rfl | refine AVle.of ?_ | skip))
            simp [shutS, hok, hs, ints]
  · have hok : r.ok = false := by simpa using hok
    simp only [hok, Bool.false_eq_true, if_false]
    (refine WV_cond rfl (fun h => ?_) (fun h => ?_))
    · (repeat ((first | refine WV_seq_ ?_ | refine WV_block ?_ | refine WV_ops ?_ | refine WV_skip ?_ | refine WV_exit ?_); (try simp only [go_sem, init_env', Nat.reduceEqDiff, Nat.reduceAdd, Nat.reduceMul, reduceIte, Nat.reduceLeDiff, Nat.reduceLT, Nat.reduceBEq, reduceCtorEq, hP, ]); (repeat (refine And.intro (by first | omega | (intros; simp_all; done) | (intros; simp_all; omega)) ?_))))
      (refine WV_ret ?_; simp only [thenQ, inQ, RetQ, RetOk, resAll, resA]; simp only [go_sem, init_env', Nat.reduceEqDiff, Nat.reduceAdd, Nat.reduceMul, reduceIte, Nat.reduceLeDiff, Nat.reduceLT, Nat.reduceBEq, reduceCtorEq, tupA, AV.port, AV.portL, exists_eq_left', ])
      simp only [shutS, hok, Bool.false_eq_true, if_false]
      exact AVle.tup (AVles.cons (AVle.nil 1) (AVles.refl _))
    · simp at h
end Go.Proofs.Ytbejgfpaokcnpaa

namespace Go.Proofs.Ytbejgfpaokcnpaa
open Go Go.V
end Go.Proofs.Ytbejgfpaokcnpaa

namespace Go.Proofs.Ytbejgfpaokcnpaa
open Go Go.V
end Go.Proofs.Ytbejgfpaokcnpaa

/-
  Firsts: the map counts the whole good tours by their first stops: plain.
-/
namespace Go.Proofs.Ytbejgfpaokcnpaa
open Go Go.V

end Go.Proofs.Ytbejgfpaokcnpaa

namespace Go.Proofs.Ytbejgfpaokcnpaa
open Go Go.V
def inAny (l : List (List Nat)) (k : Nat) : Bool := l.any fun t => decide (k ∈ t)
def rshutL (l : List (List Nat)) (k : Nat) : List Int := ((List.range k).filter fun n => !inAny l n).map fun (n : Nat) => (n : Int)
def rshutS (r : Route) : List Int × Int := if r.ok then (rshutL (goodR r false) r.n, 0) else ([], 80)

end Go.Proofs.Ytbejgfpaokcnpaa

/-
  Shut: the stops that are the last one of no good tour are in none: plain.
-/
namespace Go.Proofs.Ytbejgfpaokcnpaa
open Go Go.V

theorem mem_toursR {n : Nat} : ∀ (l : List Nat) (f : Nat) (t : List Nat), (t ++ l).Nodup → (∀ k ∈ l, k < n) → l.length ≤ f → t ++ l ∈ toursR n f t
  | [], f, t, _, _, _ => by cases f <;> simp [toursR]
  | k :: l, 0, t, _, _, h => by simp at h
  | k :: l, f + 1, t, hn, hk, h => by
    simp only [toursR, List.mem_cons, List.mem_flatMap, List.mem_range]
    refine .inr ⟨k, hk k (by simp), ?_⟩
    have hnk : k ∉ t := by
      intro hm
      rw [List.nodup_append] at hn
      exact hn.2.2 k hm k (by simp) rfl
    rw [if_neg hnk]
    have := mem_toursR l f (t ++ [k]) (by simpa using hn) (fun j hj => hk j (by simp [hj])) (by simpa using h)
    simpa using this
theorem goodR_prefix {r : Route} {a b : List Nat} (h : a ++ b ∈ goodR r false) : a ∈ goodR r false := by
  obtain ⟨h1, h2, h3, h4⟩ := goodR_mem h
  have h5 : ridden r (a ++ b) = true := by simpa [goodP] using h4
  have ha : a.Nodup := (List.nodup_append.1 h1).1
  have hal : ∀ k ∈ a, k < r.n := fun k hk => h2 k (by simp [hk])
  refine List.mem_filter.2 ⟨?_, ?_⟩
  · have := mem_toursR (n := r.n) a (r.n + 1) [] (by simpa using ha) hal (Nat.le_succ_of_le (tour_len ha hal))
    simpa [allR] using this
  · have : ridden r a = true := by
      unfold ridden at h5 ⊢
      by_cases hx : (ride r (leave r) a).2.1 = none
      · rw [hx]; rfl
      · rw [ride_stop r a _ b hx] at h5
        exact h5
    simp [goodP, this]
theorem lasts_mem {r : Route} {k : Nat} : (k : Int) ∈ lasts (goods r) ↔ inAny (goodR r false) k = true := by
  unfold lasts inAny
  rw [List.mem_filterMap, List.any_eq_true, ← goods_eq]
  constructor
  · rintro ⟨p, hp, hk⟩
    refine ⟨p.1, List.mem_map_of_mem hp, ?_⟩
    rw [Option.map_eq_some_iff] at hk
    obtain ⟨j, hj, e⟩ := hk
    have : j = k := by omega
    subst this
    simpa using List.mem_of_getLast? hj
  · rintro ⟨t, ht, hk⟩
    have hk : k ∈ t := by simpa using hk
    rw [goods_eq] at ht
    obtain ⟨a, b, rfl⟩ := List.append_of_mem hk
    have hp := goodR_prefix (a := a ++ [k]) (b := b) (by simpa using ht)
    rw [← goods_eq] at hp
    obtain ⟨p, hp, e⟩ := List.mem_map.1 hp
    exact ⟨p, hp, by rw [e]; simp⟩
theorem shut_eq (r : Route) : shutS r = rshutS r := by
  unfold shutS rshutS
  cases r.ok
  · rfl
  · simp only [if_true]
    congr 1
    unfold shutL rshutL
    rw [List.filter_map]
    congr 1
    refine List.filter_congr fun k _ => ?_
    simp only [Function.comp]
    congr 1
    rw [Bool.eq_iff_iff, decide_eq_true_eq]
    exact lasts_mem
end Go.Proofs.Ytbejgfpaokcnpaa

/-
  What is true of each good tour, and of all stops: plain.
-/
namespace Go.Proofs.Ytbejgfpaokcnpaa
open Go Go.V

theorem goodR_false {r : Route} {t : List Nat} (h : t ∈ goodR r true) : t ∈ goodR r false := by
  obtain ⟨h1, h2⟩ := List.mem_filter.1 h
  refine List.mem_filter.2 ⟨h1, ?_⟩
  simp only [goodP, Bool.not_true, Bool.false_or, Bool.and_eq_true] at h2
  simp [goodP, h2.2]
theorem ridden_none {r : Route} {t : List Nat} (h : ridden r t = true) : (ride r (leave r) t).2.1 = none := by
  unfold ridden at h
  simpa using h
theorem min_fold : ∀ (l : List Int) (b : Int), l.foldl min b ≤ b ∧ (∀ x ∈ l, l.foldl min b ≤ x) ∧ (l.foldl min b = b ∨ l.foldl min b ∈ l)
  | [], b => ⟨Int.le_refl _, by simp, .inl rfl⟩
  | x :: l, b => by
    obtain ⟨h1, h2, h3⟩ := min_fold l (min b x)
    rw [List.foldl_cons]
    refine ⟨by omega, fun y hy => ?_, ?_⟩
    · rcases List.mem_cons.1 hy with rfl | hy
      · omega
      · exact h2 y hy
    · rcases h3 with h3 | h3
      · by_cases hb : b ≤ x
        · exact .inl (by rw [h3]; omega)
        · exact .inr (by rw [h3, show min b x = x from by omega]; simp)
      · exact .inr (by simp [h3])
theorem minS_le (f : List Nat → Int) (L : List (List Nat)) : ∀ t ∈ L, minS f L L.length ≤ f t := by
  intro t ht
  have e : minS f L L.length = (L.map f).foldl min (f (L.getD 0 [])) := by unfold minS; rw [List.take_length, List.foldl_map]
  rw [e]
  exact (min_fold _ _).2.1 _ (List.mem_map_of_mem ht)
theorem minS_mem (f : List Nat → Int) (L : List (List Nat)) (h : 0 < L.length) : ∃ t ∈ L, minS f L L.length = f t := by
  have e : minS f L L.length = (L.map f).foldl min (f (L.getD 0 [])) := by unfold minS; rw [List.take_length, List.foldl_map]
  rw [e]
  rcases (min_fold (L.map f) (f (L.getD 0 []))).2.2 with h1 | h1
  · rw [h1]
    refine ⟨L.getD 0 [], ?_, rfl⟩
    rw [List.getD_eq_getElem?_getD, List.getElem?_eq_getElem h]
    exact List.getElem_mem h
  · obtain ⟨t, ht, e⟩ := List.mem_map.1 h1
    exact ⟨t, ht, e.symm⟩
theorem rmost_le {r : Route} {t : List Nat} (ht : t ∈ goodR r false) : cashS r t ≤ rmostB r (goodR r false) := by
  have e : rmostB r (goodR r false) = ((goodR r false).map (cashS r)).foldl max 0 := by unfold rmostB; rw [List.foldl_map]
  rw [e]
  exact (max_fold _ _ _).2 (.inr ⟨_, List.mem_map_of_mem ht, Int.le_refl _⟩)
theorem rmost_mem (r : Route) : 0 ≤ rmostB r (goodR r false) ∧ (rmostB r (goodR r false) = 0 ∨ ∃ t ∈ goodR r false, rmostB r (goodR r false) = cashS r t) := by
  have e : rmostB r (goodR r false) = ((goodR r false).map (cashS r)).foldl max 0 := by unfold rmostB; rw [List.foldl_map]
  rw [e]
  refine ⟨(max_fold _ _ _).2 (.inl (Int.le_refl _)), ?_⟩
  rcases (max_fold ((goodR r false).map (cashS r)) 0 (((goodR r false).map (cashS r)).foldl max 0)).1 (Int.le_refl _) with h | ⟨x, hx, h⟩
  · left
    have := (max_fold ((goodR r false).map (cashS r)) 0 0).2 (.inl (Int.le_refl _))
    omega
  · right
    obtain ⟨t, ht, rfl⟩ := List.mem_map.1 hx
    refine ⟨t, ht, ?_⟩
    have := (max_fold ((goodR r false).map (cashS r)) 0 (cashS r t)).2 (.inr ⟨_, List.mem_map_of_mem ht, Int.le_refl _⟩)
    omega
/-! ### All stops -/
end Go.Proofs.Ytbejgfpaokcnpaa

/-
  Another day: all is later by the same number: plain.
-/
namespace Go.Proofs.Ytbejgfpaokcnpaa
open Go Go.V

end Go.Proofs.Ytbejgfpaokcnpaa

/-
  More time: plain.
-/
namespace Go.Proofs.Ytbejgfpaokcnpaa
open Go Go.V

/-- There is more time in the second route. -/
structure Easier (r o : Route) : Prop where
  n : o.n = r.n
  st : o.start ≤ r.start
  op : ∀ k, k < r.n → (o.s k).op ≤ (r.s k).op
  cl : ∀ k, k < r.n → (r.s k).cl ≤ (o.s k).cl
  sta : ∀ k, k < r.n → (o.s k).st ≤ (r.s k).st
  ca : ∀ k, k < r.n → (o.s k).ca = (r.s k).ca
  d : ∀ i j, o.d i j ≤ r.d i j
theorem visit_easier {r o : Route} (h : Easier r o) {v w : Van} (ha : w.at_ = v.at_) (hn : w.now ≤ v.now) (hl : w.long ≤ v.long) {k : Nat} (hk : k < r.n) (hv : (visit r v k).2.2 = true) :
    (visit o w k).2.2 = true ∧ (visit o w k).1.at_ = (visit r v k).1.at_ ∧ (visit o w k).1.now ≤ (visit r v k).1.now ∧ (visit o w k).1.long ≤ (visit r v k).1.long := by
  have h1 := h.op k hk
  have h2 := h.cl k hk
  have h3 := h.sta k hk
  have h4 := h.d v.at_ k
  unfold visit at hv ⊢
  unfold drv at hv ⊢
  simp only at hv ⊢
  rw [ha]
  by_cases hc : (r.s k).cl < v.now + r.d v.at_ k
  · rw [if_pos hc] at hv; cases hv
  · rw [if_neg hc, if_neg (by omega)]
    simp only
    exact ⟨trivial, trivial, by omega, by omega⟩
theorem ride_easier {r o : Route} (h : Easier r o) : ∀ (t : List Nat) (v w : Van), (∀ k ∈ t, k < r.n) → w.at_ = v.at_ → w.now ≤ v.now → w.long ≤ v.long → (ride r v t).2.1 = none →
    (ride o w t).2.1 = none ∧ (ride o w t).2.2.at_ = (ride r v t).2.2.at_ ∧ (ride o w t).2.2.now ≤ (ride r v t).2.2.now ∧ (ride o w t).2.2.long ≤ (ride r v t).2.2.long
  | [], v, w, _, ha, hn, hl, _ => ⟨rfl, ha, hn, hl⟩
  | k :: t, v, w, hk, ha, hn, hl, hr => by
    simp only [ride] at hr ⊢
    by_cases hv : (visit r v k).2.2 = true
    · obtain ⟨a1, a2, a3, a4⟩ := visit_easier h ha hn hl (hk k (by simp)) hv
      rw [if_pos hv] at hr ⊢
      rw [if_pos a1]
      exact ride_easier h t _ _ (fun x hx => hk x (by simp [hx])) a2 a3 a4 hr
    · rw [if_neg hv] at hr; cases hr
theorem leave_easier {r o : Route} (h : Easier r o) : (leave o).at_ = (leave r).at_ ∧ (leave o).now ≤ (leave r).now ∧ (leave o).long ≤ (leave r).long := ⟨h.n, h.st, Int.le_refl _⟩
theorem ridden_easier {r o : Route} (h : Easier r o) {t : List Nat} (hk : ∀ k ∈ t, k < r.n) (hd : ridden r t = true) : ridden o t = true := by
  obtain ⟨l1, l2, l3⟩ := leave_easier h
  have := (ride_easier h t _ _ hk l1 l2 l3 (ridden_none hd)).1
  unfold ridden; rw [this]; rfl
theorem goS_good {r : Route} {t : List Nat} (hd : ridden r t = true) : (goS r t).2.2 = (ride r (leave r) t).2.2.now + r.d (ride r (leave r) t).2.2.at_ r.n := by
  have h := ridden_none hd
  unfold goS
  generalize ride r (leave r) t = x at *
  obtain ⟨ts, m, v⟩ := x
  simp only at h
  subst h
  rfl
theorem goS_easier {r o : Route} (h : Easier r o) {t : List Nat} (hk : ∀ k ∈ t, k < r.n) (hd : ridden r t = true) : (goS o t).2.2 ≤ (goS r t).2.2 := by
  obtain ⟨l1, l2, l3⟩ := leave_easier h
  obtain ⟨_, a2, a3, _⟩ := ride_easier h t _ _ hk l1 l2 l3 (ridden_none hd)
  rw [goS_good hd, goS_good (ridden_easier h hk hd), a2, h.n]
  have := h.d (ride r (leave r) t).2.2.at_ r.n
  omega
theorem allR_easier {r o : Route} (h : Easier r o) : allR o = allR r := by unfold allR; rw [h.n]
theorem allR_lt {r : Route} {t : List Nat} (h : t ∈ allR r) : ∀ k ∈ t, k < r.n := (allR_ok t h).2
theorem goodR_ridden {r : Route} {w : Bool} {t : List Nat} (h : t ∈ goodR r w) : ridden r t = true := by
  have := (List.mem_filter.1 h).2
  unfold goodP at this
  rw [Bool.and_eq_true] at this
  exact this.2
theorem goodR_lt {r : Route} {w : Bool} {t : List Nat} (h : t ∈ goodR r w) : ∀ k ∈ t, k < r.n := by
  have h1 : t ∈ goodR r false := by
    cases w
    · exact h
    · exact goodR_false h
  exact (allR_lt (List.mem_filter.1 h1).1)
theorem goodR_easier {r o : Route} (h : Easier r o) {w : Bool} {t : List Nat} (ht : t ∈ goodR r w) : t ∈ goodR o w := by
  have hk := goodR_lt ht
  obtain ⟨h1, h2⟩ := List.mem_filter.1 ht
  refine List.mem_filter.2 ⟨by rw [allR_easier h]; exact h1, ?_⟩
  unfold goodP at h2 ⊢
  rw [Bool.and_eq_true] at h2 ⊢
  rw [h.n]
  exact ⟨h2.1, ridden_easier h hk h2.2⟩
theorem longP_easier {r o : Route} (h : Easier r o) : ∀ (t : List Nat) (s s' : Nat × Int), s'.1 = s.1 → s'.2 ≤ s.2 → (t.foldl (fun s k => (k, s.2 + o.d s.1 k)) s').1 = (t.foldl (fun s k => (k, s.2 + r.d s.1 k)) s).1 ∧ (t.foldl (fun s k => (k, s.2 + o.d s.1 k)) s').2 ≤ (t.foldl (fun s k => (k, s.2 + r.d s.1 k)) s).2
  | [], s, s', h1, h2 => ⟨h1, h2⟩
  | k :: t, s, s', h1, h2 => by
    simp only [List.foldl_cons]
    have := h.d s.1 k
    exact longP_easier h t _ _ rfl (by simp only; rw [h1]; omega)
theorem longS_easier {r o : Route} (h : Easier r o) (t : List Nat) : longS o t ≤ longS r t := by
  unfold longS longP
  obtain ⟨a, b⟩ := longP_easier h t (r.n, 0) (o.n, 0) h.n (Int.le_refl _)
  rw [a, h.n] at *
  have := h.d (t.foldl (fun s k => (k, s.2 + r.d s.1 k)) (r.n, 0)).1 r.n
  omega
theorem cashS_easier {r o : Route} (h : Easier r o) {t : List Nat} (hk : ∀ k ∈ t, k < r.n) : cashS o t = cashS r t := by
  unfold cashS
  rw [List.map_congr_left fun k hm => h.ca k (hk k hm)]
theorem backL_easier {r o : Route} (h : Easier r o) : ∀ (t : List Nat) (b : Int), (∀ k ∈ t, k < r.n) → backL r t = some b → ∃ b', backL o t = some b' ∧ b ≤ b'
  | [], b, _, hb => ⟨b, hb, Int.le_refl _⟩
  | [k], b, hk, hb => by
    simp only [backL, Option.some.injEq] at hb ⊢
    exact ⟨_, rfl, by rw [← hb]; exact h.cl k (hk k (by simp))⟩
  | k :: k' :: ks, b, hk, hb => by
    simp only [backL] at hb ⊢
    cases hc : backL r (k' :: ks) with
    | none => rw [hc] at hb; cases hb
    | some b0 =>
      rw [hc] at hb
      obtain ⟨b1, e1, e2⟩ := backL_easier h (k' :: ks) b0 (fun x hx => hk x (by simp at hx; simp [hx])) hc
      rw [e1]
      simp only at hb ⊢
      have h1 := h.op k (hk k (by simp))
      have h2 := h.cl k (hk k (by simp))
      have h3 := h.sta k (hk k (by simp))
      have h4 := h.d k k'
      split at hb
      · cases hb
      · rename_i hx
        simp only [Option.some.injEq] at hb
        rw [if_neg (by omega)]
        exact ⟨_, rfl, by omega⟩
theorem leavesS_easier {r o : Route} (h : Easier r o) {t : List Nat} (hk : ∀ k ∈ t, k < r.n) (h0 : 0 ≤ leavesS r t) : leavesS r t ≤ leavesS o t := by
  unfold leavesS at h0 ⊢
  cases hb : backL r t with
  | none => rw [hb] at h0; simp only at h0; omega
  | some b =>
    obtain ⟨b', e1, e2⟩ := backL_easier h t b hk hb
    rw [e1]
    cases t with
    | nil => exact e2
    | cons k t =>
      simp only
      have h4 := h.d r.n k
      rw [h.n]
      omega
/-- What is so of all that is asked. -/
structure EaseK (r o : Route) : Prop where
  err : errR r = 0 → errR o = 0
  kn : (errR r = 0 ∨ errR r = 3) ∧ (errR o = 0 ∨ errR o = 3)
  soon : errR r = 0 → (rsoonS o).1 ≤ (rsoonS r).1
  short : errR r = 0 → (rshortS o).1 ≤ (rshortS r).1
  most : (rmostS r).1 ≤ (rmostS o).1
  lat : ((rlatS r).2 = 0 ∨ (rlatS r).2 = 3) ∧ ((rlatS o).2 = 0 ∨ (rlatS o).2 = 3) ∧ ((rlatS r).2 = 0 → (rlatS o).2 = 0 ∧ (rlatS r).1 ≤ (rlatS o).1)
  shut : (rshutS o).1.length ≤ (rshutS r).1.length ∧ (rshutS r).1.length ≤ 7 ∧ ∀ x ∈ (rshutS o).1, x ∈ (rshutS r).1
theorem errR_ok {r : Route} (h : r.ok = true) : errR r = if goodR r true = [] then 3 else 0 := by unfold errR; rw [if_pos h]
theorem easeK {r o : Route} (hok : r.ok = true) (hoo : o.ok = true) (h : Easier r o) : EaseK r o := by
  have hr := Route.ok_spec hok
  have ho := Route.ok_spec hoo
  have e1 := errR_ok hok
  have e2 := errR_ok hoo
  have hne : errR r = 0 → goodR r true ≠ [] := fun hz hc => by rw [e1, if_pos hc] at hz; cases hz
  have hz : errR r = 0 → errR o = 0 := fun hz => by
    obtain ⟨t, ht⟩ := List.exists_mem_of_ne_nil _ (hne hz)
    rw [e2, if_neg]
    intro hc
    have := goodR_easier h ht
    rw [hc] at this; cases this
  have hposR : errR r = 0 → 0 < (goodR r true).length := fun hz => List.length_pos_iff.2 (hne hz)
  refine ⟨hz, ⟨?_, ?_⟩, fun hr0 => ?_, fun hr0 => ?_, ?_, ?_, ?_⟩
  · rw [e1]; split <;> simp
  · rw [e2]; split <;> simp
  · unfold rsoonS
    rw [if_pos hr0, if_pos (hz hr0)]
    obtain ⟨t, ht, hm⟩ := minS_mem (fun t => (goS r t).2.2) _ (hposR hr0)
    have h1 := minS_le (fun t => (goS o t).2.2) (goodR o true) t (goodR_easier h ht)
    have h2 := goS_easier h (goodR_lt ht) (goodR_ridden ht)
    simp only at h1 hm ⊢
    omega
  · unfold rshortS
    rw [if_pos hr0, if_pos (hz hr0)]
    obtain ⟨t, ht, hm⟩ := minS_mem (longS r) _ (hposR hr0)
    have h1 := minS_le (longS o) (goodR o true) t (goodR_easier h ht)
    have h2 := longS_easier h t
    simp only
    omega
  · unfold rmostS
    rw [if_pos hok, if_pos hoo]
    simp only
    rcases rmost_mem r with ⟨h0, h1 | ⟨t, ht, h1⟩⟩
    · have := (rmost_mem o).1; omega
    · have h2 := rmost_le (goodR_easier h ht)
      rw [cashS_easier h (goodR_lt ht)] at h2
      omega
  · have hl1 := late_eq hr
    have hl2 := late_eq ho
    have hmono : ∀ s, 0 ≤ s → s ≤ latestB r (wholes (zero r)) → s ≤ latestB o (wholes (zero o)) := fun s hs hle => by
      obtain ⟨t, ht, h1, h2⟩ := (latestB_has hr hs).1 hle
      refine (latestB_has ho hs).2 ⟨t, by rw [allR_easier h]; exact ht, by rw [h.n]; exact h1, ?_⟩
      have := leavesS_easier h (allR_lt ht) (by omega)
      omega
    rw [hl1, hl2] at hmono
    unfold rlatS
    rw [if_pos hok, if_pos hoo]
    refine ⟨?_, ?_, fun hz => ?_⟩
    · split <;> simp
    · split <;> simp
    · split at hz
      · cases hz
      · rename_i hge
        have := hmono (rlatB r (allR r)) (by omega) (Int.le_refl _)
        rw [if_neg (by omega), if_neg hge]
        exact ⟨rfl, this⟩
  · have hin : ∀ k, inAny (goodR r false) k = true → inAny (goodR o false) k = true := fun k hk => by
      unfold inAny at hk ⊢
      rw [List.any_eq_true] at hk ⊢
      obtain ⟨t, ht, h1⟩ := hk
      exact ⟨t, goodR_easier h ht, h1⟩
    have e3 : (rshutS r).1 = rshutL (goodR r false) r.n := by unfold rshutS; rw [if_pos hok]
    have e4 : (rshutS o).1 = rshutL (goodR o false) r.n := by unfold rshutS; rw [if_pos hoo, h.n]
    rw [e3, e4]
    unfold rshutL
    simp only [List.length_map]
    refine ⟨?_, ?_, fun x hx => ?_⟩
    · rw [← List.countP_eq_length_filter, ← List.countP_eq_length_filter]
      refine List.countP_mono_left fun k _ hk => ?_
      cases hc : inAny (goodR r false) k
      · rfl
      · rw [hin k hc] at hk; cases hk
    · have := List.length_filter_le (fun n => !inAny (goodR r false) n) (List.range r.n)
      rw [List.length_range] at this
      have := hr.n7
      have e : r.n = r.stops.length := rfl
      omega
    · obtain ⟨k, hk, rfl⟩ := List.mem_map.1 hx
      obtain ⟨h1, h2⟩ := List.mem_filter.1 hk
      refine List.mem_map.2 ⟨k, List.mem_filter.2 ⟨h1, ?_⟩, rfl⟩
      cases hc : inAny (goodR r false) k
      · rfl
      · rw [hin k hc] at h2; cases h2
/-- Back of a tour. -/
theorem back_easier {r o : Route} (hok : r.ok = true) (hoo : o.ok = true) (h : Easier r o) {l : List Int} (ht : isTour r l = true) :
    ((backS r l).2 = 0 → (backS o l).2 = 0 ∧ (backS o l).1 ≤ (backS r l).1) ∧ ((backS r l).2 = 0 ∨ (backS r l).2 = 81) ∧ ((backS o l).2 = 0 ∨ (backS o l).2 = 81) := by
  have hto : isTour o l = true := by unfold isTour at ht ⊢; rw [h.n]; exact ht
  have hlt := toN_lt ht
  obtain ⟨l1, l2, l3⟩ := leave_easier h
  unfold backS
  rw [if_pos ⟨hok, ht⟩, if_pos ⟨hoo, hto⟩]
  have hre := ride_easier h (toN l) _ _ hlt l1 l2 l3
  generalize ride r (leave r) (toN l) = x at *
  generalize ride o (leave o) (toN l) = y at *
  obtain ⟨ts, m, v⟩ := x
  obtain ⟨ts', m', v'⟩ := y
  cases m with
  | none =>
    obtain ⟨a1, a2, a3, a4⟩ := hre rfl
    simp only at a1 a2 a3 a4
    subst a1
    refine ⟨fun _ => ⟨rfl, ?_⟩, .inl rfl, .inl rfl⟩
    simp only [home]
    split
    · exact a3
    · unfold drv
      simp only
      rw [a2, h.n]
      have := h.d v.at_ r.n
      omega
  | some k =>
    refine ⟨fun hc => (by cases hc), .inr rfl, ?_⟩
    cases m' with
    | none => exact .inl rfl
    | some k' => exact .inr rfl
end Go.Proofs.Ytbejgfpaokcnpaa

namespace Go.Proofs.Ytbejgfpaokcnpaa
open Go Go.V
end Go.Proofs.Ytbejgfpaokcnpaa

namespace Go.Proofs.Ytbejgfpaokcnpaa
open Go Go.V
@[reducible] def o43_0 : List Ins := [⟨(some 4), .mv (.k (.c (.bool false))), none, true⟩]
@[reducible] def o43_1 : List Ins := [⟨(some 6), .mv (.t 0), none, true⟩,
  ⟨(some 7), .len (.t 6), none, true⟩,
  ⟨(some 8), .mv (.t 1), none, true⟩,
  ⟨(some 9), .len (.t 8), none, true⟩,
  ⟨(some 10), .bin .gtr (.t 7) (.t 9), none, true⟩,
  ⟨(some 11), .mv (.t 10), none, true⟩,
  ⟨(some 12), .mv (.t 1), (some (11, false)), true⟩,
  ⟨(some 13), .len (.t 12), (some (11, false)), true⟩,
  ⟨(some 14), .bin .gtr (.t 13) (.k (.c (.int .i64 7))), (some (11, false)), true⟩,
  ⟨(some 15), .pick (.t 11) (.k (.c (.bool true))) (.t 14), none, true⟩]
@[reducible] def o43_2 : List Ins := [⟨(some 4), .mv (.k (.c (.bool false))), none, true⟩]
@[reducible] def v43_3 : VC := (.seq (.ops o43_2) .ret)
@[reducible] def v43_4 : VC := (.cond (.t 15) v43_3 .skip)
@[reducible] def o43_5 : List Ins := [⟨(some 5), .mv (.k (.c (.int .i64 0))), none, true⟩]
@[reducible] def o43_6 : List Ins := [⟨(some 16), .mv (.t 5), none, true⟩,
  ⟨(some 17), .mv (.t 0), none, true⟩,
  ⟨(some 18), .len (.t 17), none, true⟩,
  ⟨(some 19), .bin .lss (.t 16) (.t 18), none, true⟩]
@[reducible] def v43_7 : VC := (.cond (.t 19) .skip (.exit 0))
@[reducible] def o43_8 : List Ins := [⟨(some 22), .mv (.t 1), none, true⟩,
  ⟨(some 23), .mv (.t 0), none, true⟩,
  ⟨(some 24), .mv (.t 5), none, true⟩,
  ⟨(some 25), .ia 1 (.t 23) (.t 24), none, true⟩,
  ⟨(some 26), .ld true 1 (.t 25), none, true⟩,
  ⟨(some 27), .call (.k (.fn 47 [])) [(.t 22), (.t 26)], none, true⟩,
  ⟨(some 28), .un .not (.t 27), none, true⟩]
@[reducible] def o43_9 : List Ins := [⟨(some 4), .mv (.k (.c (.bool false))), none, true⟩]
@[reducible] def v43_10 : VC := (.seq (.ops o43_9) .ret)
@[reducible] def v43_11 : VC := (.cond (.t 28) v43_10 .skip)
@[reducible] def v43_12 : VC := (.seq (.ops o43_8) v43_11)
@[reducible] def o43_13 : List Ins := [⟨(some 20), .mv (.t 5), none, true⟩,
  ⟨(some 21), .bin .add (.t 20) (.k (.c (.int .i64 1))), none, true⟩,
  ⟨(some 5), .mv (.t 21), none, true⟩]
@[reducible] def v43_14 : VC := (.seq (.block 1 v43_12) (.ops o43_13))
@[reducible] def v43_15 : VC := (.seq (.seq (.ops o43_6) v43_7) v43_14)
-- K43_1: changed and kept: [5]
@[reducible] def K43_1 : List Nat := [0, 1]
@[reducible] def v43_16 : VC := (.loop v43_15)
@[reducible] def v43_17 : VC := (.block 0 v43_16)
@[reducible] def o43_18 : List Ins := [⟨(some 4), .mv (.k (.c (.bool true))), none, true⟩]
@[reducible] def v43_19 : VC := (.seq (.ops o43_18) .ret)
@[reducible] def v43_20 : VC := (.seq (.seq (.ops o43_5) v43_17) v43_19)
@[reducible] def v43_21 : VC := (.seq (.seq (.ops o43_1) v43_4) v43_20)
def ir43 : FC := ⟨2, 29, [.t 4], (.seq (.ops o43_0) v43_21)⟩
theorem c43 : compM Try.prog [] 43 = some ir43 := by kernel_rfl



theorem getD_set {α : Type} (l : List α) (i k : Nat) (a d : α) : (l.set i a).getD k d = if i = k ∧ i < l.length then a else l.getD k d := by
  simp only [List.getD_eq_getElem?_getD, List.getElem?_set]
  by_cases h : i = k
  · subst h
    by_cases h2 : i < l.length
    · simp [h2]
    · rw [if_pos rfl, if_neg h2, if_neg (by simp [h2]), List.getElem?_eq_none (by omega)]
  · simp [h]
theorem eased_easier {r : Route} {x : Ease} (hx : x.ok) : Easier r (easedR r x) := by
  obtain ⟨x1, x2, x3, x4, x5⟩ := hx
  have hs : ∀ k, (easedR r x).s k = r.s k ∨ (easedR r x).s k = easeStop x (r.s k) := fun k => by
    unfold easedR Route.s
    simp only
    split
    · rw [getD_set]
      split
      · rename_i h; rw [h.1]; exact .inr rfl
      · exact .inl rfl
    · exact .inl rfl
  refine ⟨?_, ?_, fun k _ => ?_, fun k _ => ?_, fun k _ => ?_, fun k _ => ?_, fun i j => ?_⟩
  · unfold easedR Route.n; simp only; split <;> simp
  · show r.start - x.start ≤ r.start; omega
  · rcases hs k with h | h <;> rw [h]
    · exact Int.le_refl _
    · show (r.s k).op - x.op ≤ (r.s k).op; omega
  · rcases hs k with h | h <;> rw [h]
    · exact Int.le_refl _
    · show (r.s k).cl ≤ (r.s k).cl + x.cl; omega
  · rcases hs k with h | h <;> rw [h]
    · exact Int.le_refl _
    · show (r.s k).st - x.st ≤ (r.s k).st; omega
  · rcases hs k with h | h <;> rw [h]
    rfl
  · unfold easedR Route.d
    simp only
    split
    · rw [getD_set]
      split
      · rename_i h
        rw [getD_set]
        split
        · rename_i h2
          rw [← h.1, ← h2.1]; omega
        · rw [h.1]; exact Int.le_refl _
      · exact Int.le_refl _
    · exact Int.le_refl _

set_option maxHeartbeats 4000000 in
theorem subset43 {a b : List Int} (h1 : a.length ≤ b.length) (h2 : b.length ≤ 7) (hin : ∀ x ∈ a, x ∈ b) : FSpec Try.prog 43 [.c (ints a), .c (ints b)] (.c (.bool true)) := by
  have f1 : decide ((b.length : Int) < (a.length : Int)) = false := by simp; omega
  have f2 : decide (7 < (b.length : Int)) = false := by simp; omega
  refine FSpec_of c43 (Nat.le_refl _) (by decide) fun C hP hN hC hL => ?_
  simp only [ir43, ints]
  (repeat ((first | refine WV_seq_ ?_ | refine WV_block ?_ | refine WV_ops ?_ | refine WV_skip ?_ | refine WV_exit ?_); (try simp only [go_sem, init_env', Nat.reduceEqDiff, Nat.reduceAdd, Nat.reduceMul, reduceIte, Nat.reduceLeDiff, Nat.reduceLT, Nat.reduceBEq, reduceCtorEq, hP, List.length_map, f1, f2]); (repeat (refine And.intro (by first | omega | (intros; simp_all; done) | (intros; simp_all; omega)) ?_))))
  (refine WV_cond rfl (fun h => ?_) (fun h => ?_))
  · simp at h
  · (repeat ((first | refine WV_seq_ ?_ | refine WV_block ?_ | refine WV_ops ?_ | refine WV_skip ?_ | refine WV_exit ?_); (try simp only [go_sem, init_env', Nat.reduceEqDiff, Nat.reduceAdd, Nat.reduceMul, reduceIte, Nat.reduceLeDiff, Nat.reduceLT, Nat.reduceBEq, reduceCtorEq, hP, ]); (repeat (refine And.intro (by first | omega | (intros; simp_all; done) | (intros; simp_all; omega)) ?_))))
    (refine WV_loopK K43_1 [] (fun k : Nat => k ≤ a.length) (fun k => a.length - k) (fun k => [(5, iv k)]) (fun _ => []) 0 (Nat.zero_le _) ?_ ?_)
    · (refine Sub_of (by simp only [go_sem, init_env', Nat.reduceEqDiff, Nat.reduceAdd, Nat.reduceMul, reduceIte, Nat.reduceLeDiff, Nat.reduceLT, Nat.reduceBEq, reduceCtorEq]; ((repeat' (first | exact EnvLe_e0 _ _ | refine EnvLe_upd ?_ ?_)) <;> ((try simp only [upd_app, e0_app, o0_app, Nat.reduceEqDiff, reduceIte]); first | exact AWk.refl _ _ | exact AWk.int (by omega) | exact AWk.int (by rw [w64 (by omega) (by omega)]; omega) | exact AWk.grow rfl | exact AWk.nil _ | exact AWk.of (by simp)))) (by simp only [go_sem, init_env', Nat.reduceEqDiff, Nat.reduceAdd, Nat.reduceMul, reduceIte, Nat.reduceLeDiff, Nat.reduceLT, Nat.reduceBEq, reduceCtorEq]; (first | ((repeat' (first | exact ObjLe_o0 _ | exact ObjLe.rfl' _ | refine ObjLe_same ?_ | refine ObjLe_upd ?_ ?_ | refine ObjLe_new rfl ?_)) <;> rfl) | (refine ObjLe_X ?_; (repeat' (first | exact ObjLeX_o0 _ _ | refine ObjLeX_skip rfl ?_ | refine ObjLeX_upd ?_ ?_)) <;> rfl))))
    · intro k hk
      simp only [go_sem, init_env', Nat.reduceEqDiff, Nat.reduceAdd, Nat.reduceMul, reduceIte, Nat.reduceLeDiff, Nat.reduceLT, Nat.reduceBEq, reduceCtorEq]
      (repeat ((first | refine WV_seq_ ?_ | refine WV_block ?_ | refine WV_ops ?_ | refine WV_skip ?_ | refine WV_exit ?_); (try simp only [go_sem, init_env', Nat.reduceEqDiff, Nat.reduceAdd, Nat.reduceMul, reduceIte, Nat.reduceLeDiff, Nat.reduceLT, Nat.reduceBEq, reduceCtorEq, hP, List.length_map]); (repeat (refine And.intro (by first | omega | (intros; simp_all; done) | (intros; simp_all; omega)) ?_))))
      (refine WV_cond rfl (fun h => ?_) (fun h => ?_))
      · have h : k < a.length := by simpa using h
        have hw2 := w64 (n := (k : Int) + 1) (by omega) (by omega)
        have hm : decide (a[k] ∈ b) = true := by simpa using hin _ (List.getElem_mem h)
        (repeat ((first | refine WV_seq_ ?_ | refine WV_block ?_ | refine WV_ops ?_ | refine WV_skip ?_ | refine WV_exit ?_); (try simp only [go_sem, init_env', Nat.reduceEqDiff, Nat.reduceAdd, Nat.reduceMul, reduceIte, Nat.reduceLeDiff, Nat.reduceLT, Nat.reduceBEq, reduceCtorEq, hP, Int.toNat_natCast, map_getD h, Int.ofNat_lt, h, Int.natCast_nonneg, List.length_map]); (repeat (refine And.intro (by first | omega | (intros; simp_all; done) | (intros; simp_all; omega)) ?_))))
        (refine AS_pure (in47 b a[k]) rfl rfl rfl rfl rfl ?_; simp only [go_sem, init_env', Nat.reduceEqDiff, Nat.reduceAdd, Nat.reduceMul, reduceIte, Nat.reduceLeDiff, Nat.reduceLT, Nat.reduceBEq, reduceCtorEq, hP, ints, hm]; (repeat (refine And.intro (by first | omega | (intros; simp_all; done) | (intros; simp_all; omega)) ?_)); (repeat ((first | refine WV_seq_ ?_ | refine WV_block ?_ | refine WV_ops ?_ | refine WV_skip ?_ | refine WV_exit ?_); (try simp only [go_sem, init_env', Nat.reduceEqDiff, Nat.reduceAdd, Nat.reduceMul, reduceIte, Nat.reduceLeDiff, Nat.reduceLT, Nat.reduceBEq, reduceCtorEq, hP, ints, hm]); (repeat (refine And.intro (by first | omega | (intros; simp_all; done) | (intros; simp_all; omega)) ?_)))))
        (refine WV_cond rfl (fun h => ?_) (fun h => ?_))
        · simp at h
        · (repeat ((first | refine WV_seq_ ?_ | refine WV_block ?_ | refine WV_ops ?_ | refine WV_skip ?_ | refine WV_exit ?_); (try simp only [go_sem, init_env', Nat.reduceEqDiff, Nat.reduceAdd, Nat.reduceMul, reduceIte, Nat.reduceLeDiff, Nat.reduceLT, Nat.reduceBEq, reduceCtorEq, hP, hw2]); (repeat (refine And.intro (by first | omega | (intros; simp_all; done) | (intros; simp_all; omega)) ?_))))
          refine ⟨k + 1, by omega, by omega, ?_⟩
          (refine Sub_of (by simp only [go_sem, init_env', Nat.reduceEqDiff, Nat.reduceAdd, Nat.reduceMul, reduceIte, Nat.reduceLeDiff, Nat.reduceLT, Nat.reduceBEq, reduceCtorEq]; ((repeat' (first | exact EnvLe_e0 _ _ | refine EnvLe_upd ?_ ?_)) <;> ((try simp only [upd_app, e0_app, o0_app, Nat.reduceEqDiff, reduceIte]); first | exact AWk.refl _ _ | exact AWk.int (by omega) | exact AWk.int (by rw [w64 (by omega) (by omega)]; omega) | exact AWk.grow rfl | exact AWk.nil _ | exact AWk.of (by simp)))) (by simp only [go_sem, init_env', Nat.reduceEqDiff, Nat.reduceAdd, Nat.reduceMul, reduceIte, Nat.reduceLeDiff, Nat.reduceLT, Nat.reduceBEq, reduceCtorEq]; (first | ((repeat' (first | exact ObjLe_o0 _ | exact ObjLe.rfl' _ | refine ObjLe_same ?_ | refine ObjLe_upd ?_ ?_ | refine ObjLe_new rfl ?_)) <;> rfl) | (refine ObjLe_X ?_; (repeat' (first | exact ObjLeX_o0 _ _ | refine ObjLeX_skip rfl ?_ | refine ObjLeX_upd ?_ ?_)) <;> rfl))))
      · (repeat ((first | refine WV_seq_ ?_ | refine WV_block ?_ | refine WV_ops ?_ | refine WV_skip ?_ | refine WV_exit ?_); (try simp only [go_sem, init_env', Nat.reduceEqDiff, Nat.reduceAdd, Nat.reduceMul, reduceIte, Nat.reduceLeDiff, Nat.reduceLT, Nat.reduceBEq, reduceCtorEq, hP, ]); (repeat (refine And.intro (by first | omega | (intros; simp_all; done) | (intros; simp_all; omega)) ?_))))
        (refine WV_ret ?_; simp only [thenQ, inQ, RetQ, RetOk, resAll, resA]; simp only [go_sem, init_env', Nat.reduceEqDiff, Nat.reduceAdd, Nat.reduceMul, reduceIte, Nat.reduceLeDiff, Nat.reduceLT, Nat.reduceBEq, reduceCtorEq, tupA, AV.port, AV.portL, exists_eq_left', ]; (first | exact AVle.of rfl | refine AVle.of ?_ | skip))
end Go.Proofs.Ytbejgfpaokcnpaa

namespace Go.Proofs.Ytbejgfpaokcnpaa
open Go Go.V
@[reducible] def o7_0 : List Ins := [⟨(some 3), .box 3 (.t 0), none, true⟩,
  ⟨(some 4), .box 8 (.t 1), none, true⟩,
  ⟨(some 6), .mv (.k (.c (.bool false))), none, true⟩]
@[reducible] def o7_1 : List Ins := [⟨(some 20), .ld false 3 (.t 3), none, true⟩,
  ⟨(some 21), .call (.k (.fn 13 [])) [(.t 20)], none, true⟩,
  ⟨(some 22), .un .not (.t 21), none, true⟩,
  ⟨(some 23), .mv (.t 22), none, true⟩,
  ⟨(some 24), .mv (.t 2), (some (23, false)), true⟩,
  ⟨(some 25), .len (.t 24), (some (23, false)), true⟩,
  ⟨(some 26), .bin .gtr (.t 25) (.k (.c (.int .i64 20))), (some (23, false)), true⟩,
  ⟨(some 27), .pick (.t 23) (.k (.c (.bool true))) (.t 26), none, true⟩,
  ⟨(some 28), .mv (.t 27), none, true⟩,
  ⟨(some 29), .ld false 3 (.t 3), (some (28, false)), true⟩,
  ⟨(some 30), .mv (.t 2), (some (28, false)), true⟩,
  ⟨(some 31), .call (.k (.fn 23 [])) [(.t 29), (.t 30)], (some (28, false)), true⟩,
  ⟨(some 32), .un .not (.t 31), (some (28, false)), true⟩,
  ⟨(some 33), .pick (.t 28) (.k (.c (.bool true))) (.t 32), none, true⟩,
  ⟨(some 34), .mv (.t 33), none, true⟩,
  ⟨(some 35), .fa 1 (.t 4), (some (34, false)), true⟩,
  ⟨(some 36), .ld true 1 (.t 35), (some (34, false)), true⟩,
  ⟨(some 37), .fa 2 (.t 4), (some (34, false)), true⟩,
  ⟨(some 38), .ld true 1 (.t 37), (some (34, false)), true⟩,
  ⟨(some 39), .fa 3 (.t 4), (some (34, false)), true⟩,
  ⟨(some 40), .ld true 1 (.t 39), (some (34, false)), true⟩,
  ⟨(some 41), .fa 4 (.t 4), (some (34, false)), true⟩,
  ⟨(some 42), .ld true 1 (.t 41), (some (34, false)), true⟩,
  ⟨(some 43), .fa 7 (.t 4), (some (34, false)), true⟩,
  ⟨(some 44), .ld true 1 (.t 43), (some (34, false)), true⟩,
  ⟨(some 45), .mmn false [(.t 36), (.t 38), (.t 40), (.t 42), (.t 44)], (some (34, false)), true⟩,
  ⟨(some 46), .bin .lss (.t 45) (.k (.c (.int .i64 0))), (some (34, false)), true⟩,
  ⟨(some 47), .pick (.t 34) (.k (.c (.bool true))) (.t 46), none, true⟩,
  ⟨(some 48), .mv (.t 47), none, true⟩,
  ⟨(some 49), .fa 1 (.t 4), (some (48, false)), true⟩,
  ⟨(some 50), .ld true 1 (.t 49), (some (48, false)), true⟩,
  ⟨(some 51), .fa 2 (.t 4), (some (48, false)), true⟩,
  ⟨(some 52), .ld true 1 (.t 51), (some (48, false)), true⟩,
  ⟨(some 53), .fa 3 (.t 4), (some (48, false)), true⟩,
  ⟨(some 54), .ld true 1 (.t 53), (some (48, false)), true⟩,
  ⟨(some 55), .fa 4 (.t 4), (some (48, false)), true⟩,
  ⟨(some 56), .ld true 1 (.t 55), (some (48, false)), true⟩,
  ⟨(some 57), .fa 7 (.t 4), (some (48, false)), true⟩,
  ⟨(some 58), .ld true 1 (.t 57), (some (48, false)), true⟩,
  ⟨(some 59), .mmn true [(.t 50), (.t 52), (.t 54), (.t 56), (.t 58)], (some (48, false)), true⟩,
  ⟨(some 60), .bin .gtr (.t 59) (.k (.c (.int .i64 1440))), (some (48, false)), true⟩,
  ⟨(some 61), .pick (.t 48) (.k (.c (.bool true))) (.t 60), none, true⟩]
@[reducible] def o7_2 : List Ins := [⟨(some 62), .call (.k (.fn 14 [])) [], none, true⟩,
  ⟨(some 6), .mv (.t 62), none, true⟩]
@[reducible] def v7_3 : VC := (.seq (.ops o7_2) .ret)
@[reducible] def v7_4 : VC := (.cond (.t 61) v7_3 .skip)
@[reducible] def o7_5 : List Ins := [⟨(some 63), .ld false 3 (.t 3), none, true⟩,
  ⟨(some 64), .ld false 8 (.t 4), none, true⟩,
  ⟨(some 65), .call (.k (.fn 40 [])) [(.t 63), (.t 64)], none, true⟩,
  ⟨(some 7), .alloc [(.c (.raw (.slice none 0 0))), (.c (.raw (.slice none 0 0))), (.c (.int .i64 0))], none, true⟩,
  ⟨none, .st 3 (.t 7) (.t 65), none, true⟩]
@[reducible] def o7_6 : List Ins := [⟨(some 66), .ld false 3 (.t 7), none, true⟩,
  ⟨(some 67), .call (.k (.fn 13 [])) [(.t 66)], none, true⟩,
  ⟨(some 68), .un .not (.t 67), none, true⟩]
@[reducible] def o7_7 : List Ins := [⟨(some 69), .call (.k (.fn 14 [])) [], none, true⟩,
  ⟨(some 6), .mv (.t 69), none, true⟩]
@[reducible] def v7_8 : VC := (.seq (.ops o7_7) .ret)
@[reducible] def v7_9 : VC := (.cond (.t 68) v7_8 .skip)
@[reducible] def o7_10 : List Ins := [⟨(some 71), .ld false 3 (.t 3), none, true⟩,
  ⟨(some 72), .mv (.t 2), none, true⟩,
  ⟨(some 73), .call (.k (.fn 30 [])) [(.t 71), (.t 72)], none, true⟩,
  ⟨(some 70), .mv (.t 73), none, true⟩,
  ⟨(some 74), .ext (.t 70) 0, none, true⟩,
  ⟨(some 75), .ext (.t 70) 1, none, true⟩,
  ⟨(some 8), .mv (.t 74), none, true⟩,
  ⟨(some 9), .mv (.t 75), none, true⟩]
@[reducible] def o7_11 : List Ins := [⟨(some 77), .ld false 3 (.t 7), none, true⟩,
  ⟨(some 78), .mv (.t 2), none, true⟩,
  ⟨(some 79), .call (.k (.fn 30 [])) [(.t 77), (.t 78)], none, true⟩,
  ⟨(some 76), .mv (.t 79), none, true⟩,
  ⟨(some 80), .ext (.t 76) 0, none, true⟩,
  ⟨(some 81), .ext (.t 76) 1, none, true⟩,
  ⟨(some 10), .mv (.t 80), none, true⟩,
  ⟨(some 11), .mv (.t 81), none, true⟩]
@[reducible] def o7_12 : List Ins := [⟨(some 82), .mv (.t 9), none, true⟩,
  ⟨(some 83), .bin .eql (.t 82) (.k (.c (.int .i64 0))), none, true⟩,
  ⟨(some 84), .mv (.t 83), none, true⟩,
  ⟨(some 85), .mv (.t 11), (some (84, true)), true⟩,
  ⟨(some 86), .bin .neq (.t 85) (.k (.c (.int .i64 0))), (some (84, true)), true⟩,
  ⟨(some 87), .mv (.t 86), (some (84, true)), true⟩,
  ⟨(some 88), .mv (.t 10), (some (87, false)), true⟩,
  ⟨(some 89), .mv (.t 8), (some (87, false)), true⟩,
  ⟨(some 90), .bin .gtr (.t 88) (.t 89), (some (87, false)), true⟩,
  ⟨(some 91), .pick (.t 87) (.k (.c (.bool true))) (.t 90), (some (84, true)), true⟩,
  ⟨(some 92), .pick (.t 84) (.t 91) (.k (.c (.bool false))), none, true⟩,
  ⟨(some 93), .mv (.t 92), none, true⟩,
  ⟨(some 94), .mv (.t 9), (some (93, false)), true⟩,
  ⟨(some 95), .bin .neq (.t 94) (.k (.c (.int .i64 0))), (some (93, false)), true⟩,
  ⟨(some 96), .mv (.t 95), (some (93, false)), true⟩,
  ⟨(some 97), .mv (.t 9), (some (96, true)), true⟩,
  ⟨(some 98), .bin .neq (.t 97) (.k (.c (.int .i64 81))), (some (96, true)), true⟩,
  ⟨(some 99), .pick (.t 96) (.t 98) (.k (.c (.bool false))), (some (93, false)), true⟩,
  ⟨(some 100), .pick (.t 93) (.k (.c (.bool true))) (.t 99), none, true⟩,
  ⟨(some 101), .mv (.t 100), none, true⟩,
  ⟨(some 102), .mv (.t 11), (some (101, false)), true⟩,
  ⟨(some 103), .bin .neq (.t 102) (.k (.c (.int .i64 0))), (some (101, false)), true⟩,
  ⟨(some 104), .mv (.t 103), (some (101, false)), true⟩,
  ⟨(some 105), .mv (.t 11), (some (104, true)), true⟩,
  ⟨(some 106), .bin .neq (.t 105) (.k (.c (.int .i64 81))), (some (104, true)), true⟩,
  ⟨(some 107), .pick (.t 104) (.t 106) (.k (.c (.bool false))), (some (101, false)), true⟩,
  ⟨(some 108), .pick (.t 101) (.k (.c (.bool true))) (.t 107), none, true⟩]
@[reducible] def o7_13 : List Ins := [⟨(some 6), .mv (.k (.c (.bool false))), none, true⟩]
@[reducible] def v7_14 : VC := (.seq (.ops o7_13) .ret)
@[reducible] def v7_15 : VC := (.cond (.t 108) v7_14 .skip)
@[reducible] def o7_16 : List Ins := [⟨(some 110), .ld false 3 (.t 3), none, true⟩,
  ⟨(some 111), .call (.k (.fn 35 [])) [(.t 110)], none, true⟩,
  ⟨(some 109), .mv (.t 111), none, true⟩,
  ⟨(some 112), .ext (.t 109) 0, none, true⟩,
  ⟨(some 113), .ext (.t 109) 1, none, true⟩,
  ⟨(some 8), .mv (.t 112), none, true⟩,
  ⟨(some 9), .mv (.t 113), none, true⟩]
@[reducible] def o7_17 : List Ins := [⟨(some 115), .ld false 3 (.t 7), none, true⟩,
  ⟨(some 116), .call (.k (.fn 35 [])) [(.t 115)], none, true⟩,
  ⟨(some 114), .mv (.t 116), none, true⟩,
  ⟨(some 117), .ext (.t 114) 0, none, true⟩,
  ⟨(some 118), .ext (.t 114) 1, none, true⟩,
  ⟨(some 10), .mv (.t 117), none, true⟩,
  ⟨(some 11), .mv (.t 118), none, true⟩]
@[reducible] def o7_18 : List Ins := [⟨(some 120), .ld false 3 (.t 3), none, true⟩,
  ⟨(some 121), .call (.k (.fn 20 [])) [(.t 120)], none, true⟩,
  ⟨(some 119), .mv (.t 121), none, true⟩,
  ⟨(some 122), .ext (.t 119) 0, none, true⟩,
  ⟨(some 123), .ext (.t 119) 1, none, true⟩,
  ⟨(some 12), .mv (.t 122), none, true⟩,
  ⟨(some 13), .mv (.t 123), none, true⟩]
@[reducible] def o7_19 : List Ins := [⟨(some 125), .ld false 3 (.t 7), none, true⟩,
  ⟨(some 126), .call (.k (.fn 20 [])) [(.t 125)], none, true⟩,
  ⟨(some 124), .mv (.t 126), none, true⟩,
  ⟨(some 127), .ext (.t 124) 0, none, true⟩,
  ⟨(some 128), .ext (.t 124) 1, none, true⟩,
  ⟨(some 14), .mv (.t 127), none, true⟩,
  ⟨(some 15), .mv (.t 128), none, true⟩]
@[reducible] def o7_20 : List Ins := [⟨(some 129), .mv (.t 9), none, true⟩,
  ⟨(some 130), .call (.k (.fn 16 [])) [(.t 129)], none, true⟩,
  ⟨(some 131), .un .not (.t 130), none, true⟩,
  ⟨(some 132), .mv (.t 131), none, true⟩,
  ⟨(some 133), .mv (.t 11), (some (132, false)), true⟩,
  ⟨(some 134), .call (.k (.fn 16 [])) [(.t 133)], (some (132, false)), true⟩,
  ⟨(some 135), .un .not (.t 134), (some (132, false)), true⟩,
  ⟨(some 136), .pick (.t 132) (.k (.c (.bool true))) (.t 135), none, true⟩,
  ⟨(some 137), .mv (.t 136), none, true⟩,
  ⟨(some 138), .mv (.t 13), (some (137, false)), true⟩,
  ⟨(some 139), .mv (.t 9), (some (137, false)), true⟩,
  ⟨(some 140), .bin .neq (.t 138) (.t 139), (some (137, false)), true⟩,
  ⟨(some 141), .pick (.t 137) (.k (.c (.bool true))) (.t 140), none, true⟩,
  ⟨(some 142), .mv (.t 141), none, true⟩,
  ⟨(some 143), .mv (.t 15), (some (142, false)), true⟩,
  ⟨(some 144), .mv (.t 11), (some (142, false)), true⟩,
  ⟨(some 145), .bin .neq (.t 143) (.t 144), (some (142, false)), true⟩,
  ⟨(some 146), .pick (.t 142) (.k (.c (.bool true))) (.t 145), none, true⟩,
  ⟨(some 147), .mv (.t 146), none, true⟩,
  ⟨(some 148), .mv (.t 9), (some (147, false)), true⟩,
  ⟨(some 149), .bin .eql (.t 148) (.k (.c (.int .i64 0))), (some (147, false)), true⟩,
  ⟨(some 150), .mv (.t 149), (some (147, false)), true⟩,
  ⟨(some 151), .mv (.t 11), (some (150, true)), true⟩,
  ⟨(some 152), .bin .neq (.t 151) (.k (.c (.int .i64 0))), (some (150, true)), true⟩,
  ⟨(some 153), .mv (.t 152), (some (150, true)), true⟩,
  ⟨(some 154), .mv (.t 10), (some (153, false)), true⟩,
  ⟨(some 155), .mv (.t 8), (some (153, false)), true⟩,
  ⟨(some 156), .bin .gtr (.t 154) (.t 155), (some (153, false)), true⟩,
  ⟨(some 157), .pick (.t 153) (.k (.c (.bool true))) (.t 156), (some (150, true)), true⟩,
  ⟨(some 158), .mv (.t 157), (some (150, true)), true⟩,
  ⟨(some 159), .mv (.t 14), (some (158, false)), true⟩,
  ⟨(some 160), .mv (.t 12), (some (158, false)), true⟩,
  ⟨(some 161), .bin .gtr (.t 159) (.t 160), (some (158, false)), true⟩,
  ⟨(some 162), .pick (.t 158) (.k (.c (.bool true))) (.t 161), (some (150, true)), true⟩,
  ⟨(some 163), .pick (.t 150) (.t 162) (.k (.c (.bool false))), (some (147, false)), true⟩,
  ⟨(some 164), .pick (.t 147) (.k (.c (.bool true))) (.t 163), none, true⟩]
@[reducible] def o7_21 : List Ins := [⟨(some 6), .mv (.k (.c (.bool false))), none, true⟩]
@[reducible] def v7_22 : VC := (.seq (.ops o7_21) .ret)
@[reducible] def v7_23 : VC := (.cond (.t 164) v7_22 .skip)
@[reducible] def o7_24 : List Ins := [⟨(some 166), .ld false 3 (.t 3), none, true⟩,
  ⟨(some 167), .call (.k (.fn 15 [])) [(.t 166)], none, true⟩,
  ⟨(some 165), .mv (.t 167), none, true⟩,
  ⟨(some 168), .ext (.t 165) 0, none, true⟩,
  ⟨(some 169), .ext (.t 165) 1, none, true⟩,
  ⟨(some 8), .mv (.t 168), none, true⟩,
  ⟨(some 9), .mv (.t 169), none, true⟩]
@[reducible] def o7_25 : List Ins := [⟨(some 171), .ld false 3 (.t 7), none, true⟩,
  ⟨(some 172), .call (.k (.fn 15 [])) [(.t 171)], none, true⟩,
  ⟨(some 170), .mv (.t 172), none, true⟩,
  ⟨(some 173), .ext (.t 170) 0, none, true⟩,
  ⟨(some 174), .ext (.t 170) 1, none, true⟩,
  ⟨(some 10), .mv (.t 173), none, true⟩,
  ⟨(some 11), .mv (.t 174), none, true⟩]
@[reducible] def o7_26 : List Ins := [⟨(some 176), .ld false 3 (.t 3), none, true⟩,
  ⟨(some 177), .call (.k (.fn 41 [])) [(.t 176)], none, true⟩,
  ⟨(some 175), .mv (.t 177), none, true⟩,
  ⟨(some 178), .ext (.t 175) 0, none, true⟩,
  ⟨(some 179), .ext (.t 175) 1, none, true⟩,
  ⟨(some 12), .mv (.t 178), none, true⟩,
  ⟨(some 13), .mv (.t 179), none, true⟩]
@[reducible] def o7_27 : List Ins := [⟨(some 181), .ld false 3 (.t 7), none, true⟩,
  ⟨(some 182), .call (.k (.fn 41 [])) [(.t 181)], none, true⟩,
  ⟨(some 180), .mv (.t 182), none, true⟩,
  ⟨(some 183), .ext (.t 180) 0, none, true⟩,
  ⟨(some 184), .ext (.t 180) 1, none, true⟩,
  ⟨(some 14), .mv (.t 183), none, true⟩,
  ⟨(some 15), .mv (.t 184), none, true⟩]
@[reducible] def o7_28 : List Ins := [⟨(some 186), .ld false 3 (.t 3), none, true⟩,
  ⟨(some 187), .call (.k (.fn 42 [])) [(.t 186)], none, true⟩,
  ⟨(some 185), .mv (.t 187), none, true⟩,
  ⟨(some 188), .ext (.t 185) 0, none, true⟩,
  ⟨(some 189), .ext (.t 185) 1, none, true⟩,
  ⟨(some 16), .mv (.t 188), none, true⟩,
  ⟨(some 17), .mv (.t 189), none, true⟩]
@[reducible] def o7_29 : List Ins := [⟨(some 191), .ld false 3 (.t 7), none, true⟩,
  ⟨(some 192), .call (.k (.fn 42 [])) [(.t 191)], none, true⟩,
  ⟨(some 190), .mv (.t 192), none, true⟩,
  ⟨(some 193), .ext (.t 190) 0, none, true⟩,
  ⟨(some 194), .ext (.t 190) 1, none, true⟩,
  ⟨(some 18), .mv (.t 193), none, true⟩,
  ⟨(some 19), .mv (.t 194), none, true⟩]
@[reducible] def o7_30 : List Ins := [⟨(some 195), .mv (.t 9), none, true⟩,
  ⟨(some 196), .call (.k (.fn 16 [])) [(.t 195)], none, true⟩,
  ⟨(some 197), .mv (.t 196), none, true⟩,
  ⟨(some 198), .mv (.t 11), (some (197, true)), true⟩,
  ⟨(some 199), .call (.k (.fn 16 [])) [(.t 198)], (some (197, true)), true⟩,
  ⟨(some 200), .pick (.t 197) (.t 199) (.k (.c (.bool false))), none, true⟩,
  ⟨(some 201), .mv (.t 200), none, true⟩,
  ⟨(some 202), .mv (.t 9), (some (201, true)), true⟩,
  ⟨(some 203), .bin .neq (.t 202) (.k (.c (.int .i64 0))), (some (201, true)), true⟩,
  ⟨(some 204), .mv (.t 203), (some (201, true)), true⟩,
  ⟨(some 205), .mv (.t 11), (some (204, false)), true⟩,
  ⟨(some 206), .bin .eql (.t 205) (.k (.c (.int .i64 0))), (some (204, false)), true⟩,
  ⟨(some 207), .mv (.t 206), (some (204, false)), true⟩,
  ⟨(some 208), .mv (.t 10), (some (207, true)), true⟩,
  ⟨(some 209), .mv (.t 8), (some (207, true)), true⟩,
  ⟨(some 210), .bin .geq (.t 208) (.t 209), (some (207, true)), true⟩,
  ⟨(some 211), .pick (.t 207) (.t 210) (.k (.c (.bool false))), (some (204, false)), true⟩,
  ⟨(some 212), .pick (.t 204) (.k (.c (.bool true))) (.t 211), (some (201, true)), true⟩,
  ⟨(some 213), .pick (.t 201) (.t 212) (.k (.c (.bool false))), none, true⟩,
  ⟨(some 214), .mv (.t 213), none, true⟩,
  ⟨(some 215), .mv (.t 13), (some (214, true)), true⟩,
  ⟨(some 216), .bin .eql (.t 215) (.k (.c (.int .i64 0))), (some (214, true)), true⟩,
  ⟨(some 217), .pick (.t 214) (.t 216) (.k (.c (.bool false))), none, true⟩,
  ⟨(some 218), .mv (.t 217), none, true⟩,
  ⟨(some 219), .mv (.t 15), (some (218, true)), true⟩,
  ⟨(some 220), .bin .eql (.t 219) (.k (.c (.int .i64 0))), (some (218, true)), true⟩,
  ⟨(some 221), .pick (.t 218) (.t 220) (.k (.c (.bool false))), none, true⟩,
  ⟨(some 222), .mv (.t 221), none, true⟩,
  ⟨(some 223), .mv (.t 14), (some (222, true)), true⟩,
  ⟨(some 224), .mv (.t 12), (some (222, true)), true⟩,
  ⟨(some 225), .bin .geq (.t 223) (.t 224), (some (222, true)), true⟩,
  ⟨(some 226), .pick (.t 222) (.t 225) (.k (.c (.bool false))), none, true⟩,
  ⟨(some 227), .mv (.t 226), none, true⟩,
  ⟨(some 228), .mv (.t 17), (some (227, true)), true⟩,
  ⟨(some 229), .bin .eql (.t 228) (.k (.c (.int .i64 0))), (some (227, true)), true⟩,
  ⟨(some 230), .pick (.t 227) (.t 229) (.k (.c (.bool false))), none, true⟩,
  ⟨(some 231), .mv (.t 230), none, true⟩,
  ⟨(some 232), .mv (.t 19), (some (231, true)), true⟩,
  ⟨(some 233), .bin .eql (.t 232) (.k (.c (.int .i64 0))), (some (231, true)), true⟩,
  ⟨(some 234), .pick (.t 231) (.t 233) (.k (.c (.bool false))), none, true⟩,
  ⟨(some 235), .mv (.t 234), none, true⟩,
  ⟨(some 236), .mv (.t 18), (some (235, true)), true⟩,
  ⟨(some 237), .mv (.t 16), (some (235, true)), true⟩,
  ⟨(some 238), .call (.k (.fn 43 [])) [(.t 236), (.t 237)], (some (235, true)), true⟩,
  ⟨(some 239), .pick (.t 235) (.t 238) (.k (.c (.bool false))), none, true⟩,
  ⟨(some 240), .mv (.t 239), none, true⟩,
  ⟨(some 241), .call (.k (.fn 14 [])) [], (some (240, true)), true⟩,
  ⟨(some 242), .pick (.t 240) (.t 241) (.k (.c (.bool false))), none, true⟩,
  ⟨(some 6), .mv (.t 242), none, true⟩]
@[reducible] def v7_31 : VC := (.seq (.ops o7_30) .ret)
@[reducible] def v7_32 : VC := (.seq (.ops o7_29) v7_31)
@[reducible] def v7_33 : VC := (.seq (.ops o7_28) v7_32)
@[reducible] def v7_34 : VC := (.seq (.ops o7_27) v7_33)
@[reducible] def v7_35 : VC := (.seq (.ops o7_26) v7_34)
@[reducible] def v7_36 : VC := (.seq (.ops o7_25) v7_35)
@[reducible] def v7_37 : VC := (.seq (.ops o7_24) v7_36)
@[reducible] def v7_38 : VC := (.seq (.seq (.ops o7_20) v7_23) v7_37)
@[reducible] def v7_39 : VC := (.seq (.ops o7_19) v7_38)
@[reducible] def v7_40 : VC := (.seq (.ops o7_18) v7_39)
@[reducible] def v7_41 : VC := (.seq (.ops o7_17) v7_40)
@[reducible] def v7_42 : VC := (.seq (.ops o7_16) v7_41)
@[reducible] def v7_43 : VC := (.seq (.seq (.ops o7_12) v7_15) v7_42)
@[reducible] def v7_44 : VC := (.seq (.ops o7_11) v7_43)
@[reducible] def v7_45 : VC := (.seq (.ops o7_10) v7_44)
@[reducible] def v7_46 : VC := (.seq (.seq (.ops o7_6) v7_9) v7_45)
@[reducible] def v7_47 : VC := (.seq (.ops o7_5) v7_46)
@[reducible] def v7_48 : VC := (.seq (.seq (.ops o7_1) v7_4) v7_47)
def ir7 : FC := ⟨3, 243, [.t 6], (.seq (.ops o7_0) v7_48)⟩
theorem c7 : compM Try.prog [] 7 = some ir7 := by kernel_rfl



set_option maxRecDepth 20000 in
set_option maxHeartbeats 16000000 in
theorem law7 (r : Route) (x : Ease) (l : List Int) : FSpec Try.prog 7 [r.av, x.av, .c (ints l)] (.c (.bool true)) := by
  by_cases hrd : readyS r = true
  rotate_left
  · have hrd : readyS r = false := by simpa using hrd
    refine FSpec_of c7 (Nat.le_refl _) (by decide) fun C hP hN hC hL => ?_
    simp only [ir7, Route.av, Ease.av]
    (repeat ((first | refine WV_seq_ ?_ | refine WV_block ?_ | refine WV_ops ?_ | refine WV_skip ?_ | refine WV_exit ?_); (try simp only [go_sem, init_env', Nat.reduceEqDiff, Nat.reduceAdd, Nat.reduceMul, reduceIte, Nat.reduceLeDiff, Nat.reduceLT, Nat.reduceBEq, reduceCtorEq, hP, ]); (repeat (refine And.intro (by first | omega | (intros; simp_all; done) | (intros; simp_all; omega)) ?_))))
    (refine AS_pure (ready13 r) rfl rfl rfl rfl rfl ?_; simp only [go_sem, init_env', Nat.reduceEqDiff, Nat.reduceAdd, Nat.reduceMul, reduceIte, Nat.reduceLeDiff, Nat.reduceLT, Nat.reduceBEq, reduceCtorEq, hP, Route.av, hrd]; (repeat (refine And.intro (by first | omega | (intros; simp_all; done) | (intros; simp_all; omega)) ?_)); (repeat ((first | refine WV_seq_ ?_ | refine WV_block ?_ | refine WV_ops ?_ | refine WV_skip ?_ | refine WV_exit ?_); (try simp only [go_sem, init_env', Nat.reduceEqDiff, Nat.reduceAdd, Nat.reduceMul, reduceIte, Nat.reduceLeDiff, Nat.reduceLT, Nat.reduceBEq, reduceCtorEq, hP, Route.av, hrd]); (repeat (refine And.intro (by first | omega | (intros; simp_all; done) | (intros; simp_all; omega)) ?_)))))
    (refine AG_pure (r := .c (.bool true)) (fun hG => absurd hG (by decide)) rfl (fun hG => absurd hG (by decide)) rfl rfl rfl ?_; simp only [go_sem, init_env', Nat.reduceEqDiff, Nat.reduceAdd, Nat.reduceMul, reduceIte, Nat.reduceLeDiff, Nat.reduceLT, Nat.reduceBEq, reduceCtorEq, hP, ]; (repeat (refine And.intro (by first | omega | (intros; simp_all; done) | (intros; simp_all; omega)) ?_)); (repeat ((first | refine WV_seq_ ?_ | refine WV_block ?_ | refine WV_ops ?_ | refine WV_skip ?_ | refine WV_exit ?_); (try simp only [go_sem, init_env', Nat.reduceEqDiff, Nat.reduceAdd, Nat.reduceMul, reduceIte, Nat.reduceLeDiff, Nat.reduceLT, Nat.reduceBEq, reduceCtorEq, hP, ]); (repeat (refine And.intro (by first | omega | (intros; simp_all; done) | (intros; simp_all; omega)) ?_)))))
    (refine WV_cond rfl (fun h => ?_) (fun h => ?_))
    · (repeat ((first | refine WV_seq_ ?_ | refine WV_block ?_ | refine WV_ops ?_ | refine WV_skip ?_ | refine WV_exit ?_); (try simp only [go_sem, init_env', Nat.reduceEqDiff, Nat.reduceAdd, Nat.reduceMul, reduceIte, Nat.reduceLeDiff, Nat.reduceLT, Nat.reduceBEq, reduceCtorEq, hP, ]); (repeat (refine And.intro (by first | omega | (intros; simp_all; done) | (intros; simp_all; omega)) ?_))))
      (refine AS_pure (works14) rfl rfl rfl rfl rfl ?_; simp only [go_sem, init_env', Nat.reduceEqDiff, Nat.reduceAdd, Nat.reduceMul, reduceIte, Nat.reduceLeDiff, Nat.reduceLT, Nat.reduceBEq, reduceCtorEq, hP, ]; (repeat (refine And.intro (by first | omega | (intros; simp_all; done) | (intros; simp_all; omega)) ?_)); (repeat ((first | refine WV_seq_ ?_ | refine WV_block ?_ | refine WV_ops ?_ | refine WV_skip ?_ | refine WV_exit ?_); (try simp only [go_sem, init_env', Nat.reduceEqDiff, Nat.reduceAdd, Nat.reduceMul, reduceIte, Nat.reduceLeDiff, Nat.reduceLT, Nat.reduceBEq, reduceCtorEq, hP, ]); (repeat (refine And.intro (by first | omega | (intros; simp_all; done) | (intros; simp_all; omega)) ?_)))))
      (refine WV_ret ?_; simp only [thenQ, inQ, RetQ, RetOk, resAll, resA]; simp only [go_sem, init_env', Nat.reduceEqDiff, Nat.reduceAdd, Nat.reduceMul, reduceIte, Nat.reduceLeDiff, Nat.reduceLT, Nat.reduceBEq, reduceCtorEq, tupA, AV.port, AV.portL, exists_eq_left', ]; (first | exact AVle.of rfl | refine AVle.of ?_ | skip))
    · simp at h
  obtain ⟨hok, hnear⟩ := readyS_of hrd
  have hr := Route.ok_spec hok
  have hn7 := hr.n7
  by_cases hlen : l.length ≤ 20
  rotate_left
  · have hd : decide (20 < (l.length : Int)) = true := by simp; omega
    refine FSpec_of c7 (Nat.le_refl _) (by decide) fun C hP hN hC hL => ?_
    simp only [ir7, Route.av, Ease.av]
    (repeat ((first | refine WV_seq_ ?_ | refine WV_block ?_ | refine WV_ops ?_ | refine WV_skip ?_ | refine WV_exit ?_); (try simp only [go_sem, init_env', Nat.reduceEqDiff, Nat.reduceAdd, Nat.reduceMul, reduceIte, Nat.reduceLeDiff, Nat.reduceLT, Nat.reduceBEq, reduceCtorEq, hP, ]); (repeat (refine And.intro (by first | omega | (intros; simp_all; done) | (intros; simp_all; omega)) ?_))))
    (refine AS_pure (ready13 r) rfl rfl rfl rfl rfl ?_; simp only [go_sem, init_env', Nat.reduceEqDiff, Nat.reduceAdd, Nat.reduceMul, reduceIte, Nat.reduceLeDiff, Nat.reduceLT, Nat.reduceBEq, reduceCtorEq, hP, Route.av, hrd, ints, List.length_map, hd]; (repeat (refine And.intro (by first | omega | (intros; simp_all; done) | (intros; simp_all; omega)) ?_)); (repeat ((first | refine WV_seq_ ?_ | refine WV_block ?_ | refine WV_ops ?_ | refine WV_skip ?_ | refine WV_exit ?_); (try simp only [go_sem, init_env', Nat.reduceEqDiff, Nat.reduceAdd, Nat.reduceMul, reduceIte, Nat.reduceLeDiff, Nat.reduceLT, Nat.reduceBEq, reduceCtorEq, hP, Route.av, hrd, ints, List.length_map, hd]); (repeat (refine And.intro (by first | omega | (intros; simp_all; done) | (intros; simp_all; omega)) ?_)))))
    (refine AG_pure (r := .c (.bool true)) (fun hG => absurd hG (by decide)) rfl (fun hG => absurd hG (by decide)) rfl rfl rfl ?_; simp only [go_sem, init_env', Nat.reduceEqDiff, Nat.reduceAdd, Nat.reduceMul, reduceIte, Nat.reduceLeDiff, Nat.reduceLT, Nat.reduceBEq, reduceCtorEq, hP, ]; (repeat (refine And.intro (by first | omega | (intros; simp_all; done) | (intros; simp_all; omega)) ?_)); (repeat ((first | refine WV_seq_ ?_ | refine WV_block ?_ | refine WV_ops ?_ | refine WV_skip ?_ | refine WV_exit ?_); (try simp only [go_sem, init_env', Nat.reduceEqDiff, Nat.reduceAdd, Nat.reduceMul, reduceIte, Nat.reduceLeDiff, Nat.reduceLT, Nat.reduceBEq, reduceCtorEq, hP, ]); (repeat (refine And.intro (by first | omega | (intros; simp_all; done) | (intros; simp_all; omega)) ?_)))))
    (refine WV_cond rfl (fun h => ?_) (fun h => ?_))
    · (repeat ((first | refine WV_seq_ ?_ | refine WV_block ?_ | refine WV_ops ?_ | refine WV_skip ?_ | refine WV_exit ?_); (try simp only [go_sem, init_env', Nat.reduceEqDiff, Nat.reduceAdd, Nat.reduceMul, reduceIte, Nat.reduceLeDiff, Nat.reduceLT, Nat.reduceBEq, reduceCtorEq, hP, ]); (repeat (refine And.intro (by first | omega | (intros; simp_all; done) | (intros; simp_all; omega)) ?_))))
      (refine AS_pure (works14) rfl rfl rfl rfl rfl ?_; simp only [go_sem, init_env', Nat.reduceEqDiff, Nat.reduceAdd, Nat.reduceMul, reduceIte, Nat.reduceLeDiff, Nat.reduceLT, Nat.reduceBEq, reduceCtorEq, hP, ]; (repeat (refine And.intro (by first | omega | (intros; simp_all; done) | (intros; simp_all; omega)) ?_)); (repeat ((first | refine WV_seq_ ?_ | refine WV_block ?_ | refine WV_ops ?_ | refine WV_skip ?_ | refine WV_exit ?_); (try simp only [go_sem, init_env', Nat.reduceEqDiff, Nat.reduceAdd, Nat.reduceMul, reduceIte, Nat.reduceLeDiff, Nat.reduceLT, Nat.reduceBEq, reduceCtorEq, hP, ]); (repeat (refine And.intro (by first | omega | (intros; simp_all; done) | (intros; simp_all; omega)) ?_)))))
      (refine WV_ret ?_; simp only [thenQ, inQ, RetQ, RetOk, resAll, resA]; simp only [go_sem, init_env', Nat.reduceEqDiff, Nat.reduceAdd, Nat.reduceMul, reduceIte, Nat.reduceLeDiff, Nat.reduceLT, Nat.reduceBEq, reduceCtorEq, tupA, AV.port, AV.portL, exists_eq_left', ]; (first | exact AVle.of rfl | refine AVle.of ?_ | skip))
    · simp at h
  have hd20 : decide (20 < (l.length : Int)) = false := by simp; omega
  have htour := istour23 hn7 l hlen
  by_cases hit : isTour r l = true
  rotate_left
  · have hit : isTour r l = false := by simpa using hit
    rw [hit] at htour
    refine FSpec_of c7 (Nat.le_refl _) (by decide) fun C hP hN hC hL => ?_
    simp only [ir7, Route.av, Ease.av]
    (repeat ((first | refine WV_seq_ ?_ | refine WV_block ?_ | refine WV_ops ?_ | refine WV_skip ?_ | refine WV_exit ?_); (try simp only [go_sem, init_env', Nat.reduceEqDiff, Nat.reduceAdd, Nat.reduceMul, reduceIte, Nat.reduceLeDiff, Nat.reduceLT, Nat.reduceBEq, reduceCtorEq, hP, ]); (repeat (refine And.intro (by first | omega | (intros; simp_all; done) | (intros; simp_all; omega)) ?_))))
    (refine AS_pure (ready13 r) rfl rfl rfl rfl rfl ?_; simp only [go_sem, init_env', Nat.reduceEqDiff, Nat.reduceAdd, Nat.reduceMul, reduceIte, Nat.reduceLeDiff, Nat.reduceLT, Nat.reduceBEq, reduceCtorEq, hP, Route.av, hrd, ints, List.length_map, hd20]; (repeat (refine And.intro (by first | omega | (intros; simp_all; done) | (intros; simp_all; omega)) ?_)); (repeat ((first | refine WV_seq_ ?_ | refine WV_block ?_ | refine WV_ops ?_ | refine WV_skip ?_ | refine WV_exit ?_); (try simp only [go_sem, init_env', Nat.reduceEqDiff, Nat.reduceAdd, Nat.reduceMul, reduceIte, Nat.reduceLeDiff, Nat.reduceLT, Nat.reduceBEq, reduceCtorEq, hP, Route.av, hrd, ints, List.length_map, hd20]); (repeat (refine And.intro (by first | omega | (intros; simp_all; done) | (intros; simp_all; omega)) ?_)))))
    (refine AG_pure (fun hG => htour) rfl (fun hG => by first | (simp only [go_sem, init_env', Nat.reduceEqDiff, Nat.reduceAdd, Nat.reduceMul, reduceIte, Nat.reduceLeDiff, Nat.reduceLT, Nat.reduceBEq, reduceCtorEq, hG]; done) | (simp only [go_sem, init_env', Nat.reduceEqDiff, Nat.reduceAdd, Nat.reduceMul, reduceIte, Nat.reduceLeDiff, Nat.reduceLT, Nat.reduceBEq, reduceCtorEq]; revert hG; simp; done) | (simp only [go_sem, init_env', Nat.reduceEqDiff, Nat.reduceAdd, Nat.reduceMul, reduceIte, Nat.reduceLeDiff, Nat.reduceLT, Nat.reduceBEq, reduceCtorEq, hG]; simp_all; done) | (revert hG; simp; done) | simp_all) rfl rfl rfl ?_; simp only [go_sem, init_env', Nat.reduceEqDiff, Nat.reduceAdd, Nat.reduceMul, reduceIte, Nat.reduceLeDiff, Nat.reduceLT, Nat.reduceBEq, reduceCtorEq, hP, Route.av]; (repeat (refine And.intro (by first | omega | (intros; simp_all; done) | (intros; simp_all; omega)) ?_)); (repeat ((first | refine WV_seq_ ?_ | refine WV_block ?_ | refine WV_ops ?_ | refine WV_skip ?_ | refine WV_exit ?_); (try simp only [go_sem, init_env', Nat.reduceEqDiff, Nat.reduceAdd, Nat.reduceMul, reduceIte, Nat.reduceLeDiff, Nat.reduceLT, Nat.reduceBEq, reduceCtorEq, hP, Route.av]); (repeat (refine And.intro (by first | omega | (intros; simp_all; done) | (intros; simp_all; omega)) ?_)))))
    (refine WV_cond rfl (fun h => ?_) (fun h => ?_))
    · (repeat ((first | refine WV_seq_ ?_ | refine WV_block ?_ | refine WV_ops ?_ | refine WV_skip ?_ | refine WV_exit ?_); (try simp only [go_sem, init_env', Nat.reduceEqDiff, Nat.reduceAdd, Nat.reduceMul, reduceIte, Nat.reduceLeDiff, Nat.reduceLT, Nat.reduceBEq, reduceCtorEq, hP, ]); (repeat (refine And.intro (by first | omega | (intros; simp_all; done) | (intros; simp_all; omega)) ?_))))
      (refine AS_pure (works14) rfl rfl rfl rfl rfl ?_; simp only [go_sem, init_env', Nat.reduceEqDiff, Nat.reduceAdd, Nat.reduceMul, reduceIte, Nat.reduceLeDiff, Nat.reduceLT, Nat.reduceBEq, reduceCtorEq, hP, ]; (repeat (refine And.intro (by first | omega | (intros; simp_all; done) | (intros; simp_all; omega)) ?_)); (repeat ((first | refine WV_seq_ ?_ | refine WV_block ?_ | refine WV_ops ?_ | refine WV_skip ?_ | refine WV_exit ?_); (try simp only [go_sem, init_env', Nat.reduceEqDiff, Nat.reduceAdd, Nat.reduceMul, reduceIte, Nat.reduceLeDiff, Nat.reduceLT, Nat.reduceBEq, reduceCtorEq, hP, ]); (repeat (refine And.intro (by first | omega | (intros; simp_all; done) | (intros; simp_all; omega)) ?_)))))
      (refine WV_ret ?_; simp only [thenQ, inQ, RetQ, RetOk, resAll, resA]; simp only [go_sem, init_env', Nat.reduceEqDiff, Nat.reduceAdd, Nat.reduceMul, reduceIte, Nat.reduceLeDiff, Nat.reduceLT, Nat.reduceBEq, reduceCtorEq, tupA, AV.port, AV.portL, exists_eq_left', ]; (first | exact AVle.of rfl | refine AVle.of ?_ | skip))
    · simp at h
  rw [hit] at htour
  refine FSpec_of c7 (Nat.le_refl _) (by decide) fun C hP hN hC hL => ?_
  simp only [ir7, Route.av, Ease.av]
  (repeat ((first | refine WV_seq_ ?_ | refine WV_block ?_ | refine WV_ops ?_ | refine WV_skip ?_ | refine WV_exit ?_); (try simp only [go_sem, init_env', Nat.reduceEqDiff, Nat.reduceAdd, Nat.reduceMul, reduceIte, Nat.reduceLeDiff, Nat.reduceLT, Nat.reduceBEq, reduceCtorEq, hP, ]); (repeat (refine And.intro (by first | omega | (intros; simp_all; done) | (intros; simp_all; omega)) ?_))))
  (refine AS_pure (ready13 r) rfl rfl rfl rfl rfl ?_; simp only [go_sem, init_env', Nat.reduceEqDiff, Nat.reduceAdd, Nat.reduceMul, reduceIte, Nat.reduceLeDiff, Nat.reduceLT, Nat.reduceBEq, reduceCtorEq, hP, Route.av, hrd, ints, List.length_map, hd20]; (repeat (refine And.intro (by first | omega | (intros; simp_all; done) | (intros; simp_all; omega)) ?_)); (repeat ((first | refine WV_seq_ ?_ | refine WV_block ?_ | refine WV_ops ?_ | refine WV_skip ?_ | refine WV_exit ?_); (try simp only [go_sem, init_env', Nat.reduceEqDiff, Nat.reduceAdd, Nat.reduceMul, reduceIte, Nat.reduceLeDiff, Nat.reduceLT, Nat.reduceBEq, reduceCtorEq, hP, Route.av, hrd, ints, List.length_map, hd20]); (repeat (refine And.intro (by first | omega | (intros; simp_all; done) | (intros; simp_all; omega)) ?_)))))
  (refine AG_pure (fun hG => htour) rfl (fun hG => by first | (simp only [go_sem, init_env', Nat.reduceEqDiff, Nat.reduceAdd, Nat.reduceMul, reduceIte, Nat.reduceLeDiff, Nat.reduceLT, Nat.reduceBEq, reduceCtorEq, hG]; done) | (simp only [go_sem, init_env', Nat.reduceEqDiff, Nat.reduceAdd, Nat.reduceMul, reduceIte, Nat.reduceLeDiff, Nat.reduceLT, Nat.reduceBEq, reduceCtorEq]; revert hG; simp; done) | (simp only [go_sem, init_env', Nat.reduceEqDiff, Nat.reduceAdd, Nat.reduceMul, reduceIte, Nat.reduceLeDiff, Nat.reduceLT, Nat.reduceBEq, reduceCtorEq, hG]; simp_all; done) | (revert hG; simp; done) | simp_all) rfl rfl rfl ?_; simp only [go_sem, init_env', Nat.reduceEqDiff, Nat.reduceAdd, Nat.reduceMul, reduceIte, Nat.reduceLeDiff, Nat.reduceLT, Nat.reduceBEq, reduceCtorEq, hP, Route.av, mmGo]; (repeat (refine And.intro (by first | omega | (intros; simp_all; done) | (intros; simp_all; omega)) ?_)); (repeat ((first | refine WV_seq_ ?_ | refine WV_block ?_ | refine WV_ops ?_ | refine WV_skip ?_ | refine WV_exit ?_); (try simp only [go_sem, init_env', Nat.reduceEqDiff, Nat.reduceAdd, Nat.reduceMul, reduceIte, Nat.reduceLeDiff, Nat.reduceLT, Nat.reduceBEq, reduceCtorEq, hP, Route.av, mmGo]); (repeat (refine And.intro (by first | omega | (intros; simp_all; done) | (intros; simp_all; omega)) ?_)))))
  (refine WV_cond rfl (fun h => ?_) (fun h => ?_))
  · (repeat ((first | refine WV_seq_ ?_ | refine WV_block ?_ | refine WV_ops ?_ | refine WV_skip ?_ | refine WV_exit ?_); (try simp only [go_sem, init_env', Nat.reduceEqDiff, Nat.reduceAdd, Nat.reduceMul, reduceIte, Nat.reduceLeDiff, Nat.reduceLT, Nat.reduceBEq, reduceCtorEq, hP, ]); (repeat (refine And.intro (by first | omega | (intros; simp_all; done) | (intros; simp_all; omega)) ?_))))
    (refine AS_pure (works14) rfl rfl rfl rfl rfl ?_; simp only [go_sem, init_env', Nat.reduceEqDiff, Nat.reduceAdd, Nat.reduceMul, reduceIte, Nat.reduceLeDiff, Nat.reduceLT, Nat.reduceBEq, reduceCtorEq, hP, ]; (repeat (refine And.intro (by first | omega | (intros; simp_all; done) | (intros; simp_all; omega)) ?_)); (repeat ((first | refine WV_seq_ ?_ | refine WV_block ?_ | refine WV_ops ?_ | refine WV_skip ?_ | refine WV_exit ?_); (try simp only [go_sem, init_env', Nat.reduceEqDiff, Nat.reduceAdd, Nat.reduceMul, reduceIte, Nat.reduceLeDiff, Nat.reduceLT, Nat.reduceBEq, reduceCtorEq, hP, ]); (repeat (refine And.intro (by first | omega | (intros; simp_all; done) | (intros; simp_all; omega)) ?_)))))
    (refine WV_ret ?_; simp only [thenQ, inQ, RetQ, RetOk, resAll, resA]; simp only [go_sem, init_env', Nat.reduceEqDiff, Nat.reduceAdd, Nat.reduceMul, reduceIte, Nat.reduceLeDiff, Nat.reduceLT, Nat.reduceBEq, reduceCtorEq, tupA, AV.port, AV.portL, exists_eq_left', ]; (first | exact AVle.of rfl | refine AVle.of ?_ | skip))
  have hx : x.ok := by
    rw [Bool.or_eq_false_iff, decide_eq_false_iff_not, decide_eq_false_iff_not] at h
    unfold Ease.ok; omega
  clear h
  have he := eased40 hok hnear x hx
  have hE := eased_easier (r := r) hx
  generalize easedR r x = o at he hE
  refine WV_skip ?_
  refine WV_sub (σ' := ⟨upd (upd (upd e0 2 (.c (ints l))) 3 (.bp 3 0)) 4 (.bp 4 0), upd (upd o0 3 (.box [.c (stopsC r.stops), .c (driveC r.drive), iv r.start])) 4 (.box [iv x.stop, iv x.op, iv x.cl, iv x.st, iv x.start, iv x.frm, iv x.to, iv x.drive])⟩) (Sub_of (by ((repeat' (first | exact EnvLe_e0 _ _ | refine EnvLe_upd ?_ ?_)) <;> ((try simp only [upd_app, e0_app, o0_app, Nat.reduceEqDiff, reduceIte]); first | exact AWk.refl _ _ | exact AWk.int (by omega) | exact AWk.int (by rw [w64 (by omega) (by omega)]; omega) | exact AWk.grow rfl | exact AWk.nil _ | exact AWk.of (by simp)))) (by (first | ((repeat' (first | exact ObjLe_o0 _ | exact ObjLe.rfl' _ | refine ObjLe_same ?_ | refine ObjLe_upd ?_ ?_ | refine ObjLe_new rfl ?_)) <;> rfl) | (refine ObjLe_X ?_; (repeat' (first | exact ObjLeX_o0 _ _ | refine ObjLeX_skip rfl ?_ | refine ObjLeX_upd ?_ ?_)) <;> rfl)))) ?_
  clear htour
  refine WV_seq_ ?_
  (refine WV_ops ?_; simp only [go_sem, init_env', Nat.reduceEqDiff, Nat.reduceAdd, Nat.reduceMul, reduceIte, Nat.reduceLeDiff, Nat.reduceLT, Nat.reduceBEq, reduceCtorEq, hP, ]; (repeat (refine And.intro (by first | omega | (intros; simp_all; done) | (intros; simp_all; omega)) ?_)))
  (refine AS_pure (he) rfl rfl rfl rfl rfl ?_; simp only [go_sem, init_env', Nat.reduceEqDiff, Nat.reduceAdd, Nat.reduceMul, reduceIte, Nat.reduceLeDiff, Nat.reduceLT, Nat.reduceBEq, reduceCtorEq, hP, Route.av, Ease.av]; (repeat (refine And.intro (by first | omega | (intros; simp_all; done) | (intros; simp_all; omega)) ?_)); (repeat ((first | refine WV_seq_ ?_ | refine WV_block ?_ | refine WV_ops ?_ | refine WV_skip ?_ | refine WV_exit ?_); (try simp only [go_sem, init_env', Nat.reduceEqDiff, Nat.reduceAdd, Nat.reduceMul, reduceIte, Nat.reduceLeDiff, Nat.reduceLT, Nat.reduceBEq, reduceCtorEq, hP, Route.av, Ease.av]); (repeat (refine And.intro (by first | omega | (intros; simp_all; done) | (intros; simp_all; omega)) ?_)))))
  (refine AS_pure (ready13 o) rfl rfl rfl rfl rfl ?_; simp only [go_sem, init_env', Nat.reduceEqDiff, Nat.reduceAdd, Nat.reduceMul, reduceIte, Nat.reduceLeDiff, Nat.reduceLT, Nat.reduceBEq, reduceCtorEq, hP, Route.av]; (repeat (refine And.intro (by first | omega | (intros; simp_all; done) | (intros; simp_all; omega)) ?_)); (repeat ((first | refine WV_seq_ ?_ | refine WV_block ?_ | refine WV_ops ?_ | refine WV_skip ?_ | refine WV_exit ?_); (try simp only [go_sem, init_env', Nat.reduceEqDiff, Nat.reduceAdd, Nat.reduceMul, reduceIte, Nat.reduceLeDiff, Nat.reduceLT, Nat.reduceBEq, reduceCtorEq, hP, Route.av]); (repeat (refine And.intro (by first | omega | (intros; simp_all; done) | (intros; simp_all; omega)) ?_)))))
  (refine WV_cond rfl (fun h => ?_) (fun h => ?_))
  · (repeat ((first | refine WV_seq_ ?_ | refine WV_block ?_ | refine WV_ops ?_ | refine WV_skip ?_ | refine WV_exit ?_); (try simp only [go_sem, init_env', Nat.reduceEqDiff, Nat.reduceAdd, Nat.reduceMul, reduceIte, Nat.reduceLeDiff, Nat.reduceLT, Nat.reduceBEq, reduceCtorEq, hP, ]); (repeat (refine And.intro (by first | omega | (intros; simp_all; done) | (intros; simp_all; omega)) ?_))))
    (refine AS_pure (works14) rfl rfl rfl rfl rfl ?_; simp only [go_sem, init_env', Nat.reduceEqDiff, Nat.reduceAdd, Nat.reduceMul, reduceIte, Nat.reduceLeDiff, Nat.reduceLT, Nat.reduceBEq, reduceCtorEq, hP, ]; (repeat (refine And.intro (by first | omega | (intros; simp_all; done) | (intros; simp_all; omega)) ?_)); (repeat ((first | refine WV_seq_ ?_ | refine WV_block ?_ | refine WV_ops ?_ | refine WV_skip ?_ | refine WV_exit ?_); (try simp only [go_sem, init_env', Nat.reduceEqDiff, Nat.reduceAdd, Nat.reduceMul, reduceIte, Nat.reduceLeDiff, Nat.reduceLT, Nat.reduceBEq, reduceCtorEq, hP, ]); (repeat (refine And.intro (by first | omega | (intros; simp_all; done) | (intros; simp_all; omega)) ?_)))))
    (refine WV_ret ?_; simp only [thenQ, inQ, RetQ, RetOk, resAll, resA]; simp only [go_sem, init_env', Nat.reduceEqDiff, Nat.reduceAdd, Nat.reduceMul, reduceIte, Nat.reduceLeDiff, Nat.reduceLT, Nat.reduceBEq, reduceCtorEq, tupA, AV.port, AV.portL, exists_eq_left', ]; (first | exact AVle.of rfl | refine AVle.of ?_ | skip))
  have hro : readyS o = true := by simpa using h
  obtain ⟨hoo, honear⟩ := readyS_of hro
  have K := easeK hok hoo hE
  have B := back_easier hok hoo hE hit
  have hb1 := back30 r l hlen
  have hb2 := back30 o l hlen
  have c1 := soon35 r
  have c2 := soon35 o
  have s1 := shortest20 r
  have s2 := shortest20 o
  have l1 := latest15 r
  have l2 := latest15 o
  have m1 := most41 r
  have m2 := most41 o
  have u1 := shut42 r
  have u2 := shut42 o
  rw [soon_eq] at c1 c2
  rw [shortest_eq] at s1 s2
  rw [latest_eq] at l1 l2
  rw [most_eq] at m1 m2
  rw [shut_eq] at u1 u2
  have e1 : (rsoonS r).2 = errR r := by unfold rsoonS; split <;> simp_all
  have e2 : (rsoonS o).2 = errR o := by unfold rsoonS; split <;> simp_all
  have e3 : (rshortS r).2 = errR r := by unfold rshortS; split <;> simp_all
  have e4 : (rshortS o).2 = errR o := by unfold rshortS; split <;> simp_all
  have e5 : (rmostS r).2 = 0 := by unfold rmostS; rw [if_pos hok]
  have e6 : (rmostS o).2 = 0 := by unfold rmostS; rw [if_pos hoo]
  have e7 : (rshutS r).2 = 0 := by unfold rshutS; rw [if_pos hok]
  have e8 : (rshutS o).2 = 0 := by unfold rshutS; rw [if_pos hoo]
  obtain ⟨k1, ⟨k2, k2'⟩, k3, k4, k5, ⟨k6, k6', k6''⟩, k7, k8, k9⟩ := K
  obtain ⟨B1, B2, B3⟩ := B
  have hsub := subset43 k7 k8 k9
  rw [e1] at c1
  rw [e2] at c2
  rw [e3] at s1
  rw [e4] at s2
  rw [e5] at m1
  rw [e6] at m2
  rw [e7] at u1
  rw [e8] at u2
  have n1 := known16 (errR r)
  have n2 := known16 (errR o)
  have n3 := known16 (rlatS r).2
  have n4 := known16 (rlatS o).2
  have q1 : knownS (errR r) = true := by unfold knownS; rcases k2 with h | h <;> rw [h] <;> rfl
  have q2 : knownS (errR o) = true := by unfold knownS; rcases k2' with h | h <;> rw [h] <;> rfl
  have q3 : knownS (rlatS r).2 = true := by unfold knownS; rcases k6 with h | h <;> rw [h] <;> rfl
  have q4 : knownS (rlatS o).2 = true := by unfold knownS; rcases k6' with h | h <;> rw [h] <;> rfl
  rw [q1] at n1
  rw [q2] at n2
  rw [q3] at n3
  rw [q4] at n4
  clear e1 e2 e3 e4 e5 e6 e7 e8 q1 q2 q3 q4 hrd hro hE he
  generalize (rsoonS r).1 = S1 at *
  generalize (rsoonS o).1 = S2 at *
  generalize (rshortS r).1 = H1 at *
  generalize (rshortS o).1 = H2 at *
  generalize (rmostS r).1 = M1 at *
  generalize (rmostS o).1 = M2 at *
  generalize (rshutS r).1 = U1 at *
  generalize (rshutS o).1 = U2 at *
  generalize (rlatS r).1 = L1 at *
  generalize (rlatS o).1 = L2 at *
  generalize (rlatS r).2 = G1 at *
  generalize (rlatS o).2 = G2 at *
  generalize errR r = E1 at *
  generalize errR o = E2 at *
  generalize (backS r l).1 = A1 at *
  generalize (backS o l).1 = A2 at *
  generalize (backS r l).2 = F1 at *
  generalize (backS o l).2 = F2 at *
  refine WV_skip ?_
  refine WV_sub (σ' := ⟨upd (upd (upd e0 2 (.c (ints l))) 3 (.bp 3 0)) 7 (.bp 7 0), upd (upd o0 3 (.box [.c (stopsC r.stops), .c (driveC r.drive), iv r.start])) 7 (.box [.c (stopsC o.stops), .c (driveC o.drive), iv o.start])⟩) (Sub_of (by ((repeat' (first | exact EnvLe_e0 _ _ | refine EnvLe_upd ?_ ?_)) <;> ((try simp only [upd_app, e0_app, o0_app, Nat.reduceEqDiff, reduceIte]); first | exact AWk.refl _ _ | exact AWk.int (by omega) | exact AWk.int (by rw [w64 (by omega) (by omega)]; omega) | exact AWk.grow rfl | exact AWk.nil _ | exact AWk.of (by simp)))) (by (first | ((repeat' (first | exact ObjLe_o0 _ | exact ObjLe.rfl' _ | refine ObjLe_same ?_ | refine ObjLe_upd ?_ ?_ | refine ObjLe_new rfl ?_)) <;> rfl) | (refine ObjLe_X ?_; (repeat' (first | exact ObjLeX_o0 _ _ | refine ObjLeX_skip rfl ?_ | refine ObjLeX_upd ?_ ?_)) <;> rfl)))) ?_
  refine WV_seq_ ?_
  (refine WV_ops ?_; simp only [go_sem, init_env', Nat.reduceEqDiff, Nat.reduceAdd, Nat.reduceMul, reduceIte, Nat.reduceLeDiff, Nat.reduceLT, Nat.reduceBEq, reduceCtorEq, hP, ]; (repeat (refine And.intro (by first | omega | (intros; simp_all; done) | (intros; simp_all; omega)) ?_)))
  (refine AS_pure (hb1) rfl rfl rfl rfl rfl ?_; simp only [go_sem, init_env', Nat.reduceEqDiff, Nat.reduceAdd, Nat.reduceMul, reduceIte, Nat.reduceLeDiff, Nat.reduceLT, Nat.reduceBEq, reduceCtorEq, hP, Route.av]; (repeat (refine And.intro (by first | omega | (intros; simp_all; done) | (intros; simp_all; omega)) ?_)); (repeat ((first | refine WV_seq_ ?_ | refine WV_block ?_ | refine WV_ops ?_ | refine WV_skip ?_ | refine WV_exit ?_); (try simp only [go_sem, init_env', Nat.reduceEqDiff, Nat.reduceAdd, Nat.reduceMul, reduceIte, Nat.reduceLeDiff, Nat.reduceLT, Nat.reduceBEq, reduceCtorEq, hP, Route.av]); (repeat (refine And.intro (by first | omega | (intros; simp_all; done) | (intros; simp_all; omega)) ?_)))))
  (refine AS_pure (hb2) rfl rfl rfl rfl rfl ?_; simp only [go_sem, init_env', Nat.reduceEqDiff, Nat.reduceAdd, Nat.reduceMul, reduceIte, Nat.reduceLeDiff, Nat.reduceLT, Nat.reduceBEq, reduceCtorEq, hP, Route.av]; (repeat (refine And.intro (by first | omega | (intros; simp_all; done) | (intros; simp_all; omega)) ?_)); (repeat ((first | refine WV_seq_ ?_ | refine WV_block ?_ | refine WV_ops ?_ | refine WV_skip ?_ | refine WV_exit ?_); (try simp only [go_sem, init_env', Nat.reduceEqDiff, Nat.reduceAdd, Nat.reduceMul, reduceIte, Nat.reduceLeDiff, Nat.reduceLT, Nat.reduceBEq, reduceCtorEq, hP, Route.av]); (repeat (refine And.intro (by first | omega | (intros; simp_all; done) | (intros; simp_all; omega)) ?_)))))
  (refine WV_cond rfl (fun h => ?_) (fun h => ?_))
  · exfalso
    rcases B2 with e | e <;> rcases B3 with f | f <;> rw [e, f] at h <;> rw [e, f] at B1 <;> simp at h B1 <;> omega
  refine WV_skip ?_
  refine WV_sub (σ' := ⟨upd (upd e0 3 (.bp 3 0)) 7 (.bp 7 0), upd (upd o0 3 (.box [.c (stopsC r.stops), .c (driveC r.drive), iv r.start])) 7 (.box [.c (stopsC o.stops), .c (driveC o.drive), iv o.start])⟩) (Sub_of (by ((repeat' (first | exact EnvLe_e0 _ _ | refine EnvLe_upd ?_ ?_)) <;> ((try simp only [upd_app, e0_app, o0_app, Nat.reduceEqDiff, reduceIte]); first | exact AWk.refl _ _ | exact AWk.int (by omega) | exact AWk.int (by rw [w64 (by omega) (by omega)]; omega) | exact AWk.grow rfl | exact AWk.nil _ | exact AWk.of (by simp)))) (by (first | ((repeat' (first | exact ObjLe_o0 _ | exact ObjLe.rfl' _ | refine ObjLe_same ?_ | refine ObjLe_upd ?_ ?_ | refine ObjLe_new rfl ?_)) <;> rfl) | (refine ObjLe_X ?_; (repeat' (first | exact ObjLeX_o0 _ _ | refine ObjLeX_skip rfl ?_ | refine ObjLeX_upd ?_ ?_)) <;> rfl)))) ?_
  refine WV_seq_ ?_
  (refine WV_ops ?_; simp only [go_sem, init_env', Nat.reduceEqDiff, Nat.reduceAdd, Nat.reduceMul, reduceIte, Nat.reduceLeDiff, Nat.reduceLT, Nat.reduceBEq, reduceCtorEq, hP, ]; (repeat (refine And.intro (by first | omega | (intros; simp_all; done) | (intros; simp_all; omega)) ?_)))
  (refine AS_pure (c1) rfl rfl rfl rfl rfl ?_; simp only [go_sem, init_env', Nat.reduceEqDiff, Nat.reduceAdd, Nat.reduceMul, reduceIte, Nat.reduceLeDiff, Nat.reduceLT, Nat.reduceBEq, reduceCtorEq, hP, Route.av]; (repeat (refine And.intro (by first | omega | (intros; simp_all; done) | (intros; simp_all; omega)) ?_)); (repeat ((first | refine WV_seq_ ?_ | refine WV_block ?_ | refine WV_ops ?_ | refine WV_skip ?_ | refine WV_exit ?_); (try simp only [go_sem, init_env', Nat.reduceEqDiff, Nat.reduceAdd, Nat.reduceMul, reduceIte, Nat.reduceLeDiff, Nat.reduceLT, Nat.reduceBEq, reduceCtorEq, hP, Route.av]); (repeat (refine And.intro (by first | omega | (intros; simp_all; done) | (intros; simp_all; omega)) ?_)))))
  (refine AS_pure (c2) rfl rfl rfl rfl rfl ?_; simp only [go_sem, init_env', Nat.reduceEqDiff, Nat.reduceAdd, Nat.reduceMul, reduceIte, Nat.reduceLeDiff, Nat.reduceLT, Nat.reduceBEq, reduceCtorEq, hP, Route.av]; (repeat (refine And.intro (by first | omega | (intros; simp_all; done) | (intros; simp_all; omega)) ?_)); (repeat ((first | refine WV_seq_ ?_ | refine WV_block ?_ | refine WV_ops ?_ | refine WV_skip ?_ | refine WV_exit ?_); (try simp only [go_sem, init_env', Nat.reduceEqDiff, Nat.reduceAdd, Nat.reduceMul, reduceIte, Nat.reduceLeDiff, Nat.reduceLT, Nat.reduceBEq, reduceCtorEq, hP, Route.av]); (repeat (refine And.intro (by first | omega | (intros; simp_all; done) | (intros; simp_all; omega)) ?_)))))
  (refine AS_pure (s1) rfl rfl rfl rfl rfl ?_; simp only [go_sem, init_env', Nat.reduceEqDiff, Nat.reduceAdd, Nat.reduceMul, reduceIte, Nat.reduceLeDiff, Nat.reduceLT, Nat.reduceBEq, reduceCtorEq, hP, Route.av]; (repeat (refine And.intro (by first | omega | (intros; simp_all; done) | (intros; simp_all; omega)) ?_)); (repeat ((first | refine WV_seq_ ?_ | refine WV_block ?_ | refine WV_ops ?_ | refine WV_skip ?_ | refine WV_exit ?_); (try simp only [go_sem, init_env', Nat.reduceEqDiff, Nat.reduceAdd, Nat.reduceMul, reduceIte, Nat.reduceLeDiff, Nat.reduceLT, Nat.reduceBEq, reduceCtorEq, hP, Route.av]); (repeat (refine And.intro (by first | omega | (intros; simp_all; done) | (intros; simp_all; omega)) ?_)))))
  (refine AS_pure (s2) rfl rfl rfl rfl rfl ?_; simp only [go_sem, init_env', Nat.reduceEqDiff, Nat.reduceAdd, Nat.reduceMul, reduceIte, Nat.reduceLeDiff, Nat.reduceLT, Nat.reduceBEq, reduceCtorEq, hP, Route.av]; (repeat (refine And.intro (by first | omega | (intros; simp_all; done) | (intros; simp_all; omega)) ?_)); (repeat ((first | refine WV_seq_ ?_ | refine WV_block ?_ | refine WV_ops ?_ | refine WV_skip ?_ | refine WV_exit ?_); (try simp only [go_sem, init_env', Nat.reduceEqDiff, Nat.reduceAdd, Nat.reduceMul, reduceIte, Nat.reduceLeDiff, Nat.reduceLT, Nat.reduceBEq, reduceCtorEq, hP, Route.av]); (repeat (refine And.intro (by first | omega | (intros; simp_all; done) | (intros; simp_all; omega)) ?_)))))
  (refine AS_pure (n1) rfl rfl rfl rfl rfl ?_; simp only [go_sem, init_env', Nat.reduceEqDiff, Nat.reduceAdd, Nat.reduceMul, reduceIte, Nat.reduceLeDiff, Nat.reduceLT, Nat.reduceBEq, reduceCtorEq, hP, ]; (repeat (refine And.intro (by first | omega | (intros; simp_all; done) | (intros; simp_all; omega)) ?_)); (repeat ((first | refine WV_seq_ ?_ | refine WV_block ?_ | refine WV_ops ?_ | refine WV_skip ?_ | refine WV_exit ?_); (try simp only [go_sem, init_env', Nat.reduceEqDiff, Nat.reduceAdd, Nat.reduceMul, reduceIte, Nat.reduceLeDiff, Nat.reduceLT, Nat.reduceBEq, reduceCtorEq, hP, ]); (repeat (refine And.intro (by first | omega | (intros; simp_all; done) | (intros; simp_all; omega)) ?_)))))
  (refine AG_pure (fun hG => n2) rfl (fun hG => by first | (simp only [go_sem, init_env', Nat.reduceEqDiff, Nat.reduceAdd, Nat.reduceMul, reduceIte, Nat.reduceLeDiff, Nat.reduceLT, Nat.reduceBEq, reduceCtorEq, hG]; done) | (simp only [go_sem, init_env', Nat.reduceEqDiff, Nat.reduceAdd, Nat.reduceMul, reduceIte, Nat.reduceLeDiff, Nat.reduceLT, Nat.reduceBEq, reduceCtorEq]; revert hG; simp; done) | (simp only [go_sem, init_env', Nat.reduceEqDiff, Nat.reduceAdd, Nat.reduceMul, reduceIte, Nat.reduceLeDiff, Nat.reduceLT, Nat.reduceBEq, reduceCtorEq, hG]; simp_all; done) | (revert hG; simp; done) | simp_all) rfl rfl rfl ?_; simp only [go_sem, init_env', Nat.reduceEqDiff, Nat.reduceAdd, Nat.reduceMul, reduceIte, Nat.reduceLeDiff, Nat.reduceLT, Nat.reduceBEq, reduceCtorEq, hP, ]; (repeat (refine And.intro (by first | omega | (intros; simp_all; done) | (intros; simp_all; omega)) ?_)); (repeat ((first | refine WV_seq_ ?_ | refine WV_block ?_ | refine WV_ops ?_ | refine WV_skip ?_ | refine WV_exit ?_); (try simp only [go_sem, init_env', Nat.reduceEqDiff, Nat.reduceAdd, Nat.reduceMul, reduceIte, Nat.reduceLeDiff, Nat.reduceLT, Nat.reduceBEq, reduceCtorEq, hP, ]); (repeat (refine And.intro (by first | omega | (intros; simp_all; done) | (intros; simp_all; omega)) ?_)))))
  (refine WV_cond rfl (fun h => ?_) (fun h => ?_))
  · exfalso
    rcases k2 with e | e <;> rw [e] at h k1 k3 k4 <;> simp at h k1 k3 k4 <;> omega
  refine WV_skip ?_
  refine WV_sub (σ' := ⟨upd (upd e0 3 (.bp 3 0)) 7 (.bp 7 0), upd (upd o0 3 (.box [.c (stopsC r.stops), .c (driveC r.drive), iv r.start])) 7 (.box [.c (stopsC o.stops), .c (driveC o.drive), iv o.start])⟩) (Sub_of (by ((repeat' (first | exact EnvLe_e0 _ _ | refine EnvLe_upd ?_ ?_)) <;> ((try simp only [upd_app, e0_app, o0_app, Nat.reduceEqDiff, reduceIte]); first | exact AWk.refl _ _ | exact AWk.int (by omega) | exact AWk.int (by rw [w64 (by omega) (by omega)]; omega) | exact AWk.grow rfl | exact AWk.nil _ | exact AWk.of (by simp)))) (by (first | ((repeat' (first | exact ObjLe_o0 _ | exact ObjLe.rfl' _ | refine ObjLe_same ?_ | refine ObjLe_upd ?_ ?_ | refine ObjLe_new rfl ?_)) <;> rfl) | (refine ObjLe_X ?_; (repeat' (first | exact ObjLeX_o0 _ _ | refine ObjLeX_skip rfl ?_ | refine ObjLeX_upd ?_ ?_)) <;> rfl)))) ?_
  refine WV_seq_ ?_
  (refine WV_ops ?_; simp only [go_sem, init_env', Nat.reduceEqDiff, Nat.reduceAdd, Nat.reduceMul, reduceIte, Nat.reduceLeDiff, Nat.reduceLT, Nat.reduceBEq, reduceCtorEq, hP, ]; (repeat (refine And.intro (by first | omega | (intros; simp_all; done) | (intros; simp_all; omega)) ?_)))
  (refine AS_pure (l1) rfl rfl rfl rfl rfl ?_; simp only [go_sem, init_env', Nat.reduceEqDiff, Nat.reduceAdd, Nat.reduceMul, reduceIte, Nat.reduceLeDiff, Nat.reduceLT, Nat.reduceBEq, reduceCtorEq, hP, Route.av]; (repeat (refine And.intro (by first | omega | (intros; simp_all; done) | (intros; simp_all; omega)) ?_)); (repeat ((first | refine WV_seq_ ?_ | refine WV_block ?_ | refine WV_ops ?_ | refine WV_skip ?_ | refine WV_exit ?_); (try simp only [go_sem, init_env', Nat.reduceEqDiff, Nat.reduceAdd, Nat.reduceMul, reduceIte, Nat.reduceLeDiff, Nat.reduceLT, Nat.reduceBEq, reduceCtorEq, hP, Route.av]); (repeat (refine And.intro (by first | omega | (intros; simp_all; done) | (intros; simp_all; omega)) ?_)))))
  (refine AS_pure (l2) rfl rfl rfl rfl rfl ?_; simp only [go_sem, init_env', Nat.reduceEqDiff, Nat.reduceAdd, Nat.reduceMul, reduceIte, Nat.reduceLeDiff, Nat.reduceLT, Nat.reduceBEq, reduceCtorEq, hP, Route.av]; (repeat (refine And.intro (by first | omega | (intros; simp_all; done) | (intros; simp_all; omega)) ?_)); (repeat ((first | refine WV_seq_ ?_ | refine WV_block ?_ | refine WV_ops ?_ | refine WV_skip ?_ | refine WV_exit ?_); (try simp only [go_sem, init_env', Nat.reduceEqDiff, Nat.reduceAdd, Nat.reduceMul, reduceIte, Nat.reduceLeDiff, Nat.reduceLT, Nat.reduceBEq, reduceCtorEq, hP, Route.av]); (repeat (refine And.intro (by first | omega | (intros; simp_all; done) | (intros; simp_all; omega)) ?_)))))
  (refine AS_pure (m1) rfl rfl rfl rfl rfl ?_; simp only [go_sem, init_env', Nat.reduceEqDiff, Nat.reduceAdd, Nat.reduceMul, reduceIte, Nat.reduceLeDiff, Nat.reduceLT, Nat.reduceBEq, reduceCtorEq, hP, Route.av]; (repeat (refine And.intro (by first | omega | (intros; simp_all; done) | (intros; simp_all; omega)) ?_)); (repeat ((first | refine WV_seq_ ?_ | refine WV_block ?_ | refine WV_ops ?_ | refine WV_skip ?_ | refine WV_exit ?_); (try simp only [go_sem, init_env', Nat.reduceEqDiff, Nat.reduceAdd, Nat.reduceMul, reduceIte, Nat.reduceLeDiff, Nat.reduceLT, Nat.reduceBEq, reduceCtorEq, hP, Route.av]); (repeat (refine And.intro (by first | omega | (intros; simp_all; done) | (intros; simp_all; omega)) ?_)))))
  (refine AS_pure (m2) rfl rfl rfl rfl rfl ?_; simp only [go_sem, init_env', Nat.reduceEqDiff, Nat.reduceAdd, Nat.reduceMul, reduceIte, Nat.reduceLeDiff, Nat.reduceLT, Nat.reduceBEq, reduceCtorEq, hP, Route.av]; (repeat (refine And.intro (by first | omega | (intros; simp_all; done) | (intros; simp_all; omega)) ?_)); (repeat ((first | refine WV_seq_ ?_ | refine WV_block ?_ | refine WV_ops ?_ | refine WV_skip ?_ | refine WV_exit ?_); (try simp only [go_sem, init_env', Nat.reduceEqDiff, Nat.reduceAdd, Nat.reduceMul, reduceIte, Nat.reduceLeDiff, Nat.reduceLT, Nat.reduceBEq, reduceCtorEq, hP, Route.av]); (repeat (refine And.intro (by first | omega | (intros; simp_all; done) | (intros; simp_all; omega)) ?_)))))
  (refine AS_pure (u1) rfl rfl rfl rfl rfl ?_; simp only [go_sem, init_env', Nat.reduceEqDiff, Nat.reduceAdd, Nat.reduceMul, reduceIte, Nat.reduceLeDiff, Nat.reduceLT, Nat.reduceBEq, reduceCtorEq, hP, Route.av]; (repeat (refine And.intro (by first | omega | (intros; simp_all; done) | (intros; simp_all; omega)) ?_)); (repeat ((first | refine WV_seq_ ?_ | refine WV_block ?_ | refine WV_ops ?_ | refine WV_skip ?_ | refine WV_exit ?_); (try simp only [go_sem, init_env', Nat.reduceEqDiff, Nat.reduceAdd, Nat.reduceMul, reduceIte, Nat.reduceLeDiff, Nat.reduceLT, Nat.reduceBEq, reduceCtorEq, hP, Route.av]); (repeat (refine And.intro (by first | omega | (intros; simp_all; done) | (intros; simp_all; omega)) ?_)))))
  (refine AS_pure (u2) rfl rfl rfl rfl rfl ?_; simp only [go_sem, init_env', Nat.reduceEqDiff, Nat.reduceAdd, Nat.reduceMul, reduceIte, Nat.reduceLeDiff, Nat.reduceLT, Nat.reduceBEq, reduceCtorEq, hP, Route.av]; (repeat (refine And.intro (by first | omega | (intros; simp_all; done) | (intros; simp_all; omega)) ?_)); (repeat ((first | refine WV_seq_ ?_ | refine WV_block ?_ | refine WV_ops ?_ | refine WV_skip ?_ | refine WV_exit ?_); (try simp only [go_sem, init_env', Nat.reduceEqDiff, Nat.reduceAdd, Nat.reduceMul, reduceIte, Nat.reduceLeDiff, Nat.reduceLT, Nat.reduceBEq, reduceCtorEq, hP, Route.av]); (repeat (refine And.intro (by first | omega | (intros; simp_all; done) | (intros; simp_all; omega)) ?_)))))
  (refine AS_pure (n3) rfl rfl rfl rfl rfl ?_; simp only [go_sem, init_env', Nat.reduceEqDiff, Nat.reduceAdd, Nat.reduceMul, reduceIte, Nat.reduceLeDiff, Nat.reduceLT, Nat.reduceBEq, reduceCtorEq, hP, ]; (repeat (refine And.intro (by first | omega | (intros; simp_all; done) | (intros; simp_all; omega)) ?_)); (repeat ((first | refine WV_seq_ ?_ | refine WV_block ?_ | refine WV_ops ?_ | refine WV_skip ?_ | refine WV_exit ?_); (try simp only [go_sem, init_env', Nat.reduceEqDiff, Nat.reduceAdd, Nat.reduceMul, reduceIte, Nat.reduceLeDiff, Nat.reduceLT, Nat.reduceBEq, reduceCtorEq, hP, ]); (repeat (refine And.intro (by first | omega | (intros; simp_all; done) | (intros; simp_all; omega)) ?_)))))
  have hL : (G1 != 0 || G2 == 0 && decide (L1 ≤ L2)) = true := by
    rcases k6 with e | e <;> rw [e] at k6'' ⊢
    · have := k6'' rfl
      simp [this]
    · rfl
  have hM : decide (M1 ≤ M2) = true := by simpa using k5
  (refine AG_pure (fun hG => n4) rfl (fun hG => by first | (simp only [go_sem, init_env', Nat.reduceEqDiff, Nat.reduceAdd, Nat.reduceMul, reduceIte, Nat.reduceLeDiff, Nat.reduceLT, Nat.reduceBEq, reduceCtorEq, hG]; done) | (simp only [go_sem, init_env', Nat.reduceEqDiff, Nat.reduceAdd, Nat.reduceMul, reduceIte, Nat.reduceLeDiff, Nat.reduceLT, Nat.reduceBEq, reduceCtorEq]; revert hG; simp; done) | (simp only [go_sem, init_env', Nat.reduceEqDiff, Nat.reduceAdd, Nat.reduceMul, reduceIte, Nat.reduceLeDiff, Nat.reduceLT, Nat.reduceBEq, reduceCtorEq, hG]; simp_all; done) | (revert hG; simp; done) | simp_all) rfl rfl rfl ?_; simp only [go_sem, init_env', Nat.reduceEqDiff, Nat.reduceAdd, Nat.reduceMul, reduceIte, Nat.reduceLeDiff, Nat.reduceLT, Nat.reduceBEq, reduceCtorEq, hP, hL, hM, beq_self_eq_true, Bool.and_self]; (repeat (refine And.intro (by first | omega | (intros; simp_all; done) | (intros; simp_all; omega)) ?_)); (repeat ((first | refine WV_seq_ ?_ | refine WV_block ?_ | refine WV_ops ?_ | refine WV_skip ?_ | refine WV_exit ?_); (try simp only [go_sem, init_env', Nat.reduceEqDiff, Nat.reduceAdd, Nat.reduceMul, reduceIte, Nat.reduceLeDiff, Nat.reduceLT, Nat.reduceBEq, reduceCtorEq, hP, hL, hM, beq_self_eq_true, Bool.and_self]); (repeat (refine And.intro (by first | omega | (intros; simp_all; done) | (intros; simp_all; omega)) ?_)))))
  (refine AG_pure (fun hG => hsub) rfl (fun hG => by first | (simp only [go_sem, init_env', Nat.reduceEqDiff, Nat.reduceAdd, Nat.reduceMul, reduceIte, Nat.reduceLeDiff, Nat.reduceLT, Nat.reduceBEq, reduceCtorEq, hG]; done) | (simp only [go_sem, init_env', Nat.reduceEqDiff, Nat.reduceAdd, Nat.reduceMul, reduceIte, Nat.reduceLeDiff, Nat.reduceLT, Nat.reduceBEq, reduceCtorEq]; revert hG; simp; done) | (simp only [go_sem, init_env', Nat.reduceEqDiff, Nat.reduceAdd, Nat.reduceMul, reduceIte, Nat.reduceLeDiff, Nat.reduceLT, Nat.reduceBEq, reduceCtorEq, hG]; simp_all; done) | (revert hG; simp; done) | simp_all) rfl rfl rfl ?_; simp only [go_sem, init_env', Nat.reduceEqDiff, Nat.reduceAdd, Nat.reduceMul, reduceIte, Nat.reduceLeDiff, Nat.reduceLT, Nat.reduceBEq, reduceCtorEq, hP, hL, hM, beq_self_eq_true, Bool.and_self]; (repeat (refine And.intro (by first | omega | (intros; simp_all; done) | (intros; simp_all; omega)) ?_)); (repeat ((first | refine WV_seq_ ?_ | refine WV_block ?_ | refine WV_ops ?_ | refine WV_skip ?_ | refine WV_exit ?_); (try simp only [go_sem, init_env', Nat.reduceEqDiff, Nat.reduceAdd, Nat.reduceMul, reduceIte, Nat.reduceLeDiff, Nat.reduceLT, Nat.reduceBEq, reduceCtorEq, hP, hL, hM, beq_self_eq_true, Bool.and_self]); (repeat (refine And.intro (by first | omega | (intros; simp_all; done) | (intros; simp_all; omega)) ?_)))))
  (refine AG_pure (fun hG => works14) rfl (fun hG => by first | (simp only [go_sem, init_env', Nat.reduceEqDiff, Nat.reduceAdd, Nat.reduceMul, reduceIte, Nat.reduceLeDiff, Nat.reduceLT, Nat.reduceBEq, reduceCtorEq, hG]; done) | (simp only [go_sem, init_env', Nat.reduceEqDiff, Nat.reduceAdd, Nat.reduceMul, reduceIte, Nat.reduceLeDiff, Nat.reduceLT, Nat.reduceBEq, reduceCtorEq]; revert hG; simp; done) | (simp only [go_sem, init_env', Nat.reduceEqDiff, Nat.reduceAdd, Nat.reduceMul, reduceIte, Nat.reduceLeDiff, Nat.reduceLT, Nat.reduceBEq, reduceCtorEq, hG]; simp_all; done) | (revert hG; simp; done) | simp_all) rfl rfl rfl ?_; simp only [go_sem, init_env', Nat.reduceEqDiff, Nat.reduceAdd, Nat.reduceMul, reduceIte, Nat.reduceLeDiff, Nat.reduceLT, Nat.reduceBEq, reduceCtorEq, hP, hL, hM, beq_self_eq_true, Bool.and_self]; (repeat (refine And.intro (by first | omega | (intros; simp_all; done) | (intros; simp_all; omega)) ?_)); (repeat ((first | refine WV_seq_ ?_ | refine WV_block ?_ | refine WV_ops ?_ | refine WV_skip ?_ | refine WV_exit ?_); (try simp only [go_sem, init_env', Nat.reduceEqDiff, Nat.reduceAdd, Nat.reduceMul, reduceIte, Nat.reduceLeDiff, Nat.reduceLT, Nat.reduceBEq, reduceCtorEq, hP, hL, hM, beq_self_eq_true, Bool.and_self]); (repeat (refine And.intro (by first | omega | (intros; simp_all; done) | (intros; simp_all; omega)) ?_)))))
  (refine WV_ret ?_; simp only [thenQ, inQ, RetQ, RetOk, resAll, resA]; simp only [go_sem, init_env', Nat.reduceEqDiff, Nat.reduceAdd, Nat.reduceMul, reduceIte, Nat.reduceLeDiff, Nat.reduceLT, Nat.reduceBEq, reduceCtorEq, tupA, AV.port, AV.portL, exists_eq_left', ]; (first | exact AVle.of rfl | refine AVle.of ?_ | skip))
end Go.Proofs.Ytbejgfpaokcnpaa
