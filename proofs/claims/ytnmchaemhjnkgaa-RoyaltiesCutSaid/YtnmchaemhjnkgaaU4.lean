/-
  Contracts of the layer's functions, of the laws' helpers and of the law; conditions: as each theorem states.
-/
import Derived.Test.YtnmchaemhjnkgaaU3
import Derived.Test.YtnmchaemhjnkgaaV2
set_option linter.unusedVariables false
set_option linter.unusedSimpArgs false
namespace Go.Proofs.Ytnmchaemhjnkgaa
open Go Go.V

/-! ### What nobody would get: plain -/
def moneyOf (r : Royal) (s : Side) : Int := 100 * r.pool * s.plays / allW r
def cents (m : Int) (ps : List Part) : Int := (ps.map fun p => m * p.pc / 100).sum
def lostV (r : Royal) (k : Nat) : Int := r.pool - ((r.sides.take k).map fun s => cents (moneyOf r s) s.parts).sum
def lostS (r : Royal) : Int × Int := if weighE r true = 0 then (lostV r r.sides.length, 0) else (0, weighE r true)
theorem cents_le {m : Int} (hm : 0 ≤ m) : ∀ (ps : List Part), (∀ p ∈ ps, 1 ≤ p.pc) → 0 ≤ cents m ps ∧ 100 * cents m ps ≤ m * (ps.map Part.pc).sum
  | [], _ => by simp [cents]
  | p :: ps, h => by
    have ih := cents_le hm ps fun q hq => h q (by simp [hq])
    have hp := h p (by simp)
    have h1 : 0 ≤ m * p.pc := Int.mul_nonneg hm (by omega)
    simp only [cents, List.map_cons, List.sum_cons, Int.mul_add] at ih ⊢
    omega
theorem money_bd {r : Royal} (hW : Weighed r) {s : Side} (hs : s ∈ r.sides) : 0 ≤ moneyOf r s ∧ moneyOf r s ≤ 9998000100 ∧ 0 ≤ 100 * r.pool * s.plays ∧ 100 * r.pool * s.plays ≤ 9998000100 := by
  have h1 := hW.hr.pool
  have h2 := hW.hr.plays s hs
  have h3 := mul_small (⟨by omega, by omega⟩ : 0 ≤ 100 * r.pool ∧ 100 * r.pool ≤ 999900) h2
  have h4 := Int.ediv_le_self (allW r) h3.1
  have h5 := Int.ediv_nonneg h3.1 (Int.le_of_lt hW.pos)
  unfold moneyOf
  omega
theorem lostV_succ {r : Royal} {k : Nat} (h : k < r.sides.length) : lostV r (k + 1) = lostV r k - cents (moneyOf r r.sides[k]) r.sides[k].parts := by
  unfold lostV
  rw [List.take_succ_eq_append_getElem h, List.map_append, List.sum_append]
  simp
  omega
theorem cents_bd {r : Royal} (hW : Weighed r) {s : Side} (hs : s ∈ r.sides) (j : Nat) : 0 ≤ cents (moneyOf r s) (s.parts.take j) ∧ cents (moneyOf r s) (s.parts.take j) ≤ moneyOf r s := by
  have hm := (money_bd hW hs).1
  have h1 := fun l (hl : ∀ p ∈ l, p ∈ s.parts) => cents_le hm l fun p hp => (hW.hr.part s hs p (hl p hp)).2.2.1
  have ht := h1 (s.parts.take j) fun p hp => List.mem_of_mem_take hp
  have hd := h1 (s.parts.drop j) fun p hp => List.mem_of_mem_drop hp
  have hsum := hW.hr.sum s hs
  have ha := h1 s.parts fun p hp => hp
  rw [hsum] at ha
  have e : cents (moneyOf r s) s.parts = cents (moneyOf r s) (s.parts.take j) + cents (moneyOf r s) (s.parts.drop j) := by
    unfold cents
    rw [← List.sum_append, ← List.map_append, List.take_append_drop]
  omega
theorem lostV_bd {r : Royal} (hW : Weighed r) : ∀ k, k ≤ r.sides.length → lostV r k ≤ r.pool ∧ r.pool - 9998000100 * (k : Int) ≤ lostV r k
  | 0, _ => by simp [lostV]
  | k + 1, h => by
    have hk : k < r.sides.length := h
    have ih := lostV_bd hW k (by omega)
    have hm := List.getElem_mem hk
    have h1 := cents_bd hW hm r.sides[k].parts.length
    rw [List.take_length] at h1
    have h2 := money_bd hW hm
    rw [lostV_succ hk]
    omega

/-- The first number for which something is so. -/
def firstP (p : Int → Bool) : Nat → Int → Int × Int
  | 0, _ => (0, 3)
  | m + 1, a => if p a then (a, 0) else firstP p m (a + 1)
def leastS (r : Royal) (who c : Int) : Int × Int :=
  if weighE r (isW r who && within c 0 9999) = 0 then firstP (fun p => decide (c ≤ (sharesL p (allW r) (wts r)).getD who.toNat 0)) 10000 0 else (0, weighE r (isW r who && within c 0 9999))
def oddS (r : Royal) (who : Int) : Int × Int :=
  if weighE r (isW r who) = 0 then firstP (fun p => decide ((sharesL p (allW r) (wts r)).getD who.toNat 0 < (sharesL (p - 1) (allW r) (wts r)).getD who.toNat 0)) r.pool.toNat 1 else (0, weighE r (isW r who))
theorem portL_c (own : Nat → Ob) : ∀ ds : List CD, AV.portL own (ds.map .c) = some (ds.map .c)
  | [] => rfl
  | d :: ds => by simp only [List.map_cons, AV.portL, AV.port, portL_c own ds]

@[reducible] def o40_0 : List Ins := [⟨(some 1), .box 3 (.t 0), none, true⟩,
  ⟨(some 2), .mv (.k (.c (.int .i64 0))), none, true⟩,
  ⟨(some 3), .mv (.k (.c (.int .i64 0))), none, true⟩]
@[reducible] def o40_1 : List Ins := [⟨(some 13), .ld false 3 (.t 1), none, true⟩,
  ⟨(some 14), .call (.k (.fn 45 [])) [(.t 13), (.k (.c (.bool true)))], none, true⟩,
  ⟨(some 12), .mv (.t 14), none, true⟩,
  ⟨(some 15), .ext (.t 12) 0, none, true⟩,
  ⟨(some 16), .ext (.t 12) 1, none, true⟩,
  ⟨(some 4), .alloc [(.c (.raw (.slice none 0 0))), (.c (.int .i64 0))], none, true⟩,
  ⟨none, .st 2 (.t 4) (.t 15), none, true⟩,
  ⟨(some 5), .mv (.t 16), none, true⟩]
@[reducible] def o40_2 : List Ins := [⟨(some 17), .mv (.t 5), none, true⟩,
  ⟨(some 18), .bin .neq (.t 17) (.k (.c (.int .i64 0))), none, true⟩]
@[reducible] def o40_3 : List Ins := [⟨(some 19), .mv (.t 5), none, true⟩,
  ⟨(some 2), .mv (.k (.c (.int .i64 0))), none, true⟩,
  ⟨(some 3), .mv (.t 19), none, true⟩]
@[reducible] def v40_4 : VC := (.seq (.ops o40_3) .ret)
@[reducible] def v40_5 : VC := (.cond (.t 18) v40_4 .skip)
@[reducible] def o40_6 : List Ins := [⟨(some 20), .fa 0 (.t 1), none, true⟩,
  ⟨(some 21), .ld true 1 (.t 20), none, true⟩,
  ⟨(some 6), .mv (.t 21), none, true⟩]
@[reducible] def o40_7 : List Ins := [⟨(some 22), .fa 1 (.t 1), none, true⟩,
  ⟨(some 23), .ld true 1 (.t 22), none, true⟩,
  ⟨(some 24), .len (.t 23), none, true⟩,
  ⟨(some 25), .mv (.k (.c (.int .i64 0))), none, true⟩]
@[reducible] def o40_8 : List Ins := [⟨(some 26), .bin .lss (.t 25) (.t 24), none, true⟩]
@[reducible] def o40_9 : List Ins := [⟨(some 27), .ia 2 (.t 23) (.t 25), none, true⟩,
  ⟨(some 28), .ld false 2 (.t 27), none, true⟩,
  ⟨(some 8), .alloc [(.c (.int .i64 0)), (.c (.raw (.slice none 0 0)))], none, true⟩,
  ⟨none, .st 2 (.t 8) (.t 28), none, true⟩]
@[reducible] def o40_10 : List Ins := [⟨(some 29), .fa 0 (.t 1), none, true⟩,
  ⟨(some 30), .ld true 1 (.t 29), none, true⟩,
  ⟨(some 31), .bin .mul (.k (.c (.int .i64 100))) (.t 30), none, true⟩,
  ⟨(some 32), .fa 0 (.t 8), none, true⟩,
  ⟨(some 33), .ld true 1 (.t 32), none, true⟩,
  ⟨(some 34), .bin .mul (.t 31) (.t 33), none, true⟩,
  ⟨(some 35), .fa 1 (.t 4), none, true⟩,
  ⟨(some 36), .ld true 1 (.t 35), none, true⟩,
  ⟨(some 37), .bin .quo (.t 34) (.t 36), none, true⟩,
  ⟨(some 9), .mv (.t 37), none, true⟩]
@[reducible] def o40_11 : List Ins := [⟨(some 38), .fa 1 (.t 8), none, true⟩,
  ⟨(some 39), .ld true 1 (.t 38), none, true⟩,
  ⟨(some 40), .len (.t 39), none, true⟩,
  ⟨(some 41), .mv (.k (.c (.int .i64 0))), none, true⟩]
@[reducible] def o40_12 : List Ins := [⟨(some 42), .bin .lss (.t 41) (.t 40), none, true⟩]
@[reducible] def o40_13 : List Ins := [⟨(some 43), .ia 2 (.t 39) (.t 41), none, true⟩,
  ⟨(some 44), .ld false 2 (.t 43), none, true⟩,
  ⟨(some 11), .alloc [(.c (.int .i64 0)), (.c (.int .i64 0))], none, true⟩,
  ⟨none, .st 2 (.t 11) (.t 44), none, true⟩]
@[reducible] def o40_14 : List Ins := [⟨(some 45), .mv (.t 6), none, true⟩,
  ⟨(some 46), .mv (.t 9), none, true⟩,
  ⟨(some 47), .fa 1 (.t 11), none, true⟩,
  ⟨(some 48), .ld true 1 (.t 47), none, true⟩,
  ⟨(some 49), .bin .mul (.t 46) (.t 48), none, true⟩,
  ⟨(some 50), .bin .quo (.t 49) (.k (.c (.int .i64 100))), none, true⟩,
  ⟨(some 51), .bin .sub (.t 45) (.t 50), none, true⟩,
  ⟨(some 6), .mv (.t 51), none, true⟩]
@[reducible] def v40_15 : VC := (.seq (.ops o40_13) (.ops o40_14))
@[reducible] def o40_16 : List Ins := [⟨(some 52), .bin .add (.t 41) (.k (.c (.int .i64 1))), none, true⟩,
  ⟨(some 41), .mv (.t 52), none, true⟩]
@[reducible] def v40_17 : VC := (.seq (.block 3 v40_15) (.ops o40_16))
@[reducible] def v40_18 : VC := (.seq (.cond (.t 42) .skip (.exit 2)) v40_17)
@[reducible] def v40_19 : VC := (.seq (.ops o40_12) v40_18)
-- K40_2: changed and kept: [41, 6]
@[reducible] def K40_2 : List Nat := [1, 4, 9, 23, 24, 25, 39, 40]
@[reducible] def v40_20 : VC := (.loop v40_19)
@[reducible] def v40_21 : VC := (.block 2 v40_20)
@[reducible] def v40_22 : VC := (.seq (.ops o40_11) v40_21)
@[reducible] def v40_23 : VC := (.seq (.ops o40_10) v40_22)
@[reducible] def v40_24 : VC := (.seq (.ops o40_9) v40_23)
@[reducible] def o40_25 : List Ins := [⟨(some 53), .bin .add (.t 25) (.k (.c (.int .i64 1))), none, true⟩,
  ⟨(some 25), .mv (.t 53), none, true⟩]
@[reducible] def v40_26 : VC := (.seq (.block 1 v40_24) (.ops o40_25))
@[reducible] def v40_27 : VC := (.seq (.cond (.t 26) .skip (.exit 0)) v40_26)
@[reducible] def v40_28 : VC := (.seq (.ops o40_8) v40_27)
-- K40_1: changed and kept: [25, 6]
@[reducible] def K40_1 : List Nat := [1, 4, 23, 24]
@[reducible] def v40_29 : VC := (.loop v40_28)
@[reducible] def v40_30 : VC := (.block 0 v40_29)
@[reducible] def o40_31 : List Ins := [⟨(some 54), .mv (.t 6), none, true⟩,
  ⟨(some 2), .mv (.t 54), none, true⟩,
  ⟨(some 3), .mv (.k (.c (.int .i64 0))), none, true⟩]
@[reducible] def v40_32 : VC := (.seq (.ops o40_31) .ret)
@[reducible] def v40_33 : VC := (.seq (.seq (.ops o40_7) v40_30) v40_32)
@[reducible] def v40_34 : VC := (.seq (.ops o40_6) v40_33)
@[reducible] def v40_35 : VC := (.seq (.seq (.ops o40_2) v40_5) v40_34)
@[reducible] def v40_36 : VC := (.seq (.ops o40_1) v40_35)
def ir40 : FC := ⟨1, 55, [.t 2, .t 3], (.seq (.ops o40_0) v40_36)⟩
@[reducible] def o50_0 : List Ins := [⟨(some 6), .mv (.k (.c (.int .i64 0))), none, true⟩,
  ⟨(some 7), .mv (.k (.c (.int .i64 0))), none, true⟩]
@[reducible] def o50_1 : List Ins := [⟨(some 9), .mv (.t 0), none, true⟩,
  ⟨(some 8), .mv (.t 9), none, true⟩]
@[reducible] def o50_2 : List Ins := [⟨(some 10), .mv (.t 8), none, true⟩,
  ⟨(some 11), .mv (.t 1), none, true⟩,
  ⟨(some 12), .bin .leq (.t 10) (.t 11), none, true⟩]
@[reducible] def v50_3 : VC := (.cond (.t 12) .skip (.exit 0))
@[reducible] def o50_4 : List Ins := [⟨(some 15), .mv (.t 2), none, true⟩,
  ⟨(some 16), .mv (.t 8), none, true⟩,
  ⟨(some 17), .call (.t 15) [(.t 16)], none, true⟩]
@[reducible] def o50_5 : List Ins := [⟨(some 18), .mv (.t 8), none, true⟩,
  ⟨(some 6), .mv (.t 18), none, true⟩,
  ⟨(some 7), .mv (.k (.c (.int .i64 0))), none, true⟩]
@[reducible] def v50_6 : VC := (.seq (.ops o50_5) .ret)
@[reducible] def v50_7 : VC := (.cond (.t 17) v50_6 .skip)
@[reducible] def v50_8 : VC := (.seq (.ops o50_4) v50_7)
@[reducible] def o50_9 : List Ins := [⟨(some 13), .mv (.t 8), none, true⟩,
  ⟨(some 14), .bin .add (.t 13) (.k (.c (.int .i64 1))), none, true⟩,
  ⟨(some 8), .mv (.t 14), none, true⟩]
@[reducible] def v50_10 : VC := (.seq (.block 1 v50_8) (.ops o50_9))
@[reducible] def v50_11 : VC := (.seq (.seq (.ops o50_2) v50_3) v50_10)
-- K50_1: changed and kept: [8]
@[reducible] def K50_1 : List Nat := [1, 2]
@[reducible] def v50_12 : VC := (.loop v50_11)
@[reducible] def v50_13 : VC := (.block 0 v50_12)
@[reducible] def o50_14 : List Ins := [⟨(some 6), .mv (.k (.c (.int .i64 0))), none, true⟩,
  ⟨(some 7), .mv (.k (.c (.int .i64 3))), none, true⟩]
@[reducible] def v50_15 : VC := (.seq (.ops o50_14) .ret)
@[reducible] def v50_16 : VC := (.seq (.seq (.ops o50_1) v50_13) v50_15)
def ir50 : FC := ⟨3, 19, [.t 6, .t 7], (.seq (.ops o50_0) v50_16)⟩
@[reducible] def o51_0 : List Ins := [⟨(some 5), .mv (.k (.c (.bool false))), none, true⟩]
@[reducible] def o51_1 : List Ins := [⟨(some 6), .ld false 2 (.t 1), none, false⟩,
  ⟨(some 7), .mv (.t 0), none, false⟩,
  ⟨(some 8), .call (.k (.fn 46 [])) [(.t 6), (.t 7)], none, false⟩,
  ⟨(some 9), .ld true 1 (.t 2), none, false⟩,
  ⟨(some 10), .ia 1 (.t 8) (.t 9), none, false⟩,
  ⟨(some 11), .ld true 1 (.t 10), none, false⟩,
  ⟨(some 12), .ld true 1 (.t 3), none, false⟩,
  ⟨(some 13), .bin .geq (.t 11) (.t 12), none, true⟩,
  ⟨(some 5), .mv (.t 13), none, true⟩]
@[reducible] def v51_2 : VC := (.seq (.ops o51_1) .ret)
def ir51 : FC := ⟨4, 14, [.t 5], (.seq (.ops o51_0) v51_2)⟩
@[reducible] def o52_0 : List Ins := [⟨(some 4), .mv (.k (.c (.bool false))), none, true⟩]
@[reducible] def o52_1 : List Ins := [⟨(some 5), .ld false 2 (.t 1), none, false⟩,
  ⟨(some 6), .mv (.t 0), none, false⟩,
  ⟨(some 7), .call (.k (.fn 46 [])) [(.t 5), (.t 6)], none, false⟩,
  ⟨(some 8), .ld true 1 (.t 2), none, false⟩,
  ⟨(some 9), .ia 1 (.t 7) (.t 8), none, false⟩,
  ⟨(some 10), .ld true 1 (.t 9), none, false⟩,
  ⟨(some 11), .ld false 2 (.t 1), none, false⟩,
  ⟨(some 12), .mv (.t 0), none, false⟩,
  ⟨(some 13), .bin .sub (.t 12) (.k (.c (.int .i64 1))), none, false⟩,
  ⟨(some 14), .call (.k (.fn 46 [])) [(.t 11), (.t 13)], none, false⟩,
  ⟨(some 15), .ld true 1 (.t 2), none, false⟩,
  ⟨(some 16), .ia 1 (.t 14) (.t 15), none, false⟩,
  ⟨(some 17), .ld true 1 (.t 16), none, false⟩,
  ⟨(some 18), .bin .lss (.t 10) (.t 17), none, true⟩,
  ⟨(some 4), .mv (.t 18), none, true⟩]
@[reducible] def v52_2 : VC := (.seq (.ops o52_1) .ret)
def ir52 : FC := ⟨3, 19, [.t 4], (.seq (.ops o52_0) v52_2)⟩
@[reducible] def o26_0 : List Ins := [⟨(some 3), .box 3 (.t 0), none, true⟩,
  ⟨(some 4), .box 1 (.t 1), none, true⟩,
  ⟨(some 5), .box 1 (.t 2), none, true⟩,
  ⟨(some 6), .mv (.k (.c (.int .i64 0))), none, true⟩,
  ⟨(some 7), .mv (.k (.c (.int .i64 0))), none, true⟩]
@[reducible] def o26_1 : List Ins := [⟨(some 11), .ld false 3 (.t 3), none, false⟩,
  ⟨(some 12), .ld false 3 (.t 3), none, false⟩,
  ⟨(some 13), .ld true 1 (.t 4), none, false⟩,
  ⟨(some 8), .alloc [(.c (.raw (.slice none 0 0))), (.c (.int .i64 0))], none, false⟩,
  ⟨(some 14), .call (.k (.fn 48 [])) [(.t 12), (.t 13)], none, false⟩,
  ⟨(some 15), .mv (.t 14), none, false⟩,
  ⟨(some 16), .ld true 1 (.t 5), (some (15, true)), false⟩,
  ⟨(some 17), .call (.k (.fn 49 [])) [(.t 16), (.k (.c (.int .i64 0))), (.k (.c (.int .i64 9999)))], (some (15, true)), false⟩,
  ⟨(some 18), .pick (.t 15) (.t 17) (.k (.c (.bool false))), none, false⟩,
  ⟨(some 19), .call (.k (.fn 45 [])) [(.t 11), (.t 18)], none, false⟩,
  ⟨(some 10), .mv (.t 19), none, false⟩,
  ⟨(some 20), .ext (.t 10) 0, none, false⟩,
  ⟨(some 21), .ext (.t 10) 1, none, false⟩,
  ⟨none, .st 2 (.t 8) (.t 20), none, false⟩,
  ⟨(some 9), .mv (.t 21), none, true⟩]
@[reducible] def o26_2 : List Ins := [⟨(some 22), .mv (.t 9), none, true⟩,
  ⟨(some 23), .bin .neq (.t 22) (.k (.c (.int .i64 0))), none, true⟩]
@[reducible] def o26_3 : List Ins := [⟨(some 24), .mv (.t 9), none, true⟩,
  ⟨(some 6), .mv (.k (.c (.int .i64 0))), none, true⟩,
  ⟨(some 7), .mv (.t 24), none, true⟩]
@[reducible] def v26_4 : VC := (.seq (.ops o26_3) .ret)
@[reducible] def v26_5 : VC := (.cond (.t 23) v26_4 .skip)
@[reducible] def o26_6 : List Ins := [⟨(some 25), .mkfn 51 [(.t 8), (.t 4), (.t 5)], none, true⟩,
  ⟨(some 26), .call (.k (.fn 50 [])) [(.k (.c (.int .i64 0))), (.k (.c (.int .i64 9999))), (.t 25)], none, true⟩,
  ⟨(some 27), .ext (.t 26) 0, none, true⟩,
  ⟨(some 28), .ext (.t 26) 1, none, true⟩,
  ⟨(some 6), .mv (.t 27), none, true⟩,
  ⟨(some 7), .mv (.t 28), none, true⟩]
@[reducible] def v26_7 : VC := (.seq (.ops o26_6) .ret)
@[reducible] def v26_8 : VC := (.seq (.seq (.ops o26_2) v26_5) v26_7)
@[reducible] def v26_9 : VC := (.seq (.ops o26_1) v26_8)
def ir26 : FC := ⟨3, 29, [.t 6, .t 7], (.seq (.ops o26_0) v26_9)⟩
@[reducible] def o27_0 : List Ins := [⟨(some 2), .box 3 (.t 0), none, true⟩,
  ⟨(some 3), .box 1 (.t 1), none, true⟩,
  ⟨(some 4), .mv (.k (.c (.int .i64 0))), none, true⟩,
  ⟨(some 5), .mv (.k (.c (.int .i64 0))), none, true⟩]
@[reducible] def o27_1 : List Ins := [⟨(some 9), .ld false 3 (.t 2), none, false⟩,
  ⟨(some 10), .ld false 3 (.t 2), none, false⟩,
  ⟨(some 11), .ld true 1 (.t 3), none, false⟩,
  ⟨(some 6), .alloc [(.c (.raw (.slice none 0 0))), (.c (.int .i64 0))], none, false⟩,
  ⟨(some 12), .call (.k (.fn 48 [])) [(.t 10), (.t 11)], none, false⟩,
  ⟨(some 13), .call (.k (.fn 45 [])) [(.t 9), (.t 12)], none, false⟩,
  ⟨(some 8), .mv (.t 13), none, false⟩,
  ⟨(some 14), .ext (.t 8) 0, none, false⟩,
  ⟨(some 15), .ext (.t 8) 1, none, false⟩,
  ⟨none, .st 2 (.t 6) (.t 14), none, false⟩,
  ⟨(some 7), .mv (.t 15), none, true⟩]
@[reducible] def o27_2 : List Ins := [⟨(some 16), .mv (.t 7), none, true⟩,
  ⟨(some 17), .bin .neq (.t 16) (.k (.c (.int .i64 0))), none, true⟩]
@[reducible] def o27_3 : List Ins := [⟨(some 18), .mv (.t 7), none, true⟩,
  ⟨(some 4), .mv (.k (.c (.int .i64 0))), none, true⟩,
  ⟨(some 5), .mv (.t 18), none, true⟩]
@[reducible] def v27_4 : VC := (.seq (.ops o27_3) .ret)
@[reducible] def v27_5 : VC := (.cond (.t 17) v27_4 .skip)
@[reducible] def o27_6 : List Ins := [⟨(some 19), .fa 0 (.t 2), none, true⟩,
  ⟨(some 20), .ld true 1 (.t 19), none, true⟩,
  ⟨(some 21), .mkfn 52 [(.t 6), (.t 3)], none, true⟩,
  ⟨(some 22), .call (.k (.fn 50 [])) [(.k (.c (.int .i64 1))), (.t 20), (.t 21)], none, true⟩,
  ⟨(some 23), .ext (.t 22) 0, none, true⟩,
  ⟨(some 24), .ext (.t 22) 1, none, true⟩,
  ⟨(some 4), .mv (.t 23), none, true⟩,
  ⟨(some 5), .mv (.t 24), none, true⟩]
@[reducible] def v27_7 : VC := (.seq (.ops o27_6) .ret)
@[reducible] def v27_8 : VC := (.seq (.seq (.ops o27_2) v27_5) v27_7)
@[reducible] def v27_9 : VC := (.seq (.ops o27_1) v27_8)
def ir27 : FC := ⟨2, 25, [.t 4, .t 5], (.seq (.ops o27_0) v27_9)⟩
@[reducible] def o38_0 : List Ins := [⟨(some 1), .box 3 (.t 0), none, true⟩,
  ⟨(some 2), .mv (.k (.c (.raw (.slice none 0 0)))), none, true⟩,
  ⟨(some 3), .mv (.k (.c (.int .i64 0))), none, true⟩]
@[reducible] def o38_1 : List Ins := [⟨(some 4), .ld false 3 (.t 1), none, true⟩,
  ⟨(some 5), .call (.k (.fn 59 [])) [(.t 4), (.k (.fn 60 []))], none, true⟩,
  ⟨(some 6), .ext (.t 5) 0, none, true⟩,
  ⟨(some 7), .ext (.t 5) 1, none, true⟩,
  ⟨(some 2), .mv (.t 6), none, true⟩,
  ⟨(some 3), .mv (.t 7), none, true⟩]
@[reducible] def v38_2 : VC := (.seq (.ops o38_1) .ret)
def ir38 : FC := ⟨1, 8, [.t 2, .t 3], (.seq (.ops o38_0) v38_2)⟩
theorem c40 : compM Try.prog [] 40 = some ir40 := by kernel_rfl
theorem c50 : compM Try.prog [] 50 = some ir50 := by kernel_rfl
theorem c51 : compM Try.prog [] 51 = some ir51 := by kernel_rfl
theorem c52 : compM Try.prog [] 52 = some ir52 := by kernel_rfl
theorem c26 : compM Try.prog [] 26 = some ir26 := by kernel_rfl
theorem c27 : compM Try.prog [] 27 = some ir27 := by kernel_rfl
theorem c38 : compM Try.prog [] 38 = some ir38 := by kernel_rfl
set_option maxHeartbeats 4000000 in
theorem first50 {fc : FuncId} {ds : List CD} {p : Int → Bool} {m : Nat} {a b : Int} (ha : 0 ≤ a) (hb : b ≤ 99999) (hm : (m : Int) = b - a + 1) (hp : ∀ x, a ≤ x → x ≤ b → FSpec Try.prog fc (iv x :: ds.map .c) (.c (.bool (p x)))) :
    FSpec Try.prog 50 [iv a, iv b, .fn fc (ds.map .c)] (.tup [iv (firstP p m a).1, iv (firstP p m a).2]) := by
  refine FSpec_of c50 (Nat.le_refl _) (by decide) fun C hP hN hC hL => ?_
  simp only [ir50]
  (repeat ((first | refine WV_seq_ ?_ | refine WV_block ?_ | refine WV_ops ?_ | refine WV_skip ?_ | refine WV_exit ?_); (try simp only [go_sem, init_env', Nat.reduceEqDiff, Nat.reduceAdd, Nat.reduceMul, reduceIte, Nat.reduceLeDiff, Nat.reduceLT, Nat.reduceBEq, reduceCtorEq, hP, ]); (repeat (refine And.intro (by first | omega | (intros; simp_all; done) | (intros; simp_all; omega)) ?_))))
  refine WV_loopK K50_1 [] (fun q : Int × Nat => a ≤ q.1 ∧ (q.2 : Int) = b - q.1 + 1 ∧ firstP p m a = firstP p q.2 q.1) (fun q => q.2) (fun q => [(8, iv q.1)]) (fun _ => []) (a, m) ⟨Int.le_refl _, hm, rfl⟩ ?_ ?_
  · (refine Sub_of (by simp only [go_sem, init_env', Nat.reduceEqDiff, Nat.reduceAdd, Nat.reduceMul, reduceIte, Nat.reduceLeDiff, Nat.reduceLT, Nat.reduceBEq, reduceCtorEq]; ((repeat' (first | exact EnvLe_e0 _ _ | refine EnvLe_upd ?_ ?_)) <;> ((try simp only [upd_app, e0_app, o0_app, Nat.reduceEqDiff, reduceIte]); first | exact AWk.refl _ _ | exact AWk.int (by omega) | exact AWk.int (by rw [w64 (by omega) (by omega)]; omega) | exact AWk.grow rfl | exact AWk.nil _ | exact AWk.of (by simp)))) (by simp only [go_sem, init_env', Nat.reduceEqDiff, Nat.reduceAdd, Nat.reduceMul, reduceIte, Nat.reduceLeDiff, Nat.reduceLT, Nat.reduceBEq, reduceCtorEq]; ((repeat' (first | exact ObjLe_o0 _ | exact ObjLe.rfl' _ | refine ObjLe_same ?_ | refine ObjLe_upd ?_ ?_ | refine ObjLe_new rfl ?_)) <;> rfl)))
  · rintro ⟨x, n⟩ ⟨h1, h2, h3⟩
    simp only at h1 h2 h3
    rw [h3]
    simp only [go_sem, init_env', Nat.reduceEqDiff, Nat.reduceAdd, Nat.reduceMul, reduceIte, Nat.reduceLeDiff, Nat.reduceLT, Nat.reduceBEq, reduceCtorEq]
    (repeat ((first | refine WV_seq_ ?_ | refine WV_block ?_ | refine WV_ops ?_ | refine WV_skip ?_ | refine WV_exit ?_); (try simp only [go_sem, init_env', Nat.reduceEqDiff, Nat.reduceAdd, Nat.reduceMul, reduceIte, Nat.reduceLeDiff, Nat.reduceLT, Nat.reduceBEq, reduceCtorEq, hP, ]); (repeat (refine And.intro (by first | omega | (intros; simp_all; done) | (intros; simp_all; omega)) ?_))))
    (refine WV_cond rfl (fun h => ?_) (fun h => ?_))
    · have h : x ≤ b := by simpa using h
      (repeat ((first | refine WV_seq_ ?_ | refine WV_block ?_ | refine WV_ops ?_ | refine WV_skip ?_ | refine WV_exit ?_); (try simp only [go_sem, init_env', Nat.reduceEqDiff, Nat.reduceAdd, Nat.reduceMul, reduceIte, Nat.reduceLeDiff, Nat.reduceLT, Nat.reduceBEq, reduceCtorEq, hP, ]); (repeat (refine And.intro (by first | omega | (intros; simp_all; done) | (intros; simp_all; omega)) ?_))))
      refine AS_pure (hp x h1 h) rfl rfl rfl ?_ rfl ?_
      · simp only [go_sem, init_env', Nat.reduceEqDiff, Nat.reduceAdd, Nat.reduceMul, reduceIte, Nat.reduceLeDiff, Nat.reduceLT, Nat.reduceBEq, reduceCtorEq, List.map_cons, List.map_nil, List.cons_append, List.nil_append]
        simp only [AV.portL, AV.port, portL_c]
      · simp only [go_sem, init_env', Nat.reduceEqDiff, Nat.reduceAdd, Nat.reduceMul, reduceIte, Nat.reduceLeDiff, Nat.reduceLT, Nat.reduceBEq, reduceCtorEq, hP]
        (repeat ((first | refine WV_seq_ ?_ | refine WV_block ?_ | refine WV_ops ?_ | refine WV_skip ?_ | refine WV_exit ?_); (try simp only [go_sem, init_env', Nat.reduceEqDiff, Nat.reduceAdd, Nat.reduceMul, reduceIte, Nat.reduceLeDiff, Nat.reduceLT, Nat.reduceBEq, reduceCtorEq, hP, ]); (repeat (refine And.intro (by first | omega | (intros; simp_all; done) | (intros; simp_all; omega)) ?_))))
        obtain ⟨n, rfl⟩ : ∃ k, n = k + 1 := ⟨n - 1, by omega⟩
        refine WV_cond rfl (fun h4 => ?_) (fun h4 => ?_)
        · (repeat ((first | refine WV_seq_ ?_ | refine WV_block ?_ | refine WV_ops ?_ | refine WV_skip ?_ | refine WV_exit ?_); (try simp only [go_sem, init_env', Nat.reduceEqDiff, Nat.reduceAdd, Nat.reduceMul, reduceIte, Nat.reduceLeDiff, Nat.reduceLT, Nat.reduceBEq, reduceCtorEq, hP, ]); (repeat (refine And.intro (by first | omega | (intros; simp_all; done) | (intros; simp_all; omega)) ?_))))
          (refine WV_ret ?_; simp only [thenQ, inQ, RetQ, RetOk, resAll, resA]; simp only [go_sem, init_env', Nat.reduceEqDiff, Nat.reduceAdd, Nat.reduceMul, reduceIte, Nat.reduceLeDiff, Nat.reduceLT, Nat.reduceBEq, reduceCtorEq, tupA, AV.port, AV.portL, exists_eq_left', ]; (first | exact AVle.of rfl | refine AVle.of ?_ | skip))
          simp [firstP, h4]
        · have w1 := w64 (n := x + 1) (by omega) (by omega)
          (repeat ((first | refine WV_seq_ ?_ | refine WV_block ?_ | refine WV_ops ?_ | refine WV_skip ?_ | refine WV_exit ?_); (try simp only [go_sem, init_env', Nat.reduceEqDiff, Nat.reduceAdd, Nat.reduceMul, reduceIte, Nat.reduceLeDiff, Nat.reduceLT, Nat.reduceBEq, reduceCtorEq, hP, w1]); (repeat (refine And.intro (by first | omega | (intros; simp_all; done) | (intros; simp_all; omega)) ?_))))
          refine ⟨(x + 1, n), ⟨by simp only; omega, by simp only; omega, ?_⟩, by simp only; omega, ?_⟩
          · simp [firstP, h4]
          · (refine Sub_of (by simp only [go_sem, init_env', Nat.reduceEqDiff, Nat.reduceAdd, Nat.reduceMul, reduceIte, Nat.reduceLeDiff, Nat.reduceLT, Nat.reduceBEq, reduceCtorEq]; ((repeat' (first | exact EnvLe_e0 _ _ | refine EnvLe_upd ?_ ?_)) <;> ((try simp only [upd_app, e0_app, o0_app, Nat.reduceEqDiff, reduceIte]); first | exact AWk.refl _ _ | exact AWk.int (by omega) | exact AWk.int (by rw [w64 (by omega) (by omega)]; omega) | exact AWk.grow rfl | exact AWk.nil _ | exact AWk.of (by simp)))) (by simp only [go_sem, init_env', Nat.reduceEqDiff, Nat.reduceAdd, Nat.reduceMul, reduceIte, Nat.reduceLeDiff, Nat.reduceLT, Nat.reduceBEq, reduceCtorEq]; ((repeat' (first | exact ObjLe_o0 _ | exact ObjLe.rfl' _ | refine ObjLe_same ?_ | refine ObjLe_upd ?_ ?_ | refine ObjLe_new rfl ?_)) <;> rfl)))
    · have h : b < x := by simpa using h
      have : n = 0 := by omega
      subst this
      (repeat ((first | refine WV_seq_ ?_ | refine WV_block ?_ | refine WV_ops ?_ | refine WV_skip ?_ | refine WV_exit ?_); (try simp only [go_sem, init_env', Nat.reduceEqDiff, Nat.reduceAdd, Nat.reduceMul, reduceIte, Nat.reduceLeDiff, Nat.reduceLT, Nat.reduceBEq, reduceCtorEq, hP, ]); (repeat (refine And.intro (by first | omega | (intros; simp_all; done) | (intros; simp_all; omega)) ?_))))
      (refine WV_ret ?_; simp only [thenQ, inQ, RetQ, RetOk, resAll, resA]; simp only [go_sem, init_env', Nat.reduceEqDiff, Nat.reduceAdd, Nat.reduceMul, reduceIte, Nat.reduceLeDiff, Nat.reduceLT, Nat.reduceBEq, reduceCtorEq, tupA, AV.port, AV.portL, exists_eq_left', ]; (first | exact AVle.of rfl | refine AVle.of ?_ | skip))

theorem isLeast51 {r : Royal} (hW : Weighed r) {who c x : Int} (hw : 0 ≤ who ∧ who < (r.n : Int)) (hx : 0 ≤ x ∧ x ≤ 9999) :
    FSpec Try.prog 51 [iv x, .c (.pt [ints (wts r), .int .i64 (allW r)]), .c (.pt [.int .i64 who]), .c (.pt [.int .i64 c])] (.c (.bool (decide (c ≤ (sharesL x (allW r) (wts r)).getD who.toNat 0)))) := by
  have hl : (sharesL x (allW r) (wts r)).length = r.n := by rw [sharesL_len, hW.len]
  have hk : who.toNat < (sharesL x (allW r) (wts r)).length := by omega
  have hs := shares46 hx hW.bd hW.pos hW.sum (by rw [hW.len]; exact hW.hr.n6)
  generalize sharesL x (allW r) (wts r) = S at *
  have hk2 : who < (S.length : Int) := by omega
  have hwho := hw.1
  refine FSpec_of c51 (Nat.le_refl _) (by decide) fun C hP hN hC hL => ?_
  simp only [ir51]
  (repeat ((first | refine WV_seq_ ?_ | refine WV_block ?_ | refine WV_ops ?_ | refine WV_skip ?_ | refine WV_exit ?_); (try simp only [go_sem, init_env', Nat.reduceEqDiff, Nat.reduceAdd, Nat.reduceMul, reduceIte, Nat.reduceLeDiff, Nat.reduceLT, Nat.reduceBEq, reduceCtorEq, hP, ]); (repeat (refine And.intro (by first | omega | (intros; simp_all; done) | (intros; simp_all; omega)) ?_))))
  (refine ACall_of (hs) rfl rfl rfl rfl rfl ?_; simp only [go_sem, init_env', Nat.reduceEqDiff, Nat.reduceAdd, Nat.reduceMul, reduceIte, Nat.reduceLeDiff, Nat.reduceLT, Nat.reduceBEq, reduceCtorEq, hP, ints, map_getD hk, hk2, hwho]; (repeat (refine And.intro (by first | omega | (intros; simp_all; done) | (intros; simp_all; omega)) ?_)); (repeat ((first | refine WV_seq_ ?_ | refine WV_block ?_ | refine WV_ops ?_ | refine WV_skip ?_ | refine WV_exit ?_); (try simp only [go_sem, init_env', Nat.reduceEqDiff, Nat.reduceAdd, Nat.reduceMul, reduceIte, Nat.reduceLeDiff, Nat.reduceLT, Nat.reduceBEq, reduceCtorEq, hP, ints, map_getD hk, hk2, hwho]); (repeat (refine And.intro (by first | omega | (intros; simp_all; done) | (intros; simp_all; omega)) ?_)))))
  (refine WV_ret ?_; simp only [thenQ, inQ, RetQ, RetOk, resAll, resA]; simp only [go_sem, init_env', Nat.reduceEqDiff, Nat.reduceAdd, Nat.reduceMul, reduceIte, Nat.reduceLeDiff, Nat.reduceLT, Nat.reduceBEq, reduceCtorEq, tupA, AV.port, AV.portL, exists_eq_left', ]; (first | exact AVle.of rfl | refine AVle.of ?_ | skip))
  simp [hk]
theorem isOdd52 {r : Royal} (hW : Weighed r) {who x : Int} (hw : 0 ≤ who ∧ who < (r.n : Int)) (hx : 1 ≤ x ∧ x ≤ 9999) :
    FSpec Try.prog 52 [iv x, .c (.pt [ints (wts r), .int .i64 (allW r)]), .c (.pt [.int .i64 who])] (.c (.bool (decide ((sharesL x (allW r) (wts r)).getD who.toNat 0 < (sharesL (x - 1) (allW r) (wts r)).getD who.toNat 0)))) := by
  have hl : (sharesL x (allW r) (wts r)).length = r.n := by rw [sharesL_len, hW.len]
  have hl' : (sharesL (x - 1) (allW r) (wts r)).length = r.n := by rw [sharesL_len, hW.len]
  have hk : who.toNat < (sharesL x (allW r) (wts r)).length := by omega
  have hk' : who.toNat < (sharesL (x - 1) (allW r) (wts r)).length := by omega
  have hs := shares46 (pool := x) (by omega) hW.bd hW.pos hW.sum (by rw [hW.len]; exact hW.hr.n6)
  have hs' := shares46 (pool := x - 1) (by omega) hW.bd hW.pos hW.sum (by rw [hW.len]; exact hW.hr.n6)
  generalize sharesL x (allW r) (wts r) = S at *
  generalize sharesL (x - 1) (allW r) (wts r) = S' at *
  have hk2 : who < (S.length : Int) := by omega
  have hk3 : who < (S'.length : Int) := by omega
  have hwho := hw.1
  have w1 := w64 (n := x - 1) (by omega) (by omega)
  refine FSpec_of c52 (Nat.le_refl _) (by decide) fun C hP hN hC hL => ?_
  simp only [ir52]
  (repeat ((first | refine WV_seq_ ?_ | refine WV_block ?_ | refine WV_ops ?_ | refine WV_skip ?_ | refine WV_exit ?_); (try simp only [go_sem, init_env', Nat.reduceEqDiff, Nat.reduceAdd, Nat.reduceMul, reduceIte, Nat.reduceLeDiff, Nat.reduceLT, Nat.reduceBEq, reduceCtorEq, hP, ]); (repeat (refine And.intro (by first | omega | (intros; simp_all; done) | (intros; simp_all; omega)) ?_))))
  (refine ACall_of (hs) rfl rfl rfl rfl rfl ?_; simp only [go_sem, init_env', Nat.reduceEqDiff, Nat.reduceAdd, Nat.reduceMul, reduceIte, Nat.reduceLeDiff, Nat.reduceLT, Nat.reduceBEq, reduceCtorEq, hP, ints, map_getD hk, hk2, hwho, w1]; (repeat (refine And.intro (by first | omega | (intros; simp_all; done) | (intros; simp_all; omega)) ?_)); (repeat ((first | refine WV_seq_ ?_ | refine WV_block ?_ | refine WV_ops ?_ | refine WV_skip ?_ | refine WV_exit ?_); (try simp only [go_sem, init_env', Nat.reduceEqDiff, Nat.reduceAdd, Nat.reduceMul, reduceIte, Nat.reduceLeDiff, Nat.reduceLT, Nat.reduceBEq, reduceCtorEq, hP, ints, map_getD hk, hk2, hwho, w1]); (repeat (refine And.intro (by first | omega | (intros; simp_all; done) | (intros; simp_all; omega)) ?_)))))
  (refine ACall_of (hs') rfl rfl rfl rfl rfl ?_; simp only [go_sem, init_env', Nat.reduceEqDiff, Nat.reduceAdd, Nat.reduceMul, reduceIte, Nat.reduceLeDiff, Nat.reduceLT, Nat.reduceBEq, reduceCtorEq, hP, ints, map_getD hk', hk3, hwho]; (repeat (refine And.intro (by first | omega | (intros; simp_all; done) | (intros; simp_all; omega)) ?_)); (repeat ((first | refine WV_seq_ ?_ | refine WV_block ?_ | refine WV_ops ?_ | refine WV_skip ?_ | refine WV_exit ?_); (try simp only [go_sem, init_env', Nat.reduceEqDiff, Nat.reduceAdd, Nat.reduceMul, reduceIte, Nat.reduceLeDiff, Nat.reduceLT, Nat.reduceBEq, reduceCtorEq, hP, ints, map_getD hk', hk3, hwho]); (repeat (refine And.intro (by first | omega | (intros; simp_all; done) | (intros; simp_all; omega)) ?_)))))
  (refine WV_ret ?_; simp only [thenQ, inQ, RetQ, RetOk, resAll, resA]; simp only [go_sem, init_env', Nat.reduceEqDiff, Nat.reduceAdd, Nat.reduceMul, reduceIte, Nat.reduceLeDiff, Nat.reduceLT, Nat.reduceBEq, reduceCtorEq, tupA, AV.port, AV.portL, exists_eq_left', ]; (first | exact AVle.of rfl | refine AVle.of ?_ | skip))
  simp [hk, hk']

set_option maxHeartbeats 4000000 in
theorem least26 (r : Royal) (who c : Int) : FSpec Try.prog 26 [r.av, iv who, iv c] (.tup [iv (leastS r who c).1, iv (leastS r who c).2]) := by
  refine FSpec_of c26 (Nat.le_refl _) (by decide) fun C hP hN hC hL => ?_
  simp only [ir26, Royal.av]
  (repeat ((first | refine WV_seq_ ?_ | refine WV_block ?_ | refine WV_ops ?_ | refine WV_skip ?_ | refine WV_exit ?_); (try simp only [go_sem, init_env', Nat.reduceEqDiff, Nat.reduceAdd, Nat.reduceMul, reduceIte, Nat.reduceLeDiff, Nat.reduceLT, Nat.reduceBEq, reduceCtorEq, hP, ]); (repeat (refine And.intro (by first | omega | (intros; simp_all; done) | (intros; simp_all; omega)) ?_))))
  (refine ACall_of (iswho48 r who) rfl rfl rfl rfl rfl ?_; simp only [go_sem, init_env', Nat.reduceEqDiff, Nat.reduceAdd, Nat.reduceMul, reduceIte, Nat.reduceLeDiff, Nat.reduceLT, Nat.reduceBEq, reduceCtorEq, hP, Royal.av]; (repeat (refine And.intro (by first | omega | (intros; simp_all; done) | (intros; simp_all; omega)) ?_)); (repeat ((first | refine WV_seq_ ?_ | refine WV_block ?_ | refine WV_ops ?_ | refine WV_skip ?_ | refine WV_exit ?_); (try simp only [go_sem, init_env', Nat.reduceEqDiff, Nat.reduceAdd, Nat.reduceMul, reduceIte, Nat.reduceLeDiff, Nat.reduceLT, Nat.reduceBEq, reduceCtorEq, hP, Royal.av]); (repeat (refine And.intro (by first | omega | (intros; simp_all; done) | (intros; simp_all; omega)) ?_)))))
  (refine ACallG_of (fun hG => wi49 c 0 9999) rfl (fun hG => by simp only [go_sem, init_env', Nat.reduceEqDiff, Nat.reduceAdd, Nat.reduceMul, reduceIte, Nat.reduceLeDiff, Nat.reduceLT, Nat.reduceBEq, reduceCtorEq, hG]) rfl rfl rfl ?_; simp only [go_sem, init_env', Nat.reduceEqDiff, Nat.reduceAdd, Nat.reduceMul, reduceIte, Nat.reduceLeDiff, Nat.reduceLT, Nat.reduceBEq, reduceCtorEq, hP, ]; (repeat (refine And.intro (by first | omega | (intros; simp_all; done) | (intros; simp_all; omega)) ?_)); (repeat ((first | refine WV_seq_ ?_ | refine WV_block ?_ | refine WV_ops ?_ | refine WV_skip ?_ | refine WV_exit ?_); (try simp only [go_sem, init_env', Nat.reduceEqDiff, Nat.reduceAdd, Nat.reduceMul, reduceIte, Nat.reduceLeDiff, Nat.reduceLT, Nat.reduceBEq, reduceCtorEq, hP, ]); (repeat (refine And.intro (by first | omega | (intros; simp_all; done) | (intros; simp_all; omega)) ?_)))))
  have e0 : (within who 0 ((r.n : Int) - 1) && within c 0 9999) = (isW r who && within c 0 9999) := rfl
  rw [e0]
  (refine ACall_of (weigh45 r (isW r who && within c 0 9999)) rfl rfl rfl rfl rfl ?_; simp only [go_sem, init_env', Nat.reduceEqDiff, Nat.reduceAdd, Nat.reduceMul, reduceIte, Nat.reduceLeDiff, Nat.reduceLT, Nat.reduceBEq, reduceCtorEq, hP, Royal.av]; (repeat (refine And.intro (by first | omega | (intros; simp_all; done) | (intros; simp_all; omega)) ?_)); (repeat ((first | refine WV_seq_ ?_ | refine WV_block ?_ | refine WV_ops ?_ | refine WV_skip ?_ | refine WV_exit ?_); (try simp only [go_sem, init_env', Nat.reduceEqDiff, Nat.reduceAdd, Nat.reduceMul, reduceIte, Nat.reduceLeDiff, Nat.reduceLT, Nat.reduceBEq, reduceCtorEq, hP, Royal.av]); (repeat (refine And.intro (by first | omega | (intros; simp_all; done) | (intros; simp_all; omega)) ?_)))))
  by_cases he : weighE r (isW r who && within c 0 9999) = 0
  · obtain ⟨hb, hW, e1, e2⟩ := weighE_zero he
    simp only [Bool.and_eq_true] at hb
    have hw := isW_spec hb.1
    rw [he, e1, e2]
    have hx : leastS r who c = firstP (fun p => decide (c ≤ (sharesL p (allW r) (wts r)).getD who.toNat 0)) 10000 0 := by unfold leastS; rw [if_pos he]
    rw [hx]
    (refine WV_cond rfl (fun h => ?_) (fun h => ?_))
    · simp at h
    · (refine WV_skip ?_; simp only [go_sem, init_env', Nat.reduceEqDiff, Nat.reduceAdd, Nat.reduceMul, reduceIte, Nat.reduceLeDiff, Nat.reduceLT, Nat.reduceBEq, reduceCtorEq])
      refine WV_freeze 4 (ds := [.int .i64 who]) rfl rfl ?_
      simp only [go_sem, init_env', Nat.reduceEqDiff, Nat.reduceAdd, Nat.reduceMul, reduceIte, Nat.reduceLeDiff, Nat.reduceLT, Nat.reduceBEq, reduceCtorEq]
      refine WV_freeze 5 (ds := [.int .i64 c]) rfl rfl ?_
      simp only [go_sem, init_env', Nat.reduceEqDiff, Nat.reduceAdd, Nat.reduceMul, reduceIte, Nat.reduceLeDiff, Nat.reduceLT, Nat.reduceBEq, reduceCtorEq]
      refine WV_freeze 8 (ds := [ints (wts r), .int .i64 (allW r)]) rfl rfl ?_
      simp only [go_sem, init_env', Nat.reduceEqDiff, Nat.reduceAdd, Nat.reduceMul, reduceIte, Nat.reduceLeDiff, Nat.reduceLT, Nat.reduceBEq, reduceCtorEq]
      (repeat ((first | refine WV_seq_ ?_ | refine WV_block ?_ | refine WV_ops ?_ | refine WV_skip ?_ | refine WV_exit ?_); (try simp only [go_sem, init_env', Nat.reduceEqDiff, Nat.reduceAdd, Nat.reduceMul, reduceIte, Nat.reduceLeDiff, Nat.reduceLT, Nat.reduceBEq, reduceCtorEq, hP, ]); (repeat (refine And.intro (by first | omega | (intros; simp_all; done) | (intros; simp_all; omega)) ?_))))
      (refine AS_pure (first50 (m := 10000) (a := 0) (b := 9999) (ds := [.pt [ints (wts r), .int .i64 (allW r)], .pt [.int .i64 who], .pt [.int .i64 c]]) (by decide) (by decide) (by decide) (fun x h1 h2 => isLeast51 hW hw ⟨h1, h2⟩)) rfl rfl rfl rfl rfl ?_; simp only [go_sem, init_env', Nat.reduceEqDiff, Nat.reduceAdd, Nat.reduceMul, reduceIte, Nat.reduceLeDiff, Nat.reduceLT, Nat.reduceBEq, reduceCtorEq, hP, ]; (repeat (refine And.intro (by first | omega | (intros; simp_all; done) | (intros; simp_all; omega)) ?_)); (repeat ((first | refine WV_seq_ ?_ | refine WV_block ?_ | refine WV_ops ?_ | refine WV_skip ?_ | refine WV_exit ?_); (try simp only [go_sem, init_env', Nat.reduceEqDiff, Nat.reduceAdd, Nat.reduceMul, reduceIte, Nat.reduceLeDiff, Nat.reduceLT, Nat.reduceBEq, reduceCtorEq, hP, ]); (repeat (refine And.intro (by first | omega | (intros; simp_all; done) | (intros; simp_all; omega)) ?_)))))
      (refine WV_ret ?_; simp only [thenQ, inQ, RetQ, RetOk, resAll, resA]; simp only [go_sem, init_env', Nat.reduceEqDiff, Nat.reduceAdd, Nat.reduceMul, reduceIte, Nat.reduceLeDiff, Nat.reduceLT, Nat.reduceBEq, reduceCtorEq, tupA, AV.port, AV.portL, exists_eq_left', ]; (first | exact AVle.of rfl | refine AVle.of ?_ | skip))
  · have hx : leastS r who c = (0, weighE r (isW r who && within c 0 9999)) := by unfold leastS; rw [if_neg he]
    rw [hx]
    (refine WV_cond rfl (fun h => ?_) (fun h => ?_))
    · (repeat ((first | refine WV_seq_ ?_ | refine WV_block ?_ | refine WV_ops ?_ | refine WV_skip ?_ | refine WV_exit ?_); (try simp only [go_sem, init_env', Nat.reduceEqDiff, Nat.reduceAdd, Nat.reduceMul, reduceIte, Nat.reduceLeDiff, Nat.reduceLT, Nat.reduceBEq, reduceCtorEq, hP, ]); (repeat (refine And.intro (by first | omega | (intros; simp_all; done) | (intros; simp_all; omega)) ?_))))
      (refine WV_ret ?_; simp only [thenQ, inQ, RetQ, RetOk, resAll, resA]; simp only [go_sem, init_env', Nat.reduceEqDiff, Nat.reduceAdd, Nat.reduceMul, reduceIte, Nat.reduceLeDiff, Nat.reduceLT, Nat.reduceBEq, reduceCtorEq, tupA, AV.port, AV.portL, exists_eq_left', ]; (first | exact AVle.of rfl | refine AVle.of ?_ | skip))
    · simp at h; exact absurd h he
set_option maxHeartbeats 4000000 in
theorem odd27 (r : Royal) (who : Int) : FSpec Try.prog 27 [r.av, iv who] (.tup [iv (oddS r who).1, iv (oddS r who).2]) := by
  refine FSpec_of c27 (Nat.le_refl _) (by decide) fun C hP hN hC hL => ?_
  simp only [ir27, Royal.av]
  (repeat ((first | refine WV_seq_ ?_ | refine WV_block ?_ | refine WV_ops ?_ | refine WV_skip ?_ | refine WV_exit ?_); (try simp only [go_sem, init_env', Nat.reduceEqDiff, Nat.reduceAdd, Nat.reduceMul, reduceIte, Nat.reduceLeDiff, Nat.reduceLT, Nat.reduceBEq, reduceCtorEq, hP, ]); (repeat (refine And.intro (by first | omega | (intros; simp_all; done) | (intros; simp_all; omega)) ?_))))
  (refine ACall_of (iswho48 r who) rfl rfl rfl rfl rfl ?_; simp only [go_sem, init_env', Nat.reduceEqDiff, Nat.reduceAdd, Nat.reduceMul, reduceIte, Nat.reduceLeDiff, Nat.reduceLT, Nat.reduceBEq, reduceCtorEq, hP, Royal.av]; (repeat (refine And.intro (by first | omega | (intros; simp_all; done) | (intros; simp_all; omega)) ?_)); (repeat ((first | refine WV_seq_ ?_ | refine WV_block ?_ | refine WV_ops ?_ | refine WV_skip ?_ | refine WV_exit ?_); (try simp only [go_sem, init_env', Nat.reduceEqDiff, Nat.reduceAdd, Nat.reduceMul, reduceIte, Nat.reduceLeDiff, Nat.reduceLT, Nat.reduceBEq, reduceCtorEq, hP, Royal.av]); (repeat (refine And.intro (by first | omega | (intros; simp_all; done) | (intros; simp_all; omega)) ?_)))))
  rw [show within who 0 ((r.n : Int) - 1) = isW r who from rfl]
  (refine ACall_of (weigh45 r (isW r who)) rfl rfl rfl rfl rfl ?_; simp only [go_sem, init_env', Nat.reduceEqDiff, Nat.reduceAdd, Nat.reduceMul, reduceIte, Nat.reduceLeDiff, Nat.reduceLT, Nat.reduceBEq, reduceCtorEq, hP, Royal.av]; (repeat (refine And.intro (by first | omega | (intros; simp_all; done) | (intros; simp_all; omega)) ?_)); (repeat ((first | refine WV_seq_ ?_ | refine WV_block ?_ | refine WV_ops ?_ | refine WV_skip ?_ | refine WV_exit ?_); (try simp only [go_sem, init_env', Nat.reduceEqDiff, Nat.reduceAdd, Nat.reduceMul, reduceIte, Nat.reduceLeDiff, Nat.reduceLT, Nat.reduceBEq, reduceCtorEq, hP, Royal.av]); (repeat (refine And.intro (by first | omega | (intros; simp_all; done) | (intros; simp_all; omega)) ?_)))))
  by_cases he : weighE r (isW r who) = 0
  · obtain ⟨hb, hW, e1, e2⟩ := weighE_zero he
    have hw := isW_spec hb
    have hpool := hW.hr.pool
    rw [he, e1, e2]
    have hx : oddS r who = firstP (fun p => decide ((sharesL p (allW r) (wts r)).getD who.toNat 0 < (sharesL (p - 1) (allW r) (wts r)).getD who.toNat 0)) r.pool.toNat 1 := by unfold oddS; rw [if_pos he]
    rw [hx]
    (refine WV_cond rfl (fun h => ?_) (fun h => ?_))
    · simp at h
    · (refine WV_skip ?_; simp only [go_sem, init_env', Nat.reduceEqDiff, Nat.reduceAdd, Nat.reduceMul, reduceIte, Nat.reduceLeDiff, Nat.reduceLT, Nat.reduceBEq, reduceCtorEq])
      refine WV_freeze 3 (ds := [.int .i64 who]) rfl rfl ?_
      simp only [go_sem, init_env', Nat.reduceEqDiff, Nat.reduceAdd, Nat.reduceMul, reduceIte, Nat.reduceLeDiff, Nat.reduceLT, Nat.reduceBEq, reduceCtorEq]
      refine WV_freeze 6 (ds := [ints (wts r), .int .i64 (allW r)]) rfl rfl ?_
      simp only [go_sem, init_env', Nat.reduceEqDiff, Nat.reduceAdd, Nat.reduceMul, reduceIte, Nat.reduceLeDiff, Nat.reduceLT, Nat.reduceBEq, reduceCtorEq]
      (repeat ((first | refine WV_seq_ ?_ | refine WV_block ?_ | refine WV_ops ?_ | refine WV_skip ?_ | refine WV_exit ?_); (try simp only [go_sem, init_env', Nat.reduceEqDiff, Nat.reduceAdd, Nat.reduceMul, reduceIte, Nat.reduceLeDiff, Nat.reduceLT, Nat.reduceBEq, reduceCtorEq, hP, ]); (repeat (refine And.intro (by first | omega | (intros; simp_all; done) | (intros; simp_all; omega)) ?_))))
      (refine AS_pure (first50 (m := r.pool.toNat) (a := 1) (b := r.pool) (ds := [.pt [ints (wts r), .int .i64 (allW r)], .pt [.int .i64 who]]) (by decide) (by omega) (by omega) (fun x h1 h2 => isOdd52 hW hw ⟨h1, by omega⟩)) rfl rfl rfl rfl rfl ?_; simp only [go_sem, init_env', Nat.reduceEqDiff, Nat.reduceAdd, Nat.reduceMul, reduceIte, Nat.reduceLeDiff, Nat.reduceLT, Nat.reduceBEq, reduceCtorEq, hP, ]; (repeat (refine And.intro (by first | omega | (intros; simp_all; done) | (intros; simp_all; omega)) ?_)); (repeat ((first | refine WV_seq_ ?_ | refine WV_block ?_ | refine WV_ops ?_ | refine WV_skip ?_ | refine WV_exit ?_); (try simp only [go_sem, init_env', Nat.reduceEqDiff, Nat.reduceAdd, Nat.reduceMul, reduceIte, Nat.reduceLeDiff, Nat.reduceLT, Nat.reduceBEq, reduceCtorEq, hP, ]); (repeat (refine And.intro (by first | omega | (intros; simp_all; done) | (intros; simp_all; omega)) ?_)))))
      (refine WV_ret ?_; simp only [thenQ, inQ, RetQ, RetOk, resAll, resA]; simp only [go_sem, init_env', Nat.reduceEqDiff, Nat.reduceAdd, Nat.reduceMul, reduceIte, Nat.reduceLeDiff, Nat.reduceLT, Nat.reduceBEq, reduceCtorEq, tupA, AV.port, AV.portL, exists_eq_left', ]; (first | exact AVle.of rfl | refine AVle.of ?_ | skip))
  · have hx : oddS r who = (0, weighE r (isW r who)) := by unfold oddS; rw [if_neg he]
    rw [hx]
    (refine WV_cond rfl (fun h => ?_) (fun h => ?_))
    · (repeat ((first | refine WV_seq_ ?_ | refine WV_block ?_ | refine WV_ops ?_ | refine WV_skip ?_ | refine WV_exit ?_); (try simp only [go_sem, init_env', Nat.reduceEqDiff, Nat.reduceAdd, Nat.reduceMul, reduceIte, Nat.reduceLeDiff, Nat.reduceLT, Nat.reduceBEq, reduceCtorEq, hP, ]); (repeat (refine And.intro (by first | omega | (intros; simp_all; done) | (intros; simp_all; omega)) ?_))))
      (refine WV_ret ?_; simp only [thenQ, inQ, RetQ, RetOk, resAll, resA]; simp only [go_sem, init_env', Nat.reduceEqDiff, Nat.reduceAdd, Nat.reduceMul, reduceIte, Nat.reduceLeDiff, Nat.reduceLT, Nat.reduceBEq, reduceCtorEq, tupA, AV.port, AV.portL, exists_eq_left', ]; (first | exact AVle.of rfl | refine AVle.of ?_ | skip))
    · simp at h; exact absurd h he
theorem paid38 (r : Royal) : FSpec Try.prog 38 [r.av] (.tup [.c (ints (settledS gPaid r).1), iv (settledS gPaid r).2]) := by
  refine FSpec_of c38 (Nat.le_refl _) (by decide) fun C hP hN hC hL => ?_
  simp only [ir38, Royal.av]
  (repeat ((first | refine WV_seq_ ?_ | refine WV_block ?_ | refine WV_ops ?_ | refine WV_skip ?_ | refine WV_exit ?_); (try simp only [go_sem, init_env', Nat.reduceEqDiff, Nat.reduceAdd, Nat.reduceMul, reduceIte, Nat.reduceLeDiff, Nat.reduceLT, Nat.reduceBEq, reduceCtorEq, hP, ]); (repeat (refine And.intro (by first | omega | (intros; simp_all; done) | (intros; simp_all; omega)) ?_))))
  (refine AS_pure (settled59 r paid60) rfl rfl rfl rfl rfl ?_; simp only [go_sem, init_env', Nat.reduceEqDiff, Nat.reduceAdd, Nat.reduceMul, reduceIte, Nat.reduceLeDiff, Nat.reduceLT, Nat.reduceBEq, reduceCtorEq, hP, Royal.av]; (repeat (refine And.intro (by first | omega | (intros; simp_all; done) | (intros; simp_all; omega)) ?_)); (repeat ((first | refine WV_seq_ ?_ | refine WV_block ?_ | refine WV_ops ?_ | refine WV_skip ?_ | refine WV_exit ?_); (try simp only [go_sem, init_env', Nat.reduceEqDiff, Nat.reduceAdd, Nat.reduceMul, reduceIte, Nat.reduceLeDiff, Nat.reduceLT, Nat.reduceBEq, reduceCtorEq, hP, Royal.av]); (repeat (refine And.intro (by first | omega | (intros; simp_all; done) | (intros; simp_all; omega)) ?_)))))
  (refine WV_ret ?_; simp only [thenQ, inQ, RetQ, RetOk, resAll, resA]; simp only [go_sem, init_env', Nat.reduceEqDiff, Nat.reduceAdd, Nat.reduceMul, reduceIte, Nat.reduceLeDiff, Nat.reduceLT, Nat.reduceBEq, reduceCtorEq, tupA, AV.port, AV.portL, exists_eq_left', ]; (first | exact AVle.of rfl | refine AVle.of ?_ | skip))
set_option maxHeartbeats 4000000 in
theorem lost40 (r : Royal) : FSpec Try.prog 40 [r.av] (.tup [iv (lostS r).1, iv (lostS r).2]) := by
  refine FSpec_of c40 (Nat.le_refl _) (by decide) fun C hP hN hC hL => ?_
  simp only [ir40, Royal.av]
  (repeat ((first | refine WV_seq_ ?_ | refine WV_block ?_ | refine WV_ops ?_ | refine WV_skip ?_ | refine WV_exit ?_); (try simp only [go_sem, init_env', Nat.reduceEqDiff, Nat.reduceAdd, Nat.reduceMul, reduceIte, Nat.reduceLeDiff, Nat.reduceLT, Nat.reduceBEq, reduceCtorEq, hP, ]); (repeat (refine And.intro (by first | omega | (intros; simp_all; done) | (intros; simp_all; omega)) ?_))))
  (refine AS_pure (weigh45 r true) rfl rfl rfl rfl rfl ?_; simp only [go_sem, init_env', Nat.reduceEqDiff, Nat.reduceAdd, Nat.reduceMul, reduceIte, Nat.reduceLeDiff, Nat.reduceLT, Nat.reduceBEq, reduceCtorEq, hP, Royal.av]; (repeat (refine And.intro (by first | omega | (intros; simp_all; done) | (intros; simp_all; omega)) ?_)); (repeat ((first | refine WV_seq_ ?_ | refine WV_block ?_ | refine WV_ops ?_ | refine WV_skip ?_ | refine WV_exit ?_); (try simp only [go_sem, init_env', Nat.reduceEqDiff, Nat.reduceAdd, Nat.reduceMul, reduceIte, Nat.reduceLeDiff, Nat.reduceLT, Nat.reduceBEq, reduceCtorEq, hP, Royal.av]); (repeat (refine And.intro (by first | omega | (intros; simp_all; done) | (intros; simp_all; omega)) ?_)))))
  by_cases he : weighE r true = 0
  · obtain ⟨_, hW, e1, e2⟩ := weighE_zero he
    have hpool := hW.hr.pool
    have hpos := hW.pos
    have hs6 := hW.hr.s6
    rw [he, e1, e2]
    rw [show lostS r = (lostV r r.sides.length, 0) from by unfold lostS; rw [if_pos he]]
    (refine WV_cond rfl (fun h => ?_) (fun h => ?_))
    · simp at h
    · (repeat ((first | refine WV_seq_ ?_ | refine WV_block ?_ | refine WV_ops ?_ | refine WV_skip ?_ | refine WV_exit ?_); (try simp only [go_sem, init_env', Nat.reduceEqDiff, Nat.reduceAdd, Nat.reduceMul, reduceIte, Nat.reduceLeDiff, Nat.reduceLT, Nat.reduceBEq, reduceCtorEq, hP, sidesC]); (repeat (refine And.intro (by first | omega | (intros; simp_all; done) | (intros; simp_all; omega)) ?_))))
      refine WV_loopK K40_1 [8, 11, 4] (fun k : Nat => k ≤ r.sides.length) (fun k => r.sides.length - k) (fun k => [(25, iv k), (6, iv (lostV r k))]) (fun _ => [(4, .box [.c (ints (wts r)), iv (allW r)])]) 0 (Nat.zero_le _) ?_ ?_
      · (refine Sub_of (by simp only [go_sem, init_env', Nat.reduceEqDiff, Nat.reduceAdd, Nat.reduceMul, reduceIte, Nat.reduceLeDiff, Nat.reduceLT, Nat.reduceBEq, reduceCtorEq]; ((repeat' (first | exact EnvLe_e0 _ _ | refine EnvLe_upd ?_ ?_)) <;> ((try simp only [upd_app, e0_app, o0_app, Nat.reduceEqDiff, reduceIte]); first | exact AWk.refl _ _ | exact AWk.int (by omega) | exact AWk.int (by rw [w64 (by omega) (by omega)]; omega) | exact AWk.grow rfl | exact AWk.nil _ | exact AWk.of (by simp [lostV])))) (by simp only [go_sem, init_env', Nat.reduceEqDiff, Nat.reduceAdd, Nat.reduceMul, reduceIte, Nat.reduceLeDiff, Nat.reduceLT, Nat.reduceBEq, reduceCtorEq]; ((repeat' (first | exact ObjLe_o0 _ | exact ObjLe.rfl' _ | refine ObjLe_same ?_ | refine ObjLe_upd ?_ ?_ | refine ObjLe_new rfl ?_)) <;> rfl)))
      · intro k hk
        have hlb := lostV_bd hW k hk
        simp only [go_sem, init_env', Nat.reduceEqDiff, Nat.reduceAdd, Nat.reduceMul, reduceIte, Nat.reduceLeDiff, Nat.reduceLT, Nat.reduceBEq, reduceCtorEq]
        (repeat ((first | refine WV_seq_ ?_ | refine WV_block ?_ | refine WV_ops ?_ | refine WV_skip ?_ | refine WV_exit ?_); (try simp only [go_sem, init_env', Nat.reduceEqDiff, Nat.reduceAdd, Nat.reduceMul, reduceIte, Nat.reduceLeDiff, Nat.reduceLT, Nat.reduceBEq, reduceCtorEq, hP, ]); (repeat (refine And.intro (by first | omega | (intros; simp_all; done) | (intros; simp_all; omega)) ?_))))
        (refine WV_cond rfl (fun h => ?_) (fun h => ?_))
        · have h : k < r.sides.length := by simpa using h
          have hm := List.getElem_mem h
          have hmo := money_bd hW hm
          have hp6 := hW.hr.p6 _ hm
          have w1 := w64 (n := 100 * r.pool) (by omega) (by omega)
          have w2 := w64 (n := 100 * r.pool * r.sides[k].plays) (by omega) (by omega)
          have ed : (100 * r.pool * r.sides[k].plays).tdiv (allW r) = moneyOf r r.sides[k] := Int.tdiv_eq_ediv_of_nonneg hmo.2.2.1
          have w3 := w64 (n := moneyOf r r.sides[k]) (by omega) (by omega)
          have ha0 : (allW r = 0) = False := by simp; omega
          (repeat ((first | refine WV_seq_ ?_ | refine WV_block ?_ | refine WV_ops ?_ | refine WV_skip ?_ | refine WV_exit ?_); (try simp only [go_sem, init_env', Nat.reduceEqDiff, Nat.reduceAdd, Nat.reduceMul, reduceIte, Nat.reduceLeDiff, Nat.reduceLT, Nat.reduceBEq, reduceCtorEq, hP, map_getD h, Int.ofNat_lt, h, Int.natCast_nonneg, Side.cds, partsC, w1, w2, ed, w3, ha0]); (repeat (refine And.intro (by first | omega | (intros; simp_all; done) | (intros; simp_all; omega)) ?_))))
          have hcb := cents_bd hW hm
          have hpt := hW.hr.part _ hm
          have hls := lostV_succ h
          generalize r.sides[k].parts = Ps at *
          generalize moneyOf r r.sides[k] = M at *
          have hkS := h
          refine WV_loopK K40_2 [11, 8, 4] (fun j : Nat => j ≤ Ps.length) (fun j => Ps.length - j) (fun j => [(41, iv j), (6, iv (lostV r k - cents M (Ps.take j)))]) (fun _ => [(8, .box [iv r.sides[k].plays, .c (.sl 2 (Ps.map Part.cds))]), (4, .box [.c (ints (wts r)), iv (allW r)])]) 0 (Nat.zero_le _) ?_ ?_
          · (refine Sub_of (by simp only [go_sem, init_env', Nat.reduceEqDiff, Nat.reduceAdd, Nat.reduceMul, reduceIte, Nat.reduceLeDiff, Nat.reduceLT, Nat.reduceBEq, reduceCtorEq]; ((repeat' (first | exact EnvLe_e0 _ _ | refine EnvLe_upd ?_ ?_)) <;> ((try simp only [upd_app, e0_app, o0_app, Nat.reduceEqDiff, reduceIte]); first | exact AWk.refl _ _ | exact AWk.int (by omega) | exact AWk.int (by rw [w64 (by omega) (by omega)]; omega) | exact AWk.grow rfl | exact AWk.nil _ | exact AWk.of (by simp [cents])))) (by simp only [go_sem, init_env', Nat.reduceEqDiff, Nat.reduceAdd, Nat.reduceMul, reduceIte, Nat.reduceLeDiff, Nat.reduceLT, Nat.reduceBEq, reduceCtorEq]; ((repeat' (first | exact ObjLe_o0 _ | exact ObjLe.rfl' _ | refine ObjLe_same ?_ | refine ObjLe_upd ?_ ?_ | refine ObjLe_new rfl ?_)) <;> rfl)))
          · intro j hj
            have hc1 := hcb j
            simp only [go_sem, init_env', Nat.reduceEqDiff, Nat.reduceAdd, Nat.reduceMul, reduceIte, Nat.reduceLeDiff, Nat.reduceLT, Nat.reduceBEq, reduceCtorEq]
            (repeat ((first | refine WV_seq_ ?_ | refine WV_block ?_ | refine WV_ops ?_ | refine WV_skip ?_ | refine WV_exit ?_); (try simp only [go_sem, init_env', Nat.reduceEqDiff, Nat.reduceAdd, Nat.reduceMul, reduceIte, Nat.reduceLeDiff, Nat.reduceLT, Nat.reduceBEq, reduceCtorEq, hP, ]); (repeat (refine And.intro (by first | omega | (intros; simp_all; done) | (intros; simp_all; omega)) ?_))))
            (refine WV_cond rfl (fun h => ?_) (fun h => ?_))
            · have h' : j < Ps.length := by simpa using h
              have hpj := hpt _ (List.getElem_mem h')
              have hmm := mul_small (⟨hmo.1, hmo.2.1⟩ : 0 ≤ M ∧ M ≤ 9998000100) (⟨by omega, hpj.2.2.2⟩ : 0 ≤ Ps[j].pc ∧ Ps[j].pc ≤ 100)
              have hc2 := hcb (j + 1)
              have ecs : cents M (Ps.take (j + 1)) = cents M (Ps.take j) + M * Ps[j].pc / 100 := by
                unfold cents
                rw [List.take_succ_eq_append_getElem h', List.map_append, List.sum_append]
                simp
              have w4 := w64 (n := M * Ps[j].pc) (by omega) (by omega)
              have ed2 : (M * Ps[j].pc).tdiv 100 = M * Ps[j].pc / 100 := Int.tdiv_eq_ediv_of_nonneg hmm.1
              have w5 := w64 (n := M * Ps[j].pc / 100) (by omega) (by omega)
              have w6 := w64 (n := lostV r k - cents M (Ps.take j) - M * Ps[j].pc / 100) (by omega) (by omega)
              have w7 := w64 (n := (j : Int) + 1) (by omega) (by omega)
              have h100 : ((100 : Int) = 0) = False := by simp
              (repeat ((first | refine WV_seq_ ?_ | refine WV_block ?_ | refine WV_ops ?_ | refine WV_skip ?_ | refine WV_exit ?_); (try simp only [go_sem, init_env', Nat.reduceEqDiff, Nat.reduceAdd, Nat.reduceMul, reduceIte, Nat.reduceLeDiff, Nat.reduceLT, Nat.reduceBEq, reduceCtorEq, hP, map_getD h', Int.ofNat_lt, h', Int.natCast_nonneg, Part.cds, w4, ed2, w5, w6, w7, h100]); (repeat (refine And.intro (by first | omega | (intros; simp_all; done) | (intros; simp_all; omega)) ?_))))
              refine ⟨j + 1, by omega, by omega, ?_⟩
              rw [ecs]
              (refine Sub_of (by simp only [go_sem, init_env', Nat.reduceEqDiff, Nat.reduceAdd, Nat.reduceMul, reduceIte, Nat.reduceLeDiff, Nat.reduceLT, Nat.reduceBEq, reduceCtorEq]; ((repeat' (first | exact EnvLe_e0 _ _ | refine EnvLe_upd ?_ ?_)) <;> ((try simp only [upd_app, e0_app, o0_app, Nat.reduceEqDiff, reduceIte]); first | exact AWk.refl _ _ | exact AWk.int (by omega) | exact AWk.int (by rw [w64 (by omega) (by omega)]; omega) | exact AWk.grow rfl | exact AWk.nil _ | exact AWk.of (by (simp; try omega))))) (by simp only [go_sem, init_env', Nat.reduceEqDiff, Nat.reduceAdd, Nat.reduceMul, reduceIte, Nat.reduceLeDiff, Nat.reduceLT, Nat.reduceBEq, reduceCtorEq]; ((repeat' (first | exact ObjLe_o0 _ | exact ObjLe.rfl' _ | refine ObjLe_same ?_ | refine ObjLe_upd ?_ ?_ | refine ObjLe_new rfl ?_)) <;> rfl)))
            · have h' : j = Ps.length := by simp at h; omega
              subst h'
              have w7 := w64 (n := (k : Int) + 1) (by omega) (by omega)
              (repeat ((first | refine WV_seq_ ?_ | refine WV_block ?_ | refine WV_ops ?_ | refine WV_skip ?_ | refine WV_exit ?_); (try simp only [go_sem, init_env', Nat.reduceEqDiff, Nat.reduceAdd, Nat.reduceMul, reduceIte, Nat.reduceLeDiff, Nat.reduceLT, Nat.reduceBEq, reduceCtorEq, hP, w7]); (repeat (refine And.intro (by first | omega | (intros; simp_all; done) | (intros; simp_all; omega)) ?_))))
              refine ⟨k + 1, by omega, by omega, ?_⟩
              rw [hls, List.take_length]
              (refine Sub_of (by simp only [go_sem, init_env', Nat.reduceEqDiff, Nat.reduceAdd, Nat.reduceMul, reduceIte, Nat.reduceLeDiff, Nat.reduceLT, Nat.reduceBEq, reduceCtorEq]; ((repeat' (first | exact EnvLe_e0 _ _ | refine EnvLe_upd ?_ ?_)) <;> ((try simp only [upd_app, e0_app, o0_app, Nat.reduceEqDiff, reduceIte]); first | exact AWk.refl _ _ | exact AWk.int (by omega) | exact AWk.int (by rw [w64 (by omega) (by omega)]; omega) | exact AWk.grow rfl | exact AWk.nil _ | exact AWk.of (by simp)))) (by simp only [go_sem, init_env', Nat.reduceEqDiff, Nat.reduceAdd, Nat.reduceMul, reduceIte, Nat.reduceLeDiff, Nat.reduceLT, Nat.reduceBEq, reduceCtorEq]; ((repeat' (first | exact ObjLe_o0 _ | exact ObjLe.rfl' _ | refine ObjLe_same ?_ | refine ObjLe_upd ?_ ?_ | refine ObjLe_new rfl ?_)) <;> rfl)))
        · have h : k = r.sides.length := by simp at h; omega
          subst h
          (repeat ((first | refine WV_seq_ ?_ | refine WV_block ?_ | refine WV_ops ?_ | refine WV_skip ?_ | refine WV_exit ?_); (try simp only [go_sem, init_env', Nat.reduceEqDiff, Nat.reduceAdd, Nat.reduceMul, reduceIte, Nat.reduceLeDiff, Nat.reduceLT, Nat.reduceBEq, reduceCtorEq, hP, ]); (repeat (refine And.intro (by first | omega | (intros; simp_all; done) | (intros; simp_all; omega)) ?_))))
          (refine WV_ret ?_; simp only [thenQ, inQ, RetQ, RetOk, resAll, resA]; simp only [go_sem, init_env', Nat.reduceEqDiff, Nat.reduceAdd, Nat.reduceMul, reduceIte, Nat.reduceLeDiff, Nat.reduceLT, Nat.reduceBEq, reduceCtorEq, tupA, AV.port, AV.portL, exists_eq_left', ]; (first | exact AVle.of rfl | refine AVle.of ?_ | skip))
  · rw [show lostS r = (0, weighE r true) from by unfold lostS; rw [if_neg he]]
    (refine WV_cond rfl (fun h => ?_) (fun h => ?_))
    · (repeat ((first | refine WV_seq_ ?_ | refine WV_block ?_ | refine WV_ops ?_ | refine WV_skip ?_ | refine WV_exit ?_); (try simp only [go_sem, init_env', Nat.reduceEqDiff, Nat.reduceAdd, Nat.reduceMul, reduceIte, Nat.reduceLeDiff, Nat.reduceLT, Nat.reduceBEq, reduceCtorEq, hP, ]); (repeat (refine And.intro (by first | omega | (intros; simp_all; done) | (intros; simp_all; omega)) ?_))))
      (refine WV_ret ?_; simp only [thenQ, inQ, RetQ, RetOk, resAll, resA]; simp only [go_sem, init_env', Nat.reduceEqDiff, Nat.reduceAdd, Nat.reduceMul, reduceIte, Nat.reduceLeDiff, Nat.reduceLT, Nat.reduceBEq, reduceCtorEq, tupA, AV.port, AV.portL, exists_eq_left', ]; (first | exact AVle.of rfl | refine AVle.of ?_ | skip))
    · simp at h; exact absurd h he
end Go.Proofs.Ytnmchaemhjnkgaa

namespace Go.Proofs.Ytnmchaemhjnkgaa
open Go Go.V
@[reducible] def o65_0 : List Ins := [⟨(some 6), .mv (.k (.c (.bool false))), none, true⟩]
@[reducible] def o65_1 : List Ins := [⟨(some 7), .mv (.t 1), none, true⟩,
  ⟨(some 8), .mv (.t 0), none, true⟩,
  ⟨(some 9), .bin .leq (.t 7) (.t 8), none, true⟩,
  ⟨(some 10), .mv (.t 9), none, true⟩,
  ⟨(some 11), .mv (.t 0), (some (10, true)), true⟩,
  ⟨(some 12), .mv (.t 2), (some (10, true)), true⟩,
  ⟨(some 13), .bin .leq (.t 11) (.t 12), (some (10, true)), true⟩,
  ⟨(some 14), .pick (.t 10) (.t 13) (.k (.c (.bool false))), none, true⟩,
  ⟨(some 6), .mv (.t 14), none, true⟩]
@[reducible] def v65_2 : VC := (.seq (.ops o65_1) .ret)
def ir65 : FC := ⟨3, 15, [.t 6], (.seq (.ops o65_0) v65_2)⟩
@[reducible] def o47_0 : List Ins := [⟨(some 6), .mv (.k (.c (.bool false))), none, true⟩]
@[reducible] def o47_1 : List Ins := [⟨(some 7), .mv (.t 0), none, true⟩,
  ⟨(some 8), .mv (.t 1), none, true⟩,
  ⟨(some 9), .mv (.t 2), none, true⟩,
  ⟨(some 10), .call (.k (.fn 65 [])) [(.t 7), (.t 8), (.t 9)], none, true⟩,
  ⟨(some 6), .mv (.t 10), none, true⟩]
@[reducible] def v47_2 : VC := (.seq (.ops o47_1) .ret)
def ir47 : FC := ⟨3, 11, [.t 6], (.seq (.ops o47_0) v47_2)⟩
@[reducible] def o34_0 : List Ins := [⟨(some 4), .mv (.k (.c (.bool false))), none, true⟩]
@[reducible] def o34_1 : List Ins := [⟨(some 6), .mv (.t 0), none, true⟩,
  ⟨(some 7), .len (.t 6), none, true⟩,
  ⟨(some 8), .mv (.t 1), none, true⟩,
  ⟨(some 9), .len (.t 8), none, true⟩,
  ⟨(some 10), .bin .neq (.t 7) (.t 9), none, true⟩]
@[reducible] def o34_2 : List Ins := [⟨(some 4), .mv (.k (.c (.bool false))), none, true⟩]
@[reducible] def v34_3 : VC := (.seq (.ops o34_2) .ret)
@[reducible] def v34_4 : VC := (.cond (.t 10) v34_3 .skip)
@[reducible] def o34_5 : List Ins := [⟨(some 5), .mv (.k (.c (.int .i64 0))), none, true⟩]
@[reducible] def o34_6 : List Ins := [⟨(some 11), .mv (.t 5), none, true⟩,
  ⟨(some 12), .mv (.t 0), none, true⟩,
  ⟨(some 13), .len (.t 12), none, true⟩,
  ⟨(some 14), .bin .lss (.t 11) (.t 13), none, true⟩]
@[reducible] def v34_7 : VC := (.cond (.t 14) .skip (.exit 0))
@[reducible] def o34_8 : List Ins := [⟨(some 17), .mv (.t 0), none, false⟩,
  ⟨(some 18), .mv (.t 5), none, false⟩,
  ⟨(some 19), .ia 1 (.t 17) (.t 18), none, false⟩,
  ⟨(some 20), .ld true 1 (.t 19), none, false⟩,
  ⟨(some 21), .mv (.t 1), none, false⟩,
  ⟨(some 22), .mv (.t 5), none, false⟩,
  ⟨(some 23), .ia 1 (.t 21) (.t 22), none, false⟩,
  ⟨(some 24), .ld true 1 (.t 23), none, false⟩,
  ⟨(some 25), .bin .neq (.t 20) (.t 24), none, true⟩]
@[reducible] def o34_9 : List Ins := [⟨(some 4), .mv (.k (.c (.bool false))), none, true⟩]
@[reducible] def v34_10 : VC := (.seq (.ops o34_9) .ret)
@[reducible] def v34_11 : VC := (.cond (.t 25) v34_10 .skip)
@[reducible] def v34_12 : VC := (.seq (.ops o34_8) v34_11)
@[reducible] def o34_13 : List Ins := [⟨(some 15), .mv (.t 5), none, true⟩,
  ⟨(some 16), .bin .add (.t 15) (.k (.c (.int .i64 1))), none, true⟩,
  ⟨(some 5), .mv (.t 16), none, true⟩]
@[reducible] def v34_14 : VC := (.seq (.block 1 v34_12) (.ops o34_13))
@[reducible] def v34_15 : VC := (.seq (.seq (.ops o34_6) v34_7) v34_14)
-- K34_1: changed and kept: [5]
@[reducible] def K34_1 : List Nat := [0, 1]
@[reducible] def v34_16 : VC := (.loop v34_15)
@[reducible] def v34_17 : VC := (.block 0 v34_16)
@[reducible] def o34_18 : List Ins := [⟨(some 4), .mv (.k (.c (.bool true))), none, true⟩]
@[reducible] def v34_19 : VC := (.seq (.ops o34_18) .ret)
@[reducible] def v34_20 : VC := (.seq (.seq (.ops o34_5) v34_17) v34_19)
@[reducible] def v34_21 : VC := (.seq (.seq (.ops o34_1) v34_4) v34_20)
def ir34 : FC := ⟨2, 26, [.t 4], (.seq (.ops o34_0) v34_21)⟩
@[reducible] def o19_0 : List Ins := [⟨(some 2), .box 3 (.t 0), none, true⟩,
  ⟨(some 4), .mv (.k (.c (.bool false))), none, true⟩]
@[reducible] def o19_1 : List Ins := [⟨(some 5), .mv (.t 1), none, true⟩,
  ⟨(some 6), .fa 2 (.t 2), none, true⟩,
  ⟨(some 7), .ld true 1 (.t 6), none, true⟩,
  ⟨(some 8), .len (.t 7), none, true⟩,
  ⟨(some 9), .bin .sub (.t 8) (.k (.c (.int .i64 1))), none, true⟩,
  ⟨(some 10), .call (.k (.fn 47 [])) [(.t 5), (.k (.c (.int .i64 0))), (.t 9)], none, true⟩,
  ⟨(some 4), .mv (.t 10), none, true⟩]
@[reducible] def v19_2 : VC := (.seq (.ops o19_1) .ret)
def ir19 : FC := ⟨2, 11, [.t 4], (.seq (.ops o19_0) v19_2)⟩
@[reducible] def o54_0 : List Ins := [⟨(some 2), .box 3 (.t 0), none, true⟩,
  ⟨(some 3), .box 2 (.t 1), none, true⟩,
  ⟨(some 4), .mv (.k (.c (.bool false))), none, true⟩]
@[reducible] def o54_1 : List Ins := [⟨(some 5), .mv (.k (.c (.int .i64 0))), none, true⟩]
@[reducible] def o54_2 : List Ins := [⟨(some 6), .mv (.k (.c (.int .i64 0))), none, true⟩]
@[reducible] def o54_3 : List Ins := [⟨(some 8), .mv (.t 6), none, true⟩,
  ⟨(some 9), .fa 1 (.t 3), none, true⟩,
  ⟨(some 10), .ld true 1 (.t 9), none, true⟩,
  ⟨(some 11), .len (.t 10), none, true⟩,
  ⟨(some 12), .bin .lss (.t 8) (.t 11), none, true⟩]
@[reducible] def v54_4 : VC := (.cond (.t 12) .skip (.exit 0))
@[reducible] def o54_5 : List Ins := [⟨(some 15), .fa 1 (.t 3), none, true⟩,
  ⟨(some 16), .ld true 1 (.t 15), none, true⟩,
  ⟨(some 17), .mv (.t 6), none, true⟩,
  ⟨(some 18), .ia 2 (.t 16) (.t 17), none, true⟩,
  ⟨(some 19), .ld false 2 (.t 18), none, true⟩,
  ⟨(some 7), .alloc [(.c (.int .i64 0)), (.c (.int .i64 0))], none, true⟩,
  ⟨none, .st 2 (.t 7) (.t 19), none, true⟩]
@[reducible] def o54_6 : List Ins := [⟨(some 20), .ld false 3 (.t 2), none, false⟩,
  ⟨(some 21), .fa 0 (.t 7), none, false⟩,
  ⟨(some 22), .ld true 1 (.t 21), none, false⟩,
  ⟨(some 23), .call (.k (.fn 19 [])) [(.t 20), (.t 22)], none, true⟩,
  ⟨(some 24), .un .not (.t 23), none, true⟩,
  ⟨(some 25), .mv (.t 24), none, true⟩,
  ⟨(some 26), .mv (.t 6), (some (25, false)), true⟩,
  ⟨(some 27), .bin .gtr (.t 26) (.k (.c (.int .i64 0))), (some (25, false)), true⟩,
  ⟨(some 28), .mv (.t 27), (some (25, false)), true⟩,
  ⟨(some 29), .fa 0 (.t 7), (some (28, true)), false⟩,
  ⟨(some 30), .ld true 1 (.t 29), (some (28, true)), false⟩,
  ⟨(some 31), .fa 1 (.t 3), (some (28, true)), false⟩,
  ⟨(some 32), .ld true 1 (.t 31), (some (28, true)), false⟩,
  ⟨(some 33), .mv (.t 6), (some (28, true)), false⟩,
  ⟨(some 34), .bin .sub (.t 33) (.k (.c (.int .i64 1))), (some (28, true)), false⟩,
  ⟨(some 35), .ia 2 (.t 32) (.t 34), (some (28, true)), false⟩,
  ⟨(some 36), .fa 0 (.t 35), (some (28, true)), false⟩,
  ⟨(some 37), .ld true 1 (.t 36), (some (28, true)), false⟩,
  ⟨(some 38), .bin .leq (.t 30) (.t 37), (some (28, true)), true⟩,
  ⟨(some 39), .pick (.t 28) (.t 38) (.k (.c (.bool false))), (some (25, false)), true⟩,
  ⟨(some 40), .pick (.t 25) (.k (.c (.bool true))) (.t 39), none, true⟩,
  ⟨(some 41), .mv (.t 40), none, true⟩,
  ⟨(some 42), .fa 1 (.t 7), (some (41, false)), true⟩,
  ⟨(some 43), .ld true 1 (.t 42), (some (41, false)), true⟩,
  ⟨(some 44), .call (.k (.fn 47 [])) [(.t 43), (.k (.c (.int .i64 1))), (.k (.c (.int .i64 100)))], (some (41, false)), true⟩,
  ⟨(some 45), .un .not (.t 44), (some (41, false)), true⟩,
  ⟨(some 46), .pick (.t 41) (.k (.c (.bool true))) (.t 45), none, true⟩]
@[reducible] def o54_7 : List Ins := [⟨(some 4), .mv (.k (.c (.bool false))), none, true⟩]
@[reducible] def v54_8 : VC := (.seq (.ops o54_7) .ret)
@[reducible] def v54_9 : VC := (.cond (.t 46) v54_8 .skip)
@[reducible] def o54_10 : List Ins := [⟨(some 47), .mv (.t 5), none, true⟩,
  ⟨(some 48), .fa 1 (.t 7), none, true⟩,
  ⟨(some 49), .ld true 1 (.t 48), none, true⟩,
  ⟨(some 50), .bin .add (.t 47) (.t 49), none, true⟩,
  ⟨(some 5), .mv (.t 50), none, true⟩]
@[reducible] def v54_11 : VC := (.seq (.seq (.ops o54_6) v54_9) (.ops o54_10))
@[reducible] def v54_12 : VC := (.seq (.ops o54_5) v54_11)
@[reducible] def o54_13 : List Ins := [⟨(some 13), .mv (.t 6), none, true⟩,
  ⟨(some 14), .bin .add (.t 13) (.k (.c (.int .i64 1))), none, true⟩,
  ⟨(some 6), .mv (.t 14), none, true⟩]
@[reducible] def v54_14 : VC := (.seq (.block 1 v54_12) (.ops o54_13))
@[reducible] def v54_15 : VC := (.seq (.seq (.ops o54_3) v54_4) v54_14)
-- K54_1: changed and kept: [6, 5]
@[reducible] def K54_1 : List Nat := [2, 3]
@[reducible] def v54_16 : VC := (.loop v54_15)
@[reducible] def v54_17 : VC := (.block 0 v54_16)
@[reducible] def o54_18 : List Ins := [⟨(some 51), .fa 0 (.t 3), none, true⟩,
  ⟨(some 52), .ld true 1 (.t 51), none, true⟩,
  ⟨(some 53), .call (.k (.fn 47 [])) [(.t 52), (.k (.c (.int .i64 0))), (.k (.c (.int .i64 9999)))], none, true⟩,
  ⟨(some 54), .mv (.t 53), none, true⟩,
  ⟨(some 55), .mv (.t 5), (some (54, true)), true⟩,
  ⟨(some 56), .bin .eql (.t 55) (.k (.c (.int .i64 100))), (some (54, true)), true⟩,
  ⟨(some 57), .pick (.t 54) (.t 56) (.k (.c (.bool false))), none, true⟩,
  ⟨(some 4), .mv (.t 57), none, true⟩]
@[reducible] def v54_19 : VC := (.seq (.ops o54_18) .ret)
@[reducible] def v54_20 : VC := (.seq (.seq (.ops o54_2) v54_17) v54_19)
@[reducible] def v54_21 : VC := (.seq (.ops o54_1) v54_20)
def ir54 : FC := ⟨2, 58, [.t 4], (.seq (.ops o54_0) v54_21)⟩
theorem c65 : compM Try.prog [] 65 = some ir65 := by kernel_rfl
theorem c47 : compM Try.prog [] 47 = some ir47 := by kernel_rfl
theorem c34 : compM Try.prog [] 34 = some ir34 := by kernel_rfl
theorem c19 : compM Try.prog [] 19 = some ir19 := by kernel_rfl
theorem c54 : compM Try.prog [] 54 = some ir54 := by kernel_rfl



theorem wi65 (a b c : Int) : FSpec Try.prog 65 [iv a, iv b, iv c] (.c (.bool (within a b c))) := by
  refine FSpec_of c65 (Nat.le_refl _) (by decide) fun C hP hN hC hL => ?_
  simp only [ir65]
  (repeat ((first | refine WV_seq_ ?_ | refine WV_block ?_ | refine WV_ops ?_ | refine WV_skip ?_ | refine WV_exit ?_); (try simp only [go_sem, init_env', Nat.reduceEqDiff, Nat.reduceAdd, Nat.reduceMul, reduceIte, Nat.reduceLeDiff, Nat.reduceLT, Nat.reduceBEq, reduceCtorEq, hP, ]); (repeat (refine And.intro (by first | omega | (intros; simp_all; done) | (intros; simp_all; omega)) ?_))))
  (refine WV_ret ?_; simp only [thenQ, inQ, RetQ, RetOk, resAll, resA]; simp only [go_sem, init_env', Nat.reduceEqDiff, Nat.reduceAdd, Nat.reduceMul, reduceIte, Nat.reduceLeDiff, Nat.reduceLT, Nat.reduceBEq, reduceCtorEq, tupA, AV.port, AV.portL, exists_eq_left', ]; (first | exact AVle.of rfl | refine AVle.of ?_ | skip))
theorem wi47 (a b c : Int) : FSpec Try.prog 47 [iv a, iv b, iv c] (.c (.bool (within a b c))) := by
  refine FSpec_of c47 (Nat.le_refl _) (by decide) fun C hP hN hC hL => ?_
  simp only [ir47]
  (repeat ((first | refine WV_seq_ ?_ | refine WV_block ?_ | refine WV_ops ?_ | refine WV_skip ?_ | refine WV_exit ?_); (try simp only [go_sem, init_env', Nat.reduceEqDiff, Nat.reduceAdd, Nat.reduceMul, reduceIte, Nat.reduceLeDiff, Nat.reduceLT, Nat.reduceBEq, reduceCtorEq, hP, ]); (repeat (refine And.intro (by first | omega | (intros; simp_all; done) | (intros; simp_all; omega)) ?_))))
  (refine AS_pure (wi65 _ _ _) rfl rfl rfl rfl rfl ?_; simp only [go_sem, init_env', Nat.reduceEqDiff, Nat.reduceAdd, Nat.reduceMul, reduceIte, Nat.reduceLeDiff, Nat.reduceLT, Nat.reduceBEq, reduceCtorEq, hP, ]; (repeat (refine And.intro (by first | omega | (intros; simp_all; done) | (intros; simp_all; omega)) ?_)); (repeat ((first | refine WV_seq_ ?_ | refine WV_block ?_ | refine WV_ops ?_ | refine WV_skip ?_ | refine WV_exit ?_); (try simp only [go_sem, init_env', Nat.reduceEqDiff, Nat.reduceAdd, Nat.reduceMul, reduceIte, Nat.reduceLeDiff, Nat.reduceLT, Nat.reduceBEq, reduceCtorEq, hP, ]); (repeat (refine And.intro (by first | omega | (intros; simp_all; done) | (intros; simp_all; omega)) ?_)))))
  (refine WV_ret ?_; simp only [thenQ, inQ, RetQ, RetOk, resAll, resA]; simp only [go_sem, init_env', Nat.reduceEqDiff, Nat.reduceAdd, Nat.reduceMul, reduceIte, Nat.reduceLeDiff, Nat.reduceLT, Nat.reduceBEq, reduceCtorEq, tupA, AV.port, AV.portL, exists_eq_left', ]; (first | exact AVle.of rfl | refine AVle.of ?_ | skip))
theorem same34 (l m : List Int) : FSpec Try.prog 34 [.c (ints l), .c (ints m)] (.c (.bool (decide (l = m)))) := by
  refine FSpec_of c34 (Nat.le_refl _) (by decide) fun C hP hN hC hL => ?_
  have hl : l.length ≤ 9223372036854775807 := by simp only [AV.lensL, AV.lens] at hL; exact ints_lens hL.1
  simp only [ir34]
  (refine WV_seq_ (WV_ops ?_); simp only [go_sem, init_env', Nat.reduceEqDiff, Nat.reduceAdd, Nat.reduceMul, reduceIte, Nat.reduceLeDiff, Nat.reduceLT, Nat.reduceBEq, reduceCtorEq, hP, ]; (repeat (refine And.intro (by first | omega | (intros; simp_all; done) | (intros; simp_all; omega)) ?_)))
  refine WV_seq_ (WV_seq_ (WV_ops ?_))
  simp only [go_sem, init_env', Nat.reduceEqDiff, Nat.reduceAdd, Nat.reduceMul, reduceIte, Nat.reduceLeDiff, Nat.reduceLT, Nat.reduceBEq, reduceCtorEq, hP, ints]
  (refine WV_cond rfl (fun h => ?_) (fun h => ?_))
  · simp only [ibne, Bool.not_eq_true', beq_eq_false_iff_ne] at h
    (refine WV_seq_ (WV_ops ?_); simp only [go_sem, init_env', Nat.reduceEqDiff, Nat.reduceAdd, Nat.reduceMul, reduceIte, Nat.reduceLeDiff, Nat.reduceLT, Nat.reduceBEq, reduceCtorEq, hP, ]; (repeat (refine And.intro (by first | omega | (intros; simp_all; done) | (intros; simp_all; omega)) ?_)))
    (refine WV_ret ?_; simp only [thenQ, inQ, RetQ, RetOk, resAll, resA]; simp only [go_sem, init_env', Nat.reduceEqDiff, Nat.reduceAdd, Nat.reduceMul, reduceIte, Nat.reduceLeDiff, Nat.reduceLT, Nat.reduceBEq, reduceCtorEq, tupA, AV.port, AV.portL, exists_eq_left', ]; (first | exact AVle.of rfl | refine AVle.of ?_ | skip))
    simp only [show l ≠ m from fun e => h (by rw [e]), decide_false]
  · simp only [ibne, Bool.not_eq_false', beq_iff_eq] at h
    (refine WV_skip ?_; simp only [go_sem, init_env', Nat.reduceEqDiff, Nat.reduceAdd, Nat.reduceMul, reduceIte, Nat.reduceLeDiff, Nat.reduceLT, Nat.reduceBEq, reduceCtorEq])
    refine WV_seq_ (WV_seq_ (WV_ops ?_))
    simp only [go_sem, init_env', Nat.reduceEqDiff, Nat.reduceAdd, Nat.reduceMul, reduceIte, Nat.reduceLeDiff, Nat.reduceLT, Nat.reduceBEq, reduceCtorEq, hP]
    refine WV_block ?_
    (refine WV_loopK K34_1 [] (fun k : Nat => k ≤ l.length ∧ l.take k = m.take k) (fun k => l.length - k) (fun k => [(5, iv k)]) (fun _ => []) 0 ⟨Nat.zero_le _, by simp⟩ ?_ ?_)
    · (refine Sub_of (by simp only [go_sem, init_env', Nat.reduceEqDiff, Nat.reduceAdd, Nat.reduceMul, reduceIte, Nat.reduceLeDiff, Nat.reduceLT, Nat.reduceBEq, reduceCtorEq]; ((repeat' (first | exact EnvLe_e0 _ _ | refine EnvLe_upd ?_ ?_)) <;> ((try simp only [upd_app, e0_app, o0_app, Nat.reduceEqDiff, reduceIte]); first | exact AWk.refl _ _ | exact AWk.int (by omega) | exact AWk.int (by rw [w64 (by omega) (by omega)]; omega) | exact AWk.grow rfl | exact AWk.nil _ | exact AWk.of (by simp)))) (by simp only [go_sem, init_env', Nat.reduceEqDiff, Nat.reduceAdd, Nat.reduceMul, reduceIte, Nat.reduceLeDiff, Nat.reduceLT, Nat.reduceBEq, reduceCtorEq]; ((repeat' (first | exact ObjLe_o0 _ | exact ObjLe.rfl' _ | refine ObjLe_same ?_ | refine ObjLe_upd ?_ ?_ | refine ObjLe_new rfl ?_)) <;> rfl)))
    · intro k ⟨hk, hn⟩
      simp only [go_sem, init_env', Nat.reduceEqDiff, Nat.reduceAdd, Nat.reduceMul, reduceIte, Nat.reduceLeDiff, Nat.reduceLT, Nat.reduceBEq, reduceCtorEq]
      refine WV_seq_ (WV_seq_ (WV_ops ?_))
      simp only [go_sem, init_env', Nat.reduceEqDiff, Nat.reduceAdd, Nat.reduceMul, reduceIte, Nat.reduceLeDiff, Nat.reduceLT, Nat.reduceBEq, reduceCtorEq, hP]
      (refine WV_cond rfl (fun h => ?_) (fun h => ?_))
      · simp only [decide_eq_true_eq, Int.ofNat_lt] at h
        rename_i hlm
        have h' : k < m.length := by omega
        (refine WV_skip ?_; simp only [go_sem, init_env', Nat.reduceEqDiff, Nat.reduceAdd, Nat.reduceMul, reduceIte, Nat.reduceLeDiff, Nat.reduceLT, Nat.reduceBEq, reduceCtorEq])
        refine WV_seq_ (WV_block (WV_seq_ (WV_ops ?_)))
        simp only [go_sem, init_env', Nat.reduceEqDiff, Nat.reduceAdd, Nat.reduceMul, reduceIte, Nat.reduceLeDiff, Nat.reduceLT, Nat.reduceBEq, reduceCtorEq, hP, ints, Int.toNat_natCast, map_getD h, map_getD h', Int.ofNat_lt, h, h', Int.natCast_nonneg]
        refine WV_cond rfl (fun h2 => ?_) (fun h2 => ?_)
        · (refine WV_seq_ (WV_ops ?_); simp only [go_sem, init_env', Nat.reduceEqDiff, Nat.reduceAdd, Nat.reduceMul, reduceIte, Nat.reduceLeDiff, Nat.reduceLT, Nat.reduceBEq, reduceCtorEq, hP, ]; (repeat (refine And.intro (by first | omega | (intros; simp_all; done) | (intros; simp_all; omega)) ?_)))
          simp only [bne_iff_ne, ne_eq] at h2
          have : l ≠ m := by rintro rfl; exact h2 rfl
          (refine WV_ret ?_; simp only [thenQ, inQ, RetQ, RetOk, resAll, resA]; simp only [go_sem, init_env', Nat.reduceEqDiff, Nat.reduceAdd, Nat.reduceMul, reduceIte, Nat.reduceLeDiff, Nat.reduceLT, Nat.reduceBEq, reduceCtorEq, tupA, AV.port, AV.portL, exists_eq_left', ]; (first | exact AVle.of rfl | refine AVle.of ?_ | skip))
          simp [this]
        · (refine WV_skip ?_; simp only [go_sem, init_env', Nat.reduceEqDiff, Nat.reduceAdd, Nat.reduceMul, reduceIte, Nat.reduceLeDiff, Nat.reduceLT, Nat.reduceBEq, reduceCtorEq])
          (refine WV_ops ?_; simp only [go_sem, init_env', Nat.reduceEqDiff, Nat.reduceAdd, Nat.reduceMul, reduceIte, Nat.reduceLeDiff, Nat.reduceLT, Nat.reduceBEq, reduceCtorEq, hP, ]; (repeat (refine And.intro (by first | omega | (intros; simp_all; done) | (intros; simp_all; omega)) ?_)))
          simp only [bne_eq_false_iff_eq] at h2
          refine ⟨k + 1, ⟨by omega, by rw [List.take_succ_eq_append_getElem h, List.take_succ_eq_append_getElem h', hn, h2]⟩, by omega, ?_⟩
          (refine Sub_of (by simp only [go_sem, init_env', Nat.reduceEqDiff, Nat.reduceAdd, Nat.reduceMul, reduceIte, Nat.reduceLeDiff, Nat.reduceLT, Nat.reduceBEq, reduceCtorEq]; ((repeat' (first | exact EnvLe_e0 _ _ | refine EnvLe_upd ?_ ?_)) <;> ((try simp only [upd_app, e0_app, o0_app, Nat.reduceEqDiff, reduceIte]); first | exact AWk.refl _ _ | exact AWk.int (by omega) | exact AWk.int (by rw [w64 (by omega) (by omega)]; omega) | exact AWk.grow rfl | exact AWk.nil _ | exact AWk.of (by simp)))) (by simp only [go_sem, init_env', Nat.reduceEqDiff, Nat.reduceAdd, Nat.reduceMul, reduceIte, Nat.reduceLeDiff, Nat.reduceLT, Nat.reduceBEq, reduceCtorEq]; ((repeat' (first | exact ObjLe_o0 _ | exact ObjLe.rfl' _ | refine ObjLe_same ?_ | refine ObjLe_upd ?_ ?_ | refine ObjLe_new rfl ?_)) <;> rfl)))
      · simp only [decide_eq_false_iff_not, Int.ofNat_lt] at h
        rename_i hlm
        (refine WV_exit ?_; simp only [go_sem, init_env', Nat.reduceEqDiff, Nat.reduceAdd, Nat.reduceMul, reduceIte, Nat.reduceLeDiff, Nat.reduceLT, Nat.reduceBEq, reduceCtorEq])
        (refine WV_seq_ (WV_ops ?_); simp only [go_sem, init_env', Nat.reduceEqDiff, Nat.reduceAdd, Nat.reduceMul, reduceIte, Nat.reduceLeDiff, Nat.reduceLT, Nat.reduceBEq, reduceCtorEq, hP, ]; (repeat (refine And.intro (by first | omega | (intros; simp_all; done) | (intros; simp_all; omega)) ?_)))
        have : l = m := by rw [List.take_of_length_le (by omega), List.take_of_length_le (by omega)] at hn; exact hn
        (refine WV_ret ?_; simp only [thenQ, inQ, RetQ, RetOk, resAll, resA]; simp only [go_sem, init_env', Nat.reduceEqDiff, Nat.reduceAdd, Nat.reduceMul, reduceIte, Nat.reduceLeDiff, Nat.reduceLT, Nat.reduceBEq, reduceCtorEq, tupA, AV.port, AV.portL, exists_eq_left', ]; (first | exact AVle.of rfl | refine AVle.of ?_ | skip))
        simp [this]


theorem isw19 (r : Royal) (w : Int) : FSpec Try.prog 19 [r.av, iv w] (.c (.bool (isW r w))) := by
  refine FSpec_of c19 (Nat.le_refl _) (by decide) fun C hP hN hC hL => ?_
  obtain ⟨h1, h2, h3⟩ := Royal.lens hL
  simp only [ir19, Royal.av, ints]
  have hw := w64 (n := (r.owed.length : Int) - 1) (by omega) (by omega)
  (repeat ((first | refine WV_seq_ ?_ | refine WV_block ?_ | refine WV_ops ?_ | refine WV_skip ?_ | refine WV_exit ?_); (try simp only [go_sem, init_env', Nat.reduceEqDiff, Nat.reduceAdd, Nat.reduceMul, reduceIte, Nat.reduceLeDiff, Nat.reduceLT, Nat.reduceBEq, reduceCtorEq, hP, hw]); (repeat (refine And.intro (by first | omega | (intros; simp_all; done) | (intros; simp_all; omega)) ?_))))
  (refine AS_pure (wi47 _ _ _) rfl rfl rfl rfl rfl ?_; simp only [go_sem, init_env', Nat.reduceEqDiff, Nat.reduceAdd, Nat.reduceMul, reduceIte, Nat.reduceLeDiff, Nat.reduceLT, Nat.reduceBEq, reduceCtorEq, hP, ]; (repeat (refine And.intro (by first | omega | (intros; simp_all; done) | (intros; simp_all; omega)) ?_)); (repeat ((first | refine WV_seq_ ?_ | refine WV_block ?_ | refine WV_ops ?_ | refine WV_skip ?_ | refine WV_exit ?_); (try simp only [go_sem, init_env', Nat.reduceEqDiff, Nat.reduceAdd, Nat.reduceMul, reduceIte, Nat.reduceLeDiff, Nat.reduceLT, Nat.reduceBEq, reduceCtorEq, hP, ]); (repeat (refine And.intro (by first | omega | (intros; simp_all; done) | (intros; simp_all; omega)) ?_)))))
  (refine WV_ret ?_; simp only [thenQ, inQ, RetQ, RetOk, resAll, resA]; simp only [go_sem, init_env', Nat.reduceEqDiff, Nat.reduceAdd, Nat.reduceMul, reduceIte, Nat.reduceLeDiff, Nat.reduceLT, Nat.reduceBEq, reduceCtorEq, tupA, AV.port, AV.portL, exists_eq_left', ]; (first | exact AVle.of rfl | refine AVle.of ?_ | skip))

theorem bad_eq {r : Royal} {last : Int} {p : Part} {c : Bool} (hc : c = decide (p.who ≤ last) ∨ (last = -1 ∧ c = false)) (hl : -1 ≤ last) : (!isW r p.who || c || !within p.pc 1 100) = partBad r.n last p := by
  unfold isW partBad within
  rw [Bool.eq_iff_iff]
  rcases hc with rfl | ⟨rfl, rfl⟩ <;> simp <;> omega
set_option maxHeartbeats 8000000 in
theorem isside54 (r : Royal) (s : Side) (hn : r.n ≤ 6) : FSpec Try.prog 54 [r.av, .agg [iv s.plays, .c (partsC s.parts)]] (.c (.bool (okSide r.n s))) := by
  have hl0 : s.parts.length ≤ 9223372036854775807 ∨ True := .inr trivial
  refine FSpec_of c54 (Nat.le_refl _) (by decide) fun C hP hN hC hL => ?_
  have hl : s.parts.length ≤ 9223372036854775807 := by
    simp only [AV.lensL, AV.lens] at hL
    exact partsC_lens hL.2.1.2.1
  simp only [ir54, Royal.av]
  (repeat ((first | refine WV_seq_ ?_ | refine WV_block ?_ | refine WV_ops ?_ | refine WV_skip ?_ | refine WV_exit ?_); (try simp only [go_sem, init_env', Nat.reduceEqDiff, Nat.reduceAdd, Nat.reduceMul, reduceIte, Nat.reduceLeDiff, Nat.reduceLT, Nat.reduceBEq, reduceCtorEq, hP, ]); (repeat (refine And.intro (by first | omega | (intros; simp_all; done) | (intros; simp_all; omega)) ?_))))
  generalize hPs : s.parts = l at *
  (refine WV_loopK K54_1 [] (fun k : Nat => k ≤ l.length ∧ sharedB r.n 0 (-1) l = sharedB r.n (sumT l k) (lastT l k) (l.drop k) ∧ 0 ≤ sumT l k ∧ sumT l k ≤ 100 * (lastT l k + 1) ∧ lastT l k < 7 ∧ -1 ≤ lastT l k ∧ (k = 0 → lastT l k = -1)) (fun k => l.length - k) (fun k => [(6, iv k), (5, iv (sumT l k))]) (fun _ => []) 0 ⟨Nat.zero_le _, by simp [sumT, lastT]⟩ ?_ ?_)
  · (refine Sub_of (by simp only [go_sem, init_env', Nat.reduceEqDiff, Nat.reduceAdd, Nat.reduceMul, reduceIte, Nat.reduceLeDiff, Nat.reduceLT, Nat.reduceBEq, reduceCtorEq]; ((repeat' (first | exact EnvLe_e0 _ _ | refine EnvLe_upd ?_ ?_)) <;> ((try simp only [upd_app, e0_app, o0_app, Nat.reduceEqDiff, reduceIte]); first | exact AWk.refl _ _ | exact AWk.int (by omega) | exact AWk.int (by rw [w64 (by omega) (by omega)]; omega) | exact AWk.grow rfl | exact AWk.nil _ | exact AWk.of (by simp [sumT, lastT])))) (by simp only [go_sem, init_env', Nat.reduceEqDiff, Nat.reduceAdd, Nat.reduceMul, reduceIte, Nat.reduceLeDiff, Nat.reduceLT, Nat.reduceBEq, reduceCtorEq]; ((repeat' (first | exact ObjLe_o0 _ | exact ObjLe.rfl' _ | refine ObjLe_same ?_ | refine ObjLe_upd ?_ ?_ | refine ObjLe_new rfl ?_)) <;> rfl)))
  · intro k ⟨hk, h1, h2, h3, h4, h5, h6⟩
    simp only [go_sem, init_env', Nat.reduceEqDiff, Nat.reduceAdd, Nat.reduceMul, reduceIte, Nat.reduceLeDiff, Nat.reduceLT, Nat.reduceBEq, reduceCtorEq, partsC]
    (repeat ((first | refine WV_seq_ ?_ | refine WV_block ?_ | refine WV_ops ?_ | refine WV_skip ?_ | refine WV_exit ?_); (try simp only [go_sem, init_env', Nat.reduceEqDiff, Nat.reduceAdd, Nat.reduceMul, reduceIte, Nat.reduceLeDiff, Nat.reduceLT, Nat.reduceBEq, reduceCtorEq, hP, partsC]); (repeat (refine And.intro (by first | omega | (intros; simp_all; done) | (intros; simp_all; omega)) ?_))))
    (refine WV_cond rfl (fun h => ?_) (fun h => ?_))
    · have h : k < l.length := by simpa using h
      have hs := sumT_succ h
      have ht := lastT_succ h
      have hw2 := w64 (n := (k : Int) + 1) (by omega) (by omega)
      have fin : ∀ b : Bool, b = partBad r.n (lastT l k) l[k] → b = false → sumT l k + l[k].pc ≤ 700 ∧ -700 ≤ sumT l k + l[k].pc ∧ sharedB r.n 0 (-1) l = sharedB r.n (sumT l (k + 1)) (lastT l (k + 1)) (l.drop (k + 1)) ∧ 0 ≤ sumT l (k + 1) ∧ sumT l (k + 1) ≤ 100 * (lastT l (k + 1) + 1) ∧ lastT l (k + 1) < 7 ∧ -1 ≤ lastT l (k + 1) := by
        rintro b rfl hb
        have h7 := hb
        simp only [partBad, within, Bool.or_eq_false_iff, decide_eq_false_iff_not, Bool.not_eq_false', Bool.and_eq_true, decide_eq_true_eq] at h7
        have hn' : (r.n : Int) ≤ 6 := by omega
        refine ⟨by omega, by omega, ?_, by omega, by omega, by omega, by omega⟩
        rw [h1, sharedB_step h hb, hs, ht]
      cases k with
      | zero =>
        have hd0 : decide ((0 : Int) < ((0 : Nat) : Int)) = false := by simp
        have hz : (IntKind.i64.wrap (((0 : Nat) : Int) - 1)).toNat = 0 := by decide
        have hl1 : lastT l 0 = -1 := h6 rfl
        have hz0 : sumT l 0 = 0 := rfl
        (repeat ((first | refine WV_seq_ ?_ | refine WV_block ?_ | refine WV_ops ?_ | refine WV_skip ?_ | refine WV_exit ?_); (try simp only [go_sem, init_env', Nat.reduceEqDiff, Nat.reduceAdd, Nat.reduceMul, reduceIte, Nat.reduceLeDiff, Nat.reduceLT, Nat.reduceBEq, reduceCtorEq, hP, map_getD h, Int.ofNat_lt, h, Int.natCast_nonneg, Part.cds]); (repeat (refine And.intro (by first | omega | (intros; simp_all; done) | (intros; simp_all; omega)) ?_))))
        refine AS_pure (isw19 r l[0].who) rfl rfl rfl rfl rfl ?_
        have hb := bad_eq (r := r) (last := lastT l 0) (p := l[0]) (c := false) (.inr ⟨hl1, rfl⟩) (by omega)
        simp only [Bool.or_false] at hb
        generalize isW r l[0].who = wv at *
        cases wv
        · simp only [go_sem, init_env', Nat.reduceEqDiff, Nat.reduceAdd, Nat.reduceMul, reduceIte, Nat.reduceLeDiff, Nat.reduceLT, Nat.reduceBEq, reduceCtorEq, hP, hd0, hz, map_getD h, Part.cds]
          (repeat (refine And.intro (by first | omega | (intros; simp_all; done) | (intros; simp_all; omega)) ?_))
          (repeat ((first | refine WV_seq_ ?_ | refine WV_block ?_ | refine WV_ops ?_ | refine WV_skip ?_ | refine WV_exit ?_); (try simp only [go_sem, init_env', Nat.reduceEqDiff, Nat.reduceAdd, Nat.reduceMul, reduceIte, Nat.reduceLeDiff, Nat.reduceLT, Nat.reduceBEq, reduceCtorEq, hP, hd0, hz, map_getD h, Part.cds]); (repeat (refine And.intro (by first | omega | (intros; simp_all; done) | (intros; simp_all; omega)) ?_))))
          (refine AG_pure (fun hG => wi47 _ _ _) rfl (fun hG => by first | (simp only [go_sem, init_env', Nat.reduceEqDiff, Nat.reduceAdd, Nat.reduceMul, reduceIte, Nat.reduceLeDiff, Nat.reduceLT, Nat.reduceBEq, reduceCtorEq, hG]; done) | (simp only [go_sem, init_env', Nat.reduceEqDiff, Nat.reduceAdd, Nat.reduceMul, reduceIte, Nat.reduceLeDiff, Nat.reduceLT, Nat.reduceBEq, reduceCtorEq]; revert hG; simp; done) | (simp only [go_sem, init_env', Nat.reduceEqDiff, Nat.reduceAdd, Nat.reduceMul, reduceIte, Nat.reduceLeDiff, Nat.reduceLT, Nat.reduceBEq, reduceCtorEq, hG]; simp_all; done) | (revert hG; simp; done) | simp_all) rfl rfl rfl ?_; simp only [go_sem, init_env', Nat.reduceEqDiff, Nat.reduceAdd, Nat.reduceMul, reduceIte, Nat.reduceLeDiff, Nat.reduceLT, Nat.reduceBEq, reduceCtorEq, hP, ]; (repeat (refine And.intro (by first | omega | (intros; simp_all; done) | (intros; simp_all; omega)) ?_)); (repeat ((first | refine WV_seq_ ?_ | refine WV_block ?_ | refine WV_ops ?_ | refine WV_skip ?_ | refine WV_exit ?_); (try simp only [go_sem, init_env', Nat.reduceEqDiff, Nat.reduceAdd, Nat.reduceMul, reduceIte, Nat.reduceLeDiff, Nat.reduceLT, Nat.reduceBEq, reduceCtorEq, hP, ]); (repeat (refine And.intro (by first | omega | (intros; simp_all; done) | (intros; simp_all; omega)) ?_)))))
          refine WV_cond (b := partBad r.n (lastT l (0)) l[0]) (by rw [← hb]; first | rfl | (cases within l[0].pc 1 100 <;> rfl) | (cases within l[0].pc 1 100 <;> cases decide (l[0].who ≤ (l.getD (0 - 1) default).who) <;> rfl)) (fun h8 => ?_) (fun h8 => ?_)
          · (repeat ((first | refine WV_seq_ ?_ | refine WV_block ?_ | refine WV_ops ?_ | refine WV_skip ?_ | refine WV_exit ?_); (try simp only [go_sem, init_env', Nat.reduceEqDiff, Nat.reduceAdd, Nat.reduceMul, reduceIte, Nat.reduceLeDiff, Nat.reduceLT, Nat.reduceBEq, reduceCtorEq, hP, ]); (repeat (refine And.intro (by first | omega | (intros; simp_all; done) | (intros; simp_all; omega)) ?_))))
            (refine WV_ret ?_; simp only [thenQ, inQ, RetQ, RetOk, resAll, resA]; simp only [go_sem, init_env', Nat.reduceEqDiff, Nat.reduceAdd, Nat.reduceMul, reduceIte, Nat.reduceLeDiff, Nat.reduceLT, Nat.reduceBEq, reduceCtorEq, tupA, AV.port, AV.portL, exists_eq_left', ]; (first | exact AVle.of rfl | refine AVle.of ?_ | skip))
            rw [okSide, hPs, h1, sharedB_bad h h8]; simp
          · obtain ⟨f1, f2, f3, f4, f5, f6, f7⟩ := fin _ rfl h8
            have w1 := w64 (n := sumT l (0) + l[0].pc) (by omega) (by omega)
            (repeat ((first | refine WV_seq_ ?_ | refine WV_block ?_ | refine WV_ops ?_ | refine WV_skip ?_ | refine WV_exit ?_); (try simp only [go_sem, init_env', Nat.reduceEqDiff, Nat.reduceAdd, Nat.reduceMul, reduceIte, Nat.reduceLeDiff, Nat.reduceLT, Nat.reduceBEq, reduceCtorEq, hP, w1, hw2]); (repeat (refine And.intro (by first | omega | (intros; simp_all; done) | (intros; simp_all; omega)) ?_))))
            refine ⟨0 + 1, ⟨by omega, f3, f4, f5, f6, f7, by omega⟩, by omega, ?_⟩
            rw [hs]
            (refine Sub_of (by simp only [go_sem, init_env', Nat.reduceEqDiff, Nat.reduceAdd, Nat.reduceMul, reduceIte, Nat.reduceLeDiff, Nat.reduceLT, Nat.reduceBEq, reduceCtorEq]; ((repeat' (first | exact EnvLe_e0 _ _ | refine EnvLe_upd ?_ ?_)) <;> ((try simp only [upd_app, e0_app, o0_app, Nat.reduceEqDiff, reduceIte]); first | exact AWk.refl _ _ | exact AWk.int (by omega) | exact AWk.int (by rw [w64 (by omega) (by omega)]; omega) | exact AWk.grow rfl | exact AWk.nil _ | exact AWk.of (by simp)))) (by simp only [go_sem, init_env', Nat.reduceEqDiff, Nat.reduceAdd, Nat.reduceMul, reduceIte, Nat.reduceLeDiff, Nat.reduceLT, Nat.reduceBEq, reduceCtorEq]; ((repeat' (first | exact ObjLe_o0 _ | exact ObjLe.rfl' _ | refine ObjLe_same ?_ | refine ObjLe_upd ?_ ?_ | refine ObjLe_new rfl ?_)) <;> rfl)))
        · simp only [go_sem, init_env', Nat.reduceEqDiff, Nat.reduceAdd, Nat.reduceMul, reduceIte, Nat.reduceLeDiff, Nat.reduceLT, Nat.reduceBEq, reduceCtorEq, hP, hd0, hz, map_getD h, Part.cds]
          (repeat (refine And.intro (by first | omega | (intros; simp_all; done) | (intros; simp_all; omega)) ?_))
          (repeat ((first | refine WV_seq_ ?_ | refine WV_block ?_ | refine WV_ops ?_ | refine WV_skip ?_ | refine WV_exit ?_); (try simp only [go_sem, init_env', Nat.reduceEqDiff, Nat.reduceAdd, Nat.reduceMul, reduceIte, Nat.reduceLeDiff, Nat.reduceLT, Nat.reduceBEq, reduceCtorEq, hP, hd0, hz, map_getD h, Part.cds]); (repeat (refine And.intro (by first | omega | (intros; simp_all; done) | (intros; simp_all; omega)) ?_))))
          (refine AG_pure (fun hG => wi47 _ _ _) rfl (fun hG => by first | (simp only [go_sem, init_env', Nat.reduceEqDiff, Nat.reduceAdd, Nat.reduceMul, reduceIte, Nat.reduceLeDiff, Nat.reduceLT, Nat.reduceBEq, reduceCtorEq, hG]; done) | (simp only [go_sem, init_env', Nat.reduceEqDiff, Nat.reduceAdd, Nat.reduceMul, reduceIte, Nat.reduceLeDiff, Nat.reduceLT, Nat.reduceBEq, reduceCtorEq]; revert hG; simp; done) | (simp only [go_sem, init_env', Nat.reduceEqDiff, Nat.reduceAdd, Nat.reduceMul, reduceIte, Nat.reduceLeDiff, Nat.reduceLT, Nat.reduceBEq, reduceCtorEq, hG]; simp_all; done) | (revert hG; simp; done) | simp_all) rfl rfl rfl ?_; simp only [go_sem, init_env', Nat.reduceEqDiff, Nat.reduceAdd, Nat.reduceMul, reduceIte, Nat.reduceLeDiff, Nat.reduceLT, Nat.reduceBEq, reduceCtorEq, hP, ]; (repeat (refine And.intro (by first | omega | (intros; simp_all; done) | (intros; simp_all; omega)) ?_)); (repeat ((first | refine WV_seq_ ?_ | refine WV_block ?_ | refine WV_ops ?_ | refine WV_skip ?_ | refine WV_exit ?_); (try simp only [go_sem, init_env', Nat.reduceEqDiff, Nat.reduceAdd, Nat.reduceMul, reduceIte, Nat.reduceLeDiff, Nat.reduceLT, Nat.reduceBEq, reduceCtorEq, hP, ]); (repeat (refine And.intro (by first | omega | (intros; simp_all; done) | (intros; simp_all; omega)) ?_)))))
          refine WV_cond (b := partBad r.n (lastT l (0)) l[0]) (by rw [← hb]; first | rfl | (cases within l[0].pc 1 100 <;> rfl) | (cases within l[0].pc 1 100 <;> cases decide (l[0].who ≤ (l.getD (0 - 1) default).who) <;> rfl)) (fun h8 => ?_) (fun h8 => ?_)
          · (repeat ((first | refine WV_seq_ ?_ | refine WV_block ?_ | refine WV_ops ?_ | refine WV_skip ?_ | refine WV_exit ?_); (try simp only [go_sem, init_env', Nat.reduceEqDiff, Nat.reduceAdd, Nat.reduceMul, reduceIte, Nat.reduceLeDiff, Nat.reduceLT, Nat.reduceBEq, reduceCtorEq, hP, ]); (repeat (refine And.intro (by first | omega | (intros; simp_all; done) | (intros; simp_all; omega)) ?_))))
            (refine WV_ret ?_; simp only [thenQ, inQ, RetQ, RetOk, resAll, resA]; simp only [go_sem, init_env', Nat.reduceEqDiff, Nat.reduceAdd, Nat.reduceMul, reduceIte, Nat.reduceLeDiff, Nat.reduceLT, Nat.reduceBEq, reduceCtorEq, tupA, AV.port, AV.portL, exists_eq_left', ]; (first | exact AVle.of rfl | refine AVle.of ?_ | skip))
            rw [okSide, hPs, h1, sharedB_bad h h8]; simp
          · obtain ⟨f1, f2, f3, f4, f5, f6, f7⟩ := fin _ rfl h8
            have w1 := w64 (n := sumT l (0) + l[0].pc) (by omega) (by omega)
            (repeat ((first | refine WV_seq_ ?_ | refine WV_block ?_ | refine WV_ops ?_ | refine WV_skip ?_ | refine WV_exit ?_); (try simp only [go_sem, init_env', Nat.reduceEqDiff, Nat.reduceAdd, Nat.reduceMul, reduceIte, Nat.reduceLeDiff, Nat.reduceLT, Nat.reduceBEq, reduceCtorEq, hP, w1, hw2]); (repeat (refine And.intro (by first | omega | (intros; simp_all; done) | (intros; simp_all; omega)) ?_))))
            refine ⟨0 + 1, ⟨by omega, f3, f4, f5, f6, f7, by omega⟩, by omega, ?_⟩
            rw [hs]
            (refine Sub_of (by simp only [go_sem, init_env', Nat.reduceEqDiff, Nat.reduceAdd, Nat.reduceMul, reduceIte, Nat.reduceLeDiff, Nat.reduceLT, Nat.reduceBEq, reduceCtorEq]; ((repeat' (first | exact EnvLe_e0 _ _ | refine EnvLe_upd ?_ ?_)) <;> ((try simp only [upd_app, e0_app, o0_app, Nat.reduceEqDiff, reduceIte]); first | exact AWk.refl _ _ | exact AWk.int (by omega) | exact AWk.int (by rw [w64 (by omega) (by omega)]; omega) | exact AWk.grow rfl | exact AWk.nil _ | exact AWk.of (by simp)))) (by simp only [go_sem, init_env', Nat.reduceEqDiff, Nat.reduceAdd, Nat.reduceMul, reduceIte, Nat.reduceLeDiff, Nat.reduceLT, Nat.reduceBEq, reduceCtorEq]; ((repeat' (first | exact ObjLe_o0 _ | exact ObjLe.rfl' _ | refine ObjLe_same ?_ | refine ObjLe_upd ?_ ?_ | refine ObjLe_new rfl ?_)) <;> rfl)))
      | succ k =>
        have hk1 : k < l.length := by omega
        have hd1 : decide ((0 : Int) < ((k + 1 : Nat) : Int)) = true := by simp
        have e1 : ((k + 1 : Nat) : Int) - 1 = (k : Int) := by omega
        have w3 := w64 (n := (k : Int)) (by omega) (by omega)
        have hkI : (k : Int) < (l.length : Int) := by omega
        have hkI2 : ((k + 1 : Nat) : Int) < (l.length : Int) := by omega
        (repeat ((first | refine WV_seq_ ?_ | refine WV_block ?_ | refine WV_ops ?_ | refine WV_skip ?_ | refine WV_exit ?_); (try simp only [go_sem, init_env', Nat.reduceEqDiff, Nat.reduceAdd, Nat.reduceMul, reduceIte, Nat.reduceLeDiff, Nat.reduceLT, Nat.reduceBEq, reduceCtorEq, hP, map_getD h, hkI2, Int.natCast_nonneg, Part.cds]); (repeat (refine And.intro (by first | omega | (intros; simp_all; done) | (intros; simp_all; omega)) ?_))))
        refine AS_pure (isw19 r l[k + 1].who) rfl rfl rfl rfl rfl ?_
        have hb := bad_eq (r := r) (last := lastT l (k + 1)) (p := l[k + 1]) (c := decide (l[k + 1].who ≤ l[k].who)) (.inl (by rw [lastT_succ hk1])) (by omega)
        generalize isW r l[k + 1].who = wv at *
        generalize hcd : decide (l[k + 1].who ≤ l[k].who) = cd at *
        cases wv <;> cases cd
        · simp only [go_sem, init_env', Nat.reduceEqDiff, Nat.reduceAdd, Nat.reduceMul, reduceIte, Nat.reduceLeDiff, Nat.reduceLT, Nat.reduceBEq, reduceCtorEq, hP, hd1, e1, w3, map_getD hk1, Part.cds, hkI, hcd, Int.natCast_nonneg]
          (repeat (refine And.intro (by first | omega | (intros; simp_all; done) | (intros; simp_all; omega)) ?_))
          (repeat ((first | refine WV_seq_ ?_ | refine WV_block ?_ | refine WV_ops ?_ | refine WV_skip ?_ | refine WV_exit ?_); (try simp only [go_sem, init_env', Nat.reduceEqDiff, Nat.reduceAdd, Nat.reduceMul, reduceIte, Nat.reduceLeDiff, Nat.reduceLT, Nat.reduceBEq, reduceCtorEq, hP, hd1, e1, w3, map_getD hk1, Part.cds, hkI, Int.natCast_nonneg, hcd]); (repeat (refine And.intro (by first | omega | (intros; simp_all; done) | (intros; simp_all; omega)) ?_))))
          (refine AG_pure (fun hG => wi47 _ _ _) rfl (fun hG => by first | (simp only [go_sem, init_env', Nat.reduceEqDiff, Nat.reduceAdd, Nat.reduceMul, reduceIte, Nat.reduceLeDiff, Nat.reduceLT, Nat.reduceBEq, reduceCtorEq, hG]; done) | (simp only [go_sem, init_env', Nat.reduceEqDiff, Nat.reduceAdd, Nat.reduceMul, reduceIte, Nat.reduceLeDiff, Nat.reduceLT, Nat.reduceBEq, reduceCtorEq]; revert hG; simp; done) | (simp only [go_sem, init_env', Nat.reduceEqDiff, Nat.reduceAdd, Nat.reduceMul, reduceIte, Nat.reduceLeDiff, Nat.reduceLT, Nat.reduceBEq, reduceCtorEq, hG]; simp_all; done) | (revert hG; simp; done) | simp_all) rfl rfl rfl ?_; simp only [go_sem, init_env', Nat.reduceEqDiff, Nat.reduceAdd, Nat.reduceMul, reduceIte, Nat.reduceLeDiff, Nat.reduceLT, Nat.reduceBEq, reduceCtorEq, hP, ]; (repeat (refine And.intro (by first | omega | (intros; simp_all; done) | (intros; simp_all; omega)) ?_)); (repeat ((first | refine WV_seq_ ?_ | refine WV_block ?_ | refine WV_ops ?_ | refine WV_skip ?_ | refine WV_exit ?_); (try simp only [go_sem, init_env', Nat.reduceEqDiff, Nat.reduceAdd, Nat.reduceMul, reduceIte, Nat.reduceLeDiff, Nat.reduceLT, Nat.reduceBEq, reduceCtorEq, hP, ]); (repeat (refine And.intro (by first | omega | (intros; simp_all; done) | (intros; simp_all; omega)) ?_)))))
          refine WV_cond (b := partBad r.n (lastT l (k + 1)) l[k + 1]) (by rw [← hb]; first | rfl | (cases within l[k + 1].pc 1 100 <;> rfl) | (cases within l[k + 1].pc 1 100 <;> cases cd <;> rfl)) (fun h8 => ?_) (fun h8 => ?_)
          · (repeat ((first | refine WV_seq_ ?_ | refine WV_block ?_ | refine WV_ops ?_ | refine WV_skip ?_ | refine WV_exit ?_); (try simp only [go_sem, init_env', Nat.reduceEqDiff, Nat.reduceAdd, Nat.reduceMul, reduceIte, Nat.reduceLeDiff, Nat.reduceLT, Nat.reduceBEq, reduceCtorEq, hP, ]); (repeat (refine And.intro (by first | omega | (intros; simp_all; done) | (intros; simp_all; omega)) ?_))))
            (refine WV_ret ?_; simp only [thenQ, inQ, RetQ, RetOk, resAll, resA]; simp only [go_sem, init_env', Nat.reduceEqDiff, Nat.reduceAdd, Nat.reduceMul, reduceIte, Nat.reduceLeDiff, Nat.reduceLT, Nat.reduceBEq, reduceCtorEq, tupA, AV.port, AV.portL, exists_eq_left', ]; (first | exact AVle.of rfl | refine AVle.of ?_ | skip))
            rw [okSide, hPs, h1, sharedB_bad h h8]; simp
          · obtain ⟨f1, f2, f3, f4, f5, f6, f7⟩ := fin _ rfl h8
            have w1 := w64 (n := sumT l (k + 1) + l[k + 1].pc) (by omega) (by omega)
            (repeat ((first | refine WV_seq_ ?_ | refine WV_block ?_ | refine WV_ops ?_ | refine WV_skip ?_ | refine WV_exit ?_); (try simp only [go_sem, init_env', Nat.reduceEqDiff, Nat.reduceAdd, Nat.reduceMul, reduceIte, Nat.reduceLeDiff, Nat.reduceLT, Nat.reduceBEq, reduceCtorEq, hP, w1, hw2]); (repeat (refine And.intro (by first | omega | (intros; simp_all; done) | (intros; simp_all; omega)) ?_))))
            refine ⟨k + 1 + 1, ⟨by omega, f3, f4, f5, f6, f7, by omega⟩, by omega, ?_⟩
            rw [hs]
            (refine Sub_of (by simp only [go_sem, init_env', Nat.reduceEqDiff, Nat.reduceAdd, Nat.reduceMul, reduceIte, Nat.reduceLeDiff, Nat.reduceLT, Nat.reduceBEq, reduceCtorEq]; ((repeat' (first | exact EnvLe_e0 _ _ | refine EnvLe_upd ?_ ?_)) <;> ((try simp only [upd_app, e0_app, o0_app, Nat.reduceEqDiff, reduceIte]); first | exact AWk.refl _ _ | exact AWk.int (by omega) | exact AWk.int (by rw [w64 (by omega) (by omega)]; omega) | exact AWk.grow rfl | exact AWk.nil _ | exact AWk.of (by simp)))) (by simp only [go_sem, init_env', Nat.reduceEqDiff, Nat.reduceAdd, Nat.reduceMul, reduceIte, Nat.reduceLeDiff, Nat.reduceLT, Nat.reduceBEq, reduceCtorEq]; ((repeat' (first | exact ObjLe_o0 _ | exact ObjLe.rfl' _ | refine ObjLe_same ?_ | refine ObjLe_upd ?_ ?_ | refine ObjLe_new rfl ?_)) <;> rfl)))
        · simp only [go_sem, init_env', Nat.reduceEqDiff, Nat.reduceAdd, Nat.reduceMul, reduceIte, Nat.reduceLeDiff, Nat.reduceLT, Nat.reduceBEq, reduceCtorEq, hP, hd1, e1, w3, map_getD hk1, Part.cds, hkI, hcd, Int.natCast_nonneg]
          (repeat (refine And.intro (by first | omega | (intros; simp_all; done) | (intros; simp_all; omega)) ?_))
          (repeat ((first | refine WV_seq_ ?_ | refine WV_block ?_ | refine WV_ops ?_ | refine WV_skip ?_ | refine WV_exit ?_); (try simp only [go_sem, init_env', Nat.reduceEqDiff, Nat.reduceAdd, Nat.reduceMul, reduceIte, Nat.reduceLeDiff, Nat.reduceLT, Nat.reduceBEq, reduceCtorEq, hP, hd1, e1, w3, map_getD hk1, Part.cds, hkI, Int.natCast_nonneg, hcd]); (repeat (refine And.intro (by first | omega | (intros; simp_all; done) | (intros; simp_all; omega)) ?_))))
          (refine AG_pure (fun hG => wi47 _ _ _) rfl (fun hG => by first | (simp only [go_sem, init_env', Nat.reduceEqDiff, Nat.reduceAdd, Nat.reduceMul, reduceIte, Nat.reduceLeDiff, Nat.reduceLT, Nat.reduceBEq, reduceCtorEq, hG]; done) | (simp only [go_sem, init_env', Nat.reduceEqDiff, Nat.reduceAdd, Nat.reduceMul, reduceIte, Nat.reduceLeDiff, Nat.reduceLT, Nat.reduceBEq, reduceCtorEq]; revert hG; simp; done) | (simp only [go_sem, init_env', Nat.reduceEqDiff, Nat.reduceAdd, Nat.reduceMul, reduceIte, Nat.reduceLeDiff, Nat.reduceLT, Nat.reduceBEq, reduceCtorEq, hG]; simp_all; done) | (revert hG; simp; done) | simp_all) rfl rfl rfl ?_; simp only [go_sem, init_env', Nat.reduceEqDiff, Nat.reduceAdd, Nat.reduceMul, reduceIte, Nat.reduceLeDiff, Nat.reduceLT, Nat.reduceBEq, reduceCtorEq, hP, ]; (repeat (refine And.intro (by first | omega | (intros; simp_all; done) | (intros; simp_all; omega)) ?_)); (repeat ((first | refine WV_seq_ ?_ | refine WV_block ?_ | refine WV_ops ?_ | refine WV_skip ?_ | refine WV_exit ?_); (try simp only [go_sem, init_env', Nat.reduceEqDiff, Nat.reduceAdd, Nat.reduceMul, reduceIte, Nat.reduceLeDiff, Nat.reduceLT, Nat.reduceBEq, reduceCtorEq, hP, ]); (repeat (refine And.intro (by first | omega | (intros; simp_all; done) | (intros; simp_all; omega)) ?_)))))
          refine WV_cond (b := partBad r.n (lastT l (k + 1)) l[k + 1]) (by rw [← hb]; first | rfl | (cases within l[k + 1].pc 1 100 <;> rfl) | (cases within l[k + 1].pc 1 100 <;> cases cd <;> rfl)) (fun h8 => ?_) (fun h8 => ?_)
          · (repeat ((first | refine WV_seq_ ?_ | refine WV_block ?_ | refine WV_ops ?_ | refine WV_skip ?_ | refine WV_exit ?_); (try simp only [go_sem, init_env', Nat.reduceEqDiff, Nat.reduceAdd, Nat.reduceMul, reduceIte, Nat.reduceLeDiff, Nat.reduceLT, Nat.reduceBEq, reduceCtorEq, hP, ]); (repeat (refine And.intro (by first | omega | (intros; simp_all; done) | (intros; simp_all; omega)) ?_))))
            (refine WV_ret ?_; simp only [thenQ, inQ, RetQ, RetOk, resAll, resA]; simp only [go_sem, init_env', Nat.reduceEqDiff, Nat.reduceAdd, Nat.reduceMul, reduceIte, Nat.reduceLeDiff, Nat.reduceLT, Nat.reduceBEq, reduceCtorEq, tupA, AV.port, AV.portL, exists_eq_left', ]; (first | exact AVle.of rfl | refine AVle.of ?_ | skip))
            rw [okSide, hPs, h1, sharedB_bad h h8]; simp
          · obtain ⟨f1, f2, f3, f4, f5, f6, f7⟩ := fin _ rfl h8
            have w1 := w64 (n := sumT l (k + 1) + l[k + 1].pc) (by omega) (by omega)
            (repeat ((first | refine WV_seq_ ?_ | refine WV_block ?_ | refine WV_ops ?_ | refine WV_skip ?_ | refine WV_exit ?_); (try simp only [go_sem, init_env', Nat.reduceEqDiff, Nat.reduceAdd, Nat.reduceMul, reduceIte, Nat.reduceLeDiff, Nat.reduceLT, Nat.reduceBEq, reduceCtorEq, hP, w1, hw2]); (repeat (refine And.intro (by first | omega | (intros; simp_all; done) | (intros; simp_all; omega)) ?_))))
            refine ⟨k + 1 + 1, ⟨by omega, f3, f4, f5, f6, f7, by omega⟩, by omega, ?_⟩
            rw [hs]
            (refine Sub_of (by simp only [go_sem, init_env', Nat.reduceEqDiff, Nat.reduceAdd, Nat.reduceMul, reduceIte, Nat.reduceLeDiff, Nat.reduceLT, Nat.reduceBEq, reduceCtorEq]; ((repeat' (first | exact EnvLe_e0 _ _ | refine EnvLe_upd ?_ ?_)) <;> ((try simp only [upd_app, e0_app, o0_app, Nat.reduceEqDiff, reduceIte]); first | exact AWk.refl _ _ | exact AWk.int (by omega) | exact AWk.int (by rw [w64 (by omega) (by omega)]; omega) | exact AWk.grow rfl | exact AWk.nil _ | exact AWk.of (by simp)))) (by simp only [go_sem, init_env', Nat.reduceEqDiff, Nat.reduceAdd, Nat.reduceMul, reduceIte, Nat.reduceLeDiff, Nat.reduceLT, Nat.reduceBEq, reduceCtorEq]; ((repeat' (first | exact ObjLe_o0 _ | exact ObjLe.rfl' _ | refine ObjLe_same ?_ | refine ObjLe_upd ?_ ?_ | refine ObjLe_new rfl ?_)) <;> rfl)))
        · simp only [go_sem, init_env', Nat.reduceEqDiff, Nat.reduceAdd, Nat.reduceMul, reduceIte, Nat.reduceLeDiff, Nat.reduceLT, Nat.reduceBEq, reduceCtorEq, hP, hd1, e1, w3, map_getD hk1, Part.cds, hkI, hcd, Int.natCast_nonneg]
          (repeat (refine And.intro (by first | omega | (intros; simp_all; done) | (intros; simp_all; omega)) ?_))
          (repeat ((first | refine WV_seq_ ?_ | refine WV_block ?_ | refine WV_ops ?_ | refine WV_skip ?_ | refine WV_exit ?_); (try simp only [go_sem, init_env', Nat.reduceEqDiff, Nat.reduceAdd, Nat.reduceMul, reduceIte, Nat.reduceLeDiff, Nat.reduceLT, Nat.reduceBEq, reduceCtorEq, hP, hd1, e1, w3, map_getD hk1, Part.cds, hkI, Int.natCast_nonneg, hcd]); (repeat (refine And.intro (by first | omega | (intros; simp_all; done) | (intros; simp_all; omega)) ?_))))
          (refine AG_pure (fun hG => wi47 _ _ _) rfl (fun hG => by first | (simp only [go_sem, init_env', Nat.reduceEqDiff, Nat.reduceAdd, Nat.reduceMul, reduceIte, Nat.reduceLeDiff, Nat.reduceLT, Nat.reduceBEq, reduceCtorEq, hG]; done) | (simp only [go_sem, init_env', Nat.reduceEqDiff, Nat.reduceAdd, Nat.reduceMul, reduceIte, Nat.reduceLeDiff, Nat.reduceLT, Nat.reduceBEq, reduceCtorEq]; revert hG; simp; done) | (simp only [go_sem, init_env', Nat.reduceEqDiff, Nat.reduceAdd, Nat.reduceMul, reduceIte, Nat.reduceLeDiff, Nat.reduceLT, Nat.reduceBEq, reduceCtorEq, hG]; simp_all; done) | (revert hG; simp; done) | simp_all) rfl rfl rfl ?_; simp only [go_sem, init_env', Nat.reduceEqDiff, Nat.reduceAdd, Nat.reduceMul, reduceIte, Nat.reduceLeDiff, Nat.reduceLT, Nat.reduceBEq, reduceCtorEq, hP, ]; (repeat (refine And.intro (by first | omega | (intros; simp_all; done) | (intros; simp_all; omega)) ?_)); (repeat ((first | refine WV_seq_ ?_ | refine WV_block ?_ | refine WV_ops ?_ | refine WV_skip ?_ | refine WV_exit ?_); (try simp only [go_sem, init_env', Nat.reduceEqDiff, Nat.reduceAdd, Nat.reduceMul, reduceIte, Nat.reduceLeDiff, Nat.reduceLT, Nat.reduceBEq, reduceCtorEq, hP, ]); (repeat (refine And.intro (by first | omega | (intros; simp_all; done) | (intros; simp_all; omega)) ?_)))))
          refine WV_cond (b := partBad r.n (lastT l (k + 1)) l[k + 1]) (by rw [← hb]; first | rfl | (cases within l[k + 1].pc 1 100 <;> rfl) | (cases within l[k + 1].pc 1 100 <;> cases cd <;> rfl)) (fun h8 => ?_) (fun h8 => ?_)
          · (repeat ((first | refine WV_seq_ ?_ | refine WV_block ?_ | refine WV_ops ?_ | refine WV_skip ?_ | refine WV_exit ?_); (try simp only [go_sem, init_env', Nat.reduceEqDiff, Nat.reduceAdd, Nat.reduceMul, reduceIte, Nat.reduceLeDiff, Nat.reduceLT, Nat.reduceBEq, reduceCtorEq, hP, ]); (repeat (refine And.intro (by first | omega | (intros; simp_all; done) | (intros; simp_all; omega)) ?_))))
            (refine WV_ret ?_; simp only [thenQ, inQ, RetQ, RetOk, resAll, resA]; simp only [go_sem, init_env', Nat.reduceEqDiff, Nat.reduceAdd, Nat.reduceMul, reduceIte, Nat.reduceLeDiff, Nat.reduceLT, Nat.reduceBEq, reduceCtorEq, tupA, AV.port, AV.portL, exists_eq_left', ]; (first | exact AVle.of rfl | refine AVle.of ?_ | skip))
            rw [okSide, hPs, h1, sharedB_bad h h8]; simp
          · obtain ⟨f1, f2, f3, f4, f5, f6, f7⟩ := fin _ rfl h8
            have w1 := w64 (n := sumT l (k + 1) + l[k + 1].pc) (by omega) (by omega)
            (repeat ((first | refine WV_seq_ ?_ | refine WV_block ?_ | refine WV_ops ?_ | refine WV_skip ?_ | refine WV_exit ?_); (try simp only [go_sem, init_env', Nat.reduceEqDiff, Nat.reduceAdd, Nat.reduceMul, reduceIte, Nat.reduceLeDiff, Nat.reduceLT, Nat.reduceBEq, reduceCtorEq, hP, w1, hw2]); (repeat (refine And.intro (by first | omega | (intros; simp_all; done) | (intros; simp_all; omega)) ?_))))
            refine ⟨k + 1 + 1, ⟨by omega, f3, f4, f5, f6, f7, by omega⟩, by omega, ?_⟩
            rw [hs]
            (refine Sub_of (by simp only [go_sem, init_env', Nat.reduceEqDiff, Nat.reduceAdd, Nat.reduceMul, reduceIte, Nat.reduceLeDiff, Nat.reduceLT, Nat.reduceBEq, reduceCtorEq]; ((repeat' (first | exact EnvLe_e0 _ _ | refine EnvLe_upd ?_ ?_)) <;> ((try simp only [upd_app, e0_app, o0_app, Nat.reduceEqDiff, reduceIte]); first | exact AWk.refl _ _ | exact AWk.int (by omega) | exact AWk.int (by rw [w64 (by omega) (by omega)]; omega) | exact AWk.grow rfl | exact AWk.nil _ | exact AWk.of (by simp)))) (by simp only [go_sem, init_env', Nat.reduceEqDiff, Nat.reduceAdd, Nat.reduceMul, reduceIte, Nat.reduceLeDiff, Nat.reduceLT, Nat.reduceBEq, reduceCtorEq]; ((repeat' (first | exact ObjLe_o0 _ | exact ObjLe.rfl' _ | refine ObjLe_same ?_ | refine ObjLe_upd ?_ ?_ | refine ObjLe_new rfl ?_)) <;> rfl)))
        · simp only [go_sem, init_env', Nat.reduceEqDiff, Nat.reduceAdd, Nat.reduceMul, reduceIte, Nat.reduceLeDiff, Nat.reduceLT, Nat.reduceBEq, reduceCtorEq, hP, hd1, e1, w3, map_getD hk1, Part.cds, hkI, hcd, Int.natCast_nonneg]
          (repeat (refine And.intro (by first | omega | (intros; simp_all; done) | (intros; simp_all; omega)) ?_))
          (repeat ((first | refine WV_seq_ ?_ | refine WV_block ?_ | refine WV_ops ?_ | refine WV_skip ?_ | refine WV_exit ?_); (try simp only [go_sem, init_env', Nat.reduceEqDiff, Nat.reduceAdd, Nat.reduceMul, reduceIte, Nat.reduceLeDiff, Nat.reduceLT, Nat.reduceBEq, reduceCtorEq, hP, hd1, e1, w3, map_getD hk1, Part.cds, hkI, Int.natCast_nonneg, hcd]); (repeat (refine And.intro (by first | omega | (intros; simp_all; done) | (intros; simp_all; omega)) ?_))))
          (refine AG_pure (fun hG => wi47 _ _ _) rfl (fun hG => by first | (simp only [go_sem, init_env', Nat.reduceEqDiff, Nat.reduceAdd, Nat.reduceMul, reduceIte, Nat.reduceLeDiff, Nat.reduceLT, Nat.reduceBEq, reduceCtorEq, hG]; done) | (simp only [go_sem, init_env', Nat.reduceEqDiff, Nat.reduceAdd, Nat.reduceMul, reduceIte, Nat.reduceLeDiff, Nat.reduceLT, Nat.reduceBEq, reduceCtorEq]; revert hG; simp; done) | (simp only [go_sem, init_env', Nat.reduceEqDiff, Nat.reduceAdd, Nat.reduceMul, reduceIte, Nat.reduceLeDiff, Nat.reduceLT, Nat.reduceBEq, reduceCtorEq, hG]; simp_all; done) | (revert hG; simp; done) | simp_all) rfl rfl rfl ?_; simp only [go_sem, init_env', Nat.reduceEqDiff, Nat.reduceAdd, Nat.reduceMul, reduceIte, Nat.reduceLeDiff, Nat.reduceLT, Nat.reduceBEq, reduceCtorEq, hP, ]; (repeat (refine And.intro (by first | omega | (intros; simp_all; done) | (intros; simp_all; omega)) ?_)); (repeat ((first | refine WV_seq_ ?_ | refine WV_block ?_ | refine WV_ops ?_ | refine WV_skip ?_ | refine WV_exit ?_); (try simp only [go_sem, init_env', Nat.reduceEqDiff, Nat.reduceAdd, Nat.reduceMul, reduceIte, Nat.reduceLeDiff, Nat.reduceLT, Nat.reduceBEq, reduceCtorEq, hP, ]); (repeat (refine And.intro (by first | omega | (intros; simp_all; done) | (intros; simp_all; omega)) ?_)))))
          refine WV_cond (b := partBad r.n (lastT l (k + 1)) l[k + 1]) (by rw [← hb]; first | rfl | (cases within l[k + 1].pc 1 100 <;> rfl) | (cases within l[k + 1].pc 1 100 <;> cases cd <;> rfl)) (fun h8 => ?_) (fun h8 => ?_)
          · (repeat ((first | refine WV_seq_ ?_ | refine WV_block ?_ | refine WV_ops ?_ | refine WV_skip ?_ | refine WV_exit ?_); (try simp only [go_sem, init_env', Nat.reduceEqDiff, Nat.reduceAdd, Nat.reduceMul, reduceIte, Nat.reduceLeDiff, Nat.reduceLT, Nat.reduceBEq, reduceCtorEq, hP, ]); (repeat (refine And.intro (by first | omega | (intros; simp_all; done) | (intros; simp_all; omega)) ?_))))
            (refine WV_ret ?_; simp only [thenQ, inQ, RetQ, RetOk, resAll, resA]; simp only [go_sem, init_env', Nat.reduceEqDiff, Nat.reduceAdd, Nat.reduceMul, reduceIte, Nat.reduceLeDiff, Nat.reduceLT, Nat.reduceBEq, reduceCtorEq, tupA, AV.port, AV.portL, exists_eq_left', ]; (first | exact AVle.of rfl | refine AVle.of ?_ | skip))
            rw [okSide, hPs, h1, sharedB_bad h h8]; simp
          · obtain ⟨f1, f2, f3, f4, f5, f6, f7⟩ := fin _ rfl h8
            have w1 := w64 (n := sumT l (k + 1) + l[k + 1].pc) (by omega) (by omega)
            (repeat ((first | refine WV_seq_ ?_ | refine WV_block ?_ | refine WV_ops ?_ | refine WV_skip ?_ | refine WV_exit ?_); (try simp only [go_sem, init_env', Nat.reduceEqDiff, Nat.reduceAdd, Nat.reduceMul, reduceIte, Nat.reduceLeDiff, Nat.reduceLT, Nat.reduceBEq, reduceCtorEq, hP, w1, hw2]); (repeat (refine And.intro (by first | omega | (intros; simp_all; done) | (intros; simp_all; omega)) ?_))))
            refine ⟨k + 1 + 1, ⟨by omega, f3, f4, f5, f6, f7, by omega⟩, by omega, ?_⟩
            rw [hs]
            (refine Sub_of (by simp only [go_sem, init_env', Nat.reduceEqDiff, Nat.reduceAdd, Nat.reduceMul, reduceIte, Nat.reduceLeDiff, Nat.reduceLT, Nat.reduceBEq, reduceCtorEq]; ((repeat' (first | exact EnvLe_e0 _ _ | refine EnvLe_upd ?_ ?_)) <;> ((try simp only [upd_app, e0_app, o0_app, Nat.reduceEqDiff, reduceIte]); first | exact AWk.refl _ _ | exact AWk.int (by omega) | exact AWk.int (by rw [w64 (by omega) (by omega)]; omega) | exact AWk.grow rfl | exact AWk.nil _ | exact AWk.of (by simp)))) (by simp only [go_sem, init_env', Nat.reduceEqDiff, Nat.reduceAdd, Nat.reduceMul, reduceIte, Nat.reduceLeDiff, Nat.reduceLT, Nat.reduceBEq, reduceCtorEq]; ((repeat' (first | exact ObjLe_o0 _ | exact ObjLe.rfl' _ | refine ObjLe_same ?_ | refine ObjLe_upd ?_ ?_ | refine ObjLe_new rfl ?_)) <;> rfl)))
    · have h : k = l.length := by simp at h; omega
      subst h
      (refine WV_exit ?_; simp only [go_sem, init_env', Nat.reduceEqDiff, Nat.reduceAdd, Nat.reduceMul, reduceIte, Nat.reduceLeDiff, Nat.reduceLT, Nat.reduceBEq, reduceCtorEq])
      rw [List.drop_length] at h1
      (repeat ((first | refine WV_seq_ ?_ | refine WV_block ?_ | refine WV_ops ?_ | refine WV_skip ?_ | refine WV_exit ?_); (try simp only [go_sem, init_env', Nat.reduceEqDiff, Nat.reduceAdd, Nat.reduceMul, reduceIte, Nat.reduceLeDiff, Nat.reduceLT, Nat.reduceBEq, reduceCtorEq, hP, ]); (repeat (refine And.intro (by first | omega | (intros; simp_all; done) | (intros; simp_all; omega)) ?_))))
      (refine AS_pure (wi47 _ _ _) rfl rfl rfl rfl rfl ?_; simp only [go_sem, init_env', Nat.reduceEqDiff, Nat.reduceAdd, Nat.reduceMul, reduceIte, Nat.reduceLeDiff, Nat.reduceLT, Nat.reduceBEq, reduceCtorEq, hP, ]; (repeat (refine And.intro (by first | omega | (intros; simp_all; done) | (intros; simp_all; omega)) ?_)); (repeat ((first | refine WV_seq_ ?_ | refine WV_block ?_ | refine WV_ops ?_ | refine WV_skip ?_ | refine WV_exit ?_); (try simp only [go_sem, init_env', Nat.reduceEqDiff, Nat.reduceAdd, Nat.reduceMul, reduceIte, Nat.reduceLeDiff, Nat.reduceLT, Nat.reduceBEq, reduceCtorEq, hP, ]); (repeat (refine And.intro (by first | omega | (intros; simp_all; done) | (intros; simp_all; omega)) ?_)))))
      (refine WV_ret ?_; simp only [thenQ, inQ, RetQ, RetOk, resAll, resA]; simp only [go_sem, init_env', Nat.reduceEqDiff, Nat.reduceAdd, Nat.reduceMul, reduceIte, Nat.reduceLeDiff, Nat.reduceLT, Nat.reduceBEq, reduceCtorEq, tupA, AV.port, AV.portL, exists_eq_left', ]; (first | exact AVle.of rfl | refine AVle.of ?_ | skip))
      rw [okSide, hPs, h1]
      rfl
end Go.Proofs.Ytnmchaemhjnkgaa

namespace Go.Proofs.Ytnmchaemhjnkgaa
open Go Go.V
@[reducible] def o31_0 : List Ins := [⟨(some 1), .box 3 (.t 0), none, true⟩,
  ⟨(some 2), .mv (.k (.c (.int .i64 0))), none, true⟩]
@[reducible] def o31_1 : List Ins := [⟨(some 5), .fa 0 (.t 1), none, true⟩,
  ⟨(some 6), .ld true 1 (.t 5), none, true⟩,
  ⟨(some 7), .call (.k (.fn 47 [])) [(.t 6), (.k (.c (.int .i64 0))), (.k (.c (.int .i64 9999)))], none, true⟩,
  ⟨(some 8), .un .not (.t 7), none, true⟩,
  ⟨(some 9), .mv (.t 8), none, true⟩,
  ⟨(some 10), .fa 2 (.t 1), (some (9, false)), true⟩,
  ⟨(some 11), .ld true 1 (.t 10), (some (9, false)), true⟩,
  ⟨(some 12), .len (.t 11), (some (9, false)), true⟩,
  ⟨(some 13), .bin .gtr (.t 12) (.k (.c (.int .i64 6))), (some (9, false)), true⟩,
  ⟨(some 14), .pick (.t 9) (.k (.c (.bool true))) (.t 13), none, true⟩,
  ⟨(some 15), .mv (.t 14), none, true⟩,
  ⟨(some 16), .fa 1 (.t 1), (some (15, false)), true⟩,
  ⟨(some 17), .ld true 1 (.t 16), (some (15, false)), true⟩,
  ⟨(some 18), .len (.t 17), (some (15, false)), true⟩,
  ⟨(some 19), .bin .gtr (.t 18) (.k (.c (.int .i64 6))), (some (15, false)), true⟩,
  ⟨(some 20), .pick (.t 15) (.k (.c (.bool true))) (.t 19), none, true⟩]
@[reducible] def o31_2 : List Ins := [⟨(some 2), .mv (.k (.c (.int .i64 100))), none, true⟩]
@[reducible] def v31_3 : VC := (.seq (.ops o31_2) .ret)
@[reducible] def v31_4 : VC := (.cond (.t 20) v31_3 .skip)
@[reducible] def o31_5 : List Ins := [⟨(some 3), .mv (.k (.c (.int .i64 0))), none, true⟩]
@[reducible] def o31_6 : List Ins := [⟨(some 21), .mv (.t 3), none, true⟩,
  ⟨(some 22), .fa 2 (.t 1), none, true⟩,
  ⟨(some 23), .ld true 1 (.t 22), none, true⟩,
  ⟨(some 24), .len (.t 23), none, true⟩,
  ⟨(some 25), .bin .lss (.t 21) (.t 24), none, true⟩]
@[reducible] def v31_7 : VC := (.cond (.t 25) .skip (.exit 0))
@[reducible] def o31_8 : List Ins := [⟨(some 28), .fa 2 (.t 1), none, true⟩,
  ⟨(some 29), .ld true 1 (.t 28), none, true⟩,
  ⟨(some 30), .mv (.t 3), none, true⟩,
  ⟨(some 31), .ia 1 (.t 29) (.t 30), none, true⟩,
  ⟨(some 32), .ld true 1 (.t 31), none, true⟩,
  ⟨(some 33), .call (.k (.fn 47 [])) [(.t 32), (.k (.c (.int .i64 0))), (.k (.c (.int .i64 9999)))], none, true⟩,
  ⟨(some 34), .un .not (.t 33), none, true⟩]
@[reducible] def o31_9 : List Ins := [⟨(some 2), .mv (.k (.c (.int .i64 100))), none, true⟩]
@[reducible] def v31_10 : VC := (.seq (.ops o31_9) .ret)
@[reducible] def v31_11 : VC := (.cond (.t 34) v31_10 .skip)
@[reducible] def v31_12 : VC := (.seq (.ops o31_8) v31_11)
@[reducible] def o31_13 : List Ins := [⟨(some 26), .mv (.t 3), none, true⟩,
  ⟨(some 27), .bin .add (.t 26) (.k (.c (.int .i64 1))), none, true⟩,
  ⟨(some 3), .mv (.t 27), none, true⟩]
@[reducible] def v31_14 : VC := (.seq (.block 1 v31_12) (.ops o31_13))
@[reducible] def v31_15 : VC := (.seq (.seq (.ops o31_6) v31_7) v31_14)
-- K31_1: changed and kept: [3]
@[reducible] def K31_1 : List Nat := [1]
@[reducible] def v31_16 : VC := (.loop v31_15)
@[reducible] def v31_17 : VC := (.block 0 v31_16)
@[reducible] def o31_18 : List Ins := [⟨(some 4), .mv (.k (.c (.int .i64 0))), none, true⟩]
@[reducible] def o31_19 : List Ins := [⟨(some 35), .mv (.t 4), none, true⟩,
  ⟨(some 36), .fa 1 (.t 1), none, true⟩,
  ⟨(some 37), .ld true 1 (.t 36), none, true⟩,
  ⟨(some 38), .len (.t 37), none, true⟩,
  ⟨(some 39), .bin .lss (.t 35) (.t 38), none, true⟩]
@[reducible] def v31_20 : VC := (.cond (.t 39) .skip (.exit 2))
@[reducible] def o31_21 : List Ins := [⟨(some 42), .ld false 3 (.t 1), none, false⟩,
  ⟨(some 43), .fa 1 (.t 1), none, false⟩,
  ⟨(some 44), .ld true 1 (.t 43), none, false⟩,
  ⟨(some 45), .mv (.t 4), none, false⟩,
  ⟨(some 46), .ia 2 (.t 44) (.t 45), none, false⟩,
  ⟨(some 47), .ld false 2 (.t 46), none, false⟩,
  ⟨(some 48), .call (.k (.fn 54 [])) [(.t 42), (.t 47)], none, true⟩,
  ⟨(some 49), .un .not (.t 48), none, true⟩]
@[reducible] def o31_22 : List Ins := [⟨(some 2), .mv (.k (.c (.int .i64 100))), none, true⟩]
@[reducible] def v31_23 : VC := (.seq (.ops o31_22) .ret)
@[reducible] def v31_24 : VC := (.cond (.t 49) v31_23 .skip)
@[reducible] def v31_25 : VC := (.seq (.ops o31_21) v31_24)
@[reducible] def o31_26 : List Ins := [⟨(some 40), .mv (.t 4), none, true⟩,
  ⟨(some 41), .bin .add (.t 40) (.k (.c (.int .i64 1))), none, true⟩,
  ⟨(some 4), .mv (.t 41), none, true⟩]
@[reducible] def v31_27 : VC := (.seq (.block 3 v31_25) (.ops o31_26))
@[reducible] def v31_28 : VC := (.seq (.seq (.ops o31_19) v31_20) v31_27)
-- K31_2: changed and kept: [4]
@[reducible] def K31_2 : List Nat := [1]
@[reducible] def v31_29 : VC := (.loop v31_28)
@[reducible] def v31_30 : VC := (.block 2 v31_29)
@[reducible] def o31_31 : List Ins := [⟨(some 2), .mv (.k (.c (.int .i64 0))), none, true⟩]
@[reducible] def v31_32 : VC := (.seq (.ops o31_31) .ret)
@[reducible] def v31_33 : VC := (.seq (.seq (.ops o31_18) v31_30) v31_32)
@[reducible] def v31_34 : VC := (.seq (.seq (.ops o31_5) v31_17) v31_33)
@[reducible] def v31_35 : VC := (.seq (.seq (.ops o31_1) v31_4) v31_34)
def ir31 : FC := ⟨1, 50, [.t 2], (.seq (.ops o31_0) v31_35)⟩
@[reducible] def o29_0 : List Ins := [⟨(some 1), .box 3 (.t 0), none, true⟩,
  ⟨(some 2), .mv (.k (.c (.bool false))), none, true⟩]
@[reducible] def o29_1 : List Ins := [⟨(some 4), .fa 1 (.t 1), none, true⟩,
  ⟨(some 5), .ld true 1 (.t 4), none, true⟩,
  ⟨(some 6), .len (.t 5), none, true⟩,
  ⟨(some 7), .bin .gtr (.t 6) (.k (.c (.int .i64 20))), none, true⟩,
  ⟨(some 8), .mv (.t 7), none, true⟩,
  ⟨(some 9), .fa 2 (.t 1), (some (8, false)), true⟩,
  ⟨(some 10), .ld true 1 (.t 9), (some (8, false)), true⟩,
  ⟨(some 11), .len (.t 10), (some (8, false)), true⟩,
  ⟨(some 12), .bin .gtr (.t 11) (.k (.c (.int .i64 40))), (some (8, false)), true⟩,
  ⟨(some 13), .pick (.t 8) (.k (.c (.bool true))) (.t 12), none, true⟩]
@[reducible] def o29_2 : List Ins := [⟨(some 2), .mv (.k (.c (.bool true))), none, true⟩]
@[reducible] def v29_3 : VC := (.seq (.ops o29_2) .ret)
@[reducible] def v29_4 : VC := (.cond (.t 13) v29_3 .skip)
@[reducible] def o29_5 : List Ins := [⟨(some 3), .mv (.k (.c (.int .i64 0))), none, true⟩]
@[reducible] def o29_6 : List Ins := [⟨(some 14), .mv (.t 3), none, true⟩,
  ⟨(some 15), .fa 1 (.t 1), none, true⟩,
  ⟨(some 16), .ld true 1 (.t 15), none, true⟩,
  ⟨(some 17), .len (.t 16), none, true⟩,
  ⟨(some 18), .bin .lss (.t 14) (.t 17), none, true⟩]
@[reducible] def v29_7 : VC := (.cond (.t 18) .skip (.exit 0))
@[reducible] def o29_8 : List Ins := [⟨(some 21), .fa 1 (.t 1), none, true⟩,
  ⟨(some 22), .ld true 1 (.t 21), none, true⟩,
  ⟨(some 23), .mv (.t 3), none, true⟩,
  ⟨(some 24), .ia 2 (.t 22) (.t 23), none, true⟩,
  ⟨(some 25), .fa 1 (.t 24), none, true⟩,
  ⟨(some 26), .ld true 1 (.t 25), none, true⟩,
  ⟨(some 27), .len (.t 26), none, true⟩,
  ⟨(some 28), .bin .gtr (.t 27) (.k (.c (.int .i64 40))), none, true⟩]
@[reducible] def o29_9 : List Ins := [⟨(some 2), .mv (.k (.c (.bool true))), none, true⟩]
@[reducible] def v29_10 : VC := (.seq (.ops o29_9) .ret)
@[reducible] def v29_11 : VC := (.cond (.t 28) v29_10 .skip)
@[reducible] def v29_12 : VC := (.seq (.ops o29_8) v29_11)
@[reducible] def o29_13 : List Ins := [⟨(some 19), .mv (.t 3), none, true⟩,
  ⟨(some 20), .bin .add (.t 19) (.k (.c (.int .i64 1))), none, true⟩,
  ⟨(some 3), .mv (.t 20), none, true⟩]
@[reducible] def v29_14 : VC := (.seq (.block 1 v29_12) (.ops o29_13))
@[reducible] def v29_15 : VC := (.seq (.seq (.ops o29_6) v29_7) v29_14)
-- K29_1: changed and kept: [3]
@[reducible] def K29_1 : List Nat := [1]
@[reducible] def v29_16 : VC := (.loop v29_15)
@[reducible] def v29_17 : VC := (.block 0 v29_16)
@[reducible] def o29_18 : List Ins := [⟨(some 2), .mv (.k (.c (.bool false))), none, true⟩]
@[reducible] def v29_19 : VC := (.seq (.ops o29_18) .ret)
@[reducible] def v29_20 : VC := (.seq (.seq (.ops o29_5) v29_17) v29_19)
@[reducible] def v29_21 : VC := (.seq (.seq (.ops o29_1) v29_4) v29_20)
def ir29 : FC := ⟨1, 29, [.t 2], (.seq (.ops o29_0) v29_21)⟩
@[reducible] def o13_0 : List Ins := [⟨(some 1), .box 3 (.t 0), none, true⟩,
  ⟨(some 2), .mv (.k (.c (.bool false))), none, true⟩]
@[reducible] def o13_1 : List Ins := [⟨(some 3), .ld false 3 (.t 1), none, true⟩,
  ⟨(some 4), .call (.k (.fn 29 [])) [(.t 3)], none, true⟩,
  ⟨(some 5), .un .not (.t 4), none, true⟩,
  ⟨(some 6), .mv (.t 5), none, true⟩,
  ⟨(some 7), .ld false 3 (.t 1), (some (6, true)), true⟩,
  ⟨(some 8), .call (.k (.fn 31 [])) [(.t 7)], (some (6, true)), true⟩,
  ⟨(some 9), .bin .eql (.t 8) (.k (.c (.int .i64 0))), (some (6, true)), true⟩,
  ⟨(some 10), .pick (.t 6) (.t 9) (.k (.c (.bool false))), none, true⟩,
  ⟨(some 2), .mv (.t 10), none, true⟩]
@[reducible] def v13_2 : VC := (.seq (.ops o13_1) .ret)
def ir13 : FC := ⟨1, 11, [.t 2], (.seq (.ops o13_0) v13_2)⟩
@[reducible] def o21_0 : List Ins := [⟨(some 1), .box 3 (.t 0), none, true⟩,
  ⟨(some 2), .mv (.k (.c (.int .i64 0))), none, true⟩]
@[reducible] def o21_1 : List Ins := [⟨(some 3), .mv (.k (.c (.int .i64 0))), none, true⟩]
@[reducible] def o21_2 : List Ins := [⟨(some 4), .mv (.k (.c (.int .i64 0))), none, true⟩]
@[reducible] def o21_3 : List Ins := [⟨(some 5), .mv (.t 4), none, true⟩,
  ⟨(some 6), .fa 1 (.t 1), none, true⟩,
  ⟨(some 7), .ld true 1 (.t 6), none, true⟩,
  ⟨(some 8), .len (.t 7), none, true⟩,
  ⟨(some 9), .bin .lss (.t 5) (.t 8), none, true⟩]
@[reducible] def v21_4 : VC := (.cond (.t 9) .skip (.exit 0))
@[reducible] def o21_5 : List Ins := [⟨(some 12), .mv (.t 3), none, true⟩,
  ⟨(some 13), .fa 1 (.t 1), none, true⟩,
  ⟨(some 14), .ld true 1 (.t 13), none, true⟩,
  ⟨(some 15), .mv (.t 4), none, true⟩,
  ⟨(some 16), .ia 2 (.t 14) (.t 15), none, true⟩,
  ⟨(some 17), .fa 0 (.t 16), none, true⟩,
  ⟨(some 18), .ld true 1 (.t 17), none, true⟩,
  ⟨(some 19), .bin .add (.t 12) (.t 18), none, true⟩,
  ⟨(some 3), .mv (.t 19), none, true⟩]
@[reducible] def o21_6 : List Ins := [⟨(some 10), .mv (.t 4), none, true⟩,
  ⟨(some 11), .bin .add (.t 10) (.k (.c (.int .i64 1))), none, true⟩,
  ⟨(some 4), .mv (.t 11), none, true⟩]
@[reducible] def v21_7 : VC := (.seq (.block 1 (.ops o21_5)) (.ops o21_6))
@[reducible] def v21_8 : VC := (.seq (.seq (.ops o21_3) v21_4) v21_7)
-- K21_1: changed and kept: [4, 3]
@[reducible] def K21_1 : List Nat := [1]
@[reducible] def v21_9 : VC := (.loop v21_8)
@[reducible] def v21_10 : VC := (.block 0 v21_9)
@[reducible] def o21_11 : List Ins := [⟨(some 20), .mv (.t 3), none, true⟩,
  ⟨(some 2), .mv (.t 20), none, true⟩]
@[reducible] def v21_12 : VC := (.seq (.ops o21_11) .ret)
@[reducible] def v21_13 : VC := (.seq (.seq (.ops o21_2) v21_10) v21_12)
@[reducible] def v21_14 : VC := (.seq (.ops o21_1) v21_13)
def ir21 : FC := ⟨1, 21, [.t 2], (.seq (.ops o21_0) v21_14)⟩
@[reducible] def o16_0 : List Ins := [⟨(some 2), .box 3 (.t 0), none, true⟩,
  ⟨(some 4), .mv (.k (.c (.bool false))), none, true⟩]
@[reducible] def o16_1 : List Ins := [⟨(some 5), .ld false 3 (.t 2), none, true⟩,
  ⟨(some 6), .call (.k (.fn 21 [])) [(.t 5)], none, true⟩,
  ⟨(some 7), .bin .eql (.t 6) (.k (.c (.int .i64 0))), none, true⟩]
@[reducible] def o16_2 : List Ins := [⟨(some 8), .mv (.t 1), none, true⟩,
  ⟨(some 9), .bin .eql (.t 8) (.k (.c (.int .i64 3))), none, true⟩,
  ⟨(some 4), .mv (.t 9), none, true⟩]
@[reducible] def v16_3 : VC := (.seq (.ops o16_2) .ret)
@[reducible] def v16_4 : VC := (.cond (.t 7) v16_3 .skip)
@[reducible] def o16_5 : List Ins := [⟨(some 10), .mv (.t 1), none, true⟩,
  ⟨(some 11), .bin .eql (.t 10) (.k (.c (.int .i64 0))), none, true⟩,
  ⟨(some 4), .mv (.t 11), none, true⟩]
@[reducible] def v16_6 : VC := (.seq (.ops o16_5) .ret)
@[reducible] def v16_7 : VC := (.seq (.seq (.ops o16_1) v16_4) v16_6)
def ir16 : FC := ⟨2, 12, [.t 4], (.seq (.ops o16_0) v16_7)⟩
@[reducible] def o44_0 : List Ins := [⟨(some 0), .alloc [(.c (.int .i64 0)), (.c (.raw (.slice none 0 0))), (.c (.raw (.slice none 0 0)))], none, true⟩]
@[reducible] def o44_1 : List Ins := [⟨(some 1), .bld [(.c (.int .i64 0)), (.c (.int .i64 0))] [(0, 1, (.k (.c (.int .i64 0)))), (1, 1, (.k (.c (.int .i64 50))))], none, true⟩,
  ⟨(some 2), .bld [(.c (.int .i64 0)), (.c (.int .i64 0))] [(0, 1, (.k (.c (.int .i64 1)))), (1, 1, (.k (.c (.int .i64 50))))], none, true⟩,
  ⟨(some 3), .bsl 47 2 [(.t 1), (.t 2)], none, true⟩,
  ⟨(some 4), .bld [(.c (.int .i64 0)), (.c (.raw (.slice none 0 0)))] [(0, 1, (.k (.c (.int .i64 3)))), (1, 1, (.t 3))], none, true⟩,
  ⟨(some 5), .bld [(.c (.int .i64 0)), (.c (.int .i64 0))] [(0, 1, (.k (.c (.int .i64 1)))), (1, 1, (.k (.c (.int .i64 30))))], none, true⟩,
  ⟨(some 6), .bld [(.c (.int .i64 0)), (.c (.int .i64 0))] [(0, 1, (.k (.c (.int .i64 2)))), (1, 1, (.k (.c (.int .i64 70))))], none, true⟩,
  ⟨(some 7), .bsl 47 2 [(.t 5), (.t 6)], none, true⟩,
  ⟨(some 8), .bld [(.c (.int .i64 0)), (.c (.raw (.slice none 0 0)))] [(0, 1, (.k (.c (.int .i64 1)))), (1, 1, (.t 7))], none, true⟩,
  ⟨(some 9), .bsl 44 2 [(.t 4), (.t 8)], none, true⟩,
  ⟨(some 10), .bsl 3 1 [(.k (.c (.int .i64 0))), (.k (.c (.int .i64 40))), (.k (.c (.int .i64 0)))], none, true⟩,
  ⟨(some 11), .bld [(.c (.int .i64 0)), (.c (.raw (.slice none 0 0))), (.c (.raw (.slice none 0 0)))] [(0, 1, (.k (.c (.int .i64 100)))), (1, 1, (.t 9)), (2, 1, (.t 10))], none, true⟩,
  ⟨none, .st 3 (.t 0) (.t 11), none, true⟩]
@[reducible] def v44_2 : VC := (.seq (.ops o44_1) .ret)
def ir44 : FC := ⟨0, 12, [.cell 0 false 3], (.seq (.ops o44_0) v44_2)⟩
@[reducible] def o14_0 : List Ins := [⟨(some 0), .mv (.k (.c (.bool false))), none, true⟩]
@[reducible] def o14_1 : List Ins := [⟨(some 13), .call (.k (.fn 44 [])) [], none, true⟩,
  ⟨(some 1), .alloc [(.c (.int .i64 0)), (.c (.raw (.slice none 0 0))), (.c (.raw (.slice none 0 0)))], none, true⟩,
  ⟨none, .st 3 (.t 1) (.t 13), none, true⟩]
@[reducible] def o14_2 : List Ins := [⟨(some 15), .ld false 3 (.t 1), none, true⟩,
  ⟨(some 16), .call (.k (.fn 22 [])) [(.t 15), (.k (.c (.int .i64 0)))], none, true⟩,
  ⟨(some 14), .mv (.t 16), none, true⟩,
  ⟨(some 17), .ext (.t 14) 0, none, true⟩,
  ⟨(some 18), .ext (.t 14) 1, none, true⟩,
  ⟨(some 19), .ext (.t 14) 2, none, true⟩,
  ⟨(some 2), .mv (.t 17), none, true⟩,
  ⟨(some 3), .mv (.t 18), none, true⟩,
  ⟨(some 4), .mv (.t 19), none, true⟩]
@[reducible] def o14_3 : List Ins := [⟨(some 21), .ld false 3 (.t 1), none, true⟩,
  ⟨(some 22), .call (.k (.fn 15 [])) [(.t 21)], none, true⟩,
  ⟨(some 20), .mv (.t 22), none, true⟩,
  ⟨(some 23), .ext (.t 20) 0, none, true⟩,
  ⟨(some 24), .ext (.t 20) 1, none, true⟩,
  ⟨(some 5), .mv (.t 23), none, true⟩,
  ⟨(some 6), .mv (.t 24), none, true⟩]
@[reducible] def o14_4 : List Ins := [⟨(some 26), .ld false 3 (.t 1), none, true⟩,
  ⟨(some 27), .call (.k (.fn 38 [])) [(.t 26)], none, true⟩,
  ⟨(some 25), .mv (.t 27), none, true⟩,
  ⟨(some 28), .ext (.t 25) 0, none, true⟩,
  ⟨(some 29), .ext (.t 25) 1, none, true⟩,
  ⟨(some 7), .mv (.t 28), none, true⟩,
  ⟨(some 8), .mv (.t 29), none, true⟩]
@[reducible] def o14_5 : List Ins := [⟨(some 31), .ld false 3 (.t 1), none, true⟩,
  ⟨(some 32), .call (.k (.fn 26 [])) [(.t 31), (.k (.c (.int .i64 2))), (.k (.c (.int .i64 18)))], none, true⟩,
  ⟨(some 30), .mv (.t 32), none, true⟩,
  ⟨(some 33), .ext (.t 30) 0, none, true⟩,
  ⟨(some 34), .ext (.t 30) 1, none, true⟩,
  ⟨(some 9), .mv (.t 33), none, true⟩,
  ⟨(some 10), .mv (.t 34), none, true⟩]
@[reducible] def o14_6 : List Ins := [⟨(some 36), .ld false 3 (.t 1), none, true⟩,
  ⟨(some 37), .call (.k (.fn 27 [])) [(.t 36), (.k (.c (.int .i64 2)))], none, true⟩,
  ⟨(some 35), .mv (.t 37), none, true⟩,
  ⟨(some 38), .ext (.t 35) 0, none, true⟩,
  ⟨(some 39), .ext (.t 35) 1, none, true⟩,
  ⟨(some 11), .mv (.t 38), none, true⟩,
  ⟨(some 12), .mv (.t 39), none, true⟩]
@[reducible] def o14_7 : List Ins := [⟨(some 40), .mv (.t 4), none, true⟩,
  ⟨(some 41), .bin .eql (.t 40) (.k (.c (.int .i64 0))), none, true⟩,
  ⟨(some 42), .mv (.t 41), none, true⟩,
  ⟨(some 43), .mv (.t 6), (some (42, true)), true⟩,
  ⟨(some 44), .bin .eql (.t 43) (.k (.c (.int .i64 0))), (some (42, true)), true⟩,
  ⟨(some 45), .pick (.t 42) (.t 44) (.k (.c (.bool false))), none, true⟩,
  ⟨(some 46), .mv (.t 45), none, true⟩,
  ⟨(some 47), .mv (.t 8), (some (46, true)), true⟩,
  ⟨(some 48), .bin .eql (.t 47) (.k (.c (.int .i64 0))), (some (46, true)), true⟩,
  ⟨(some 49), .pick (.t 46) (.t 48) (.k (.c (.bool false))), none, true⟩,
  ⟨(some 50), .mv (.t 49), none, true⟩,
  ⟨(some 51), .mv (.t 10), (some (50, true)), true⟩,
  ⟨(some 52), .bin .eql (.t 51) (.k (.c (.int .i64 0))), (some (50, true)), true⟩,
  ⟨(some 53), .pick (.t 50) (.t 52) (.k (.c (.bool false))), none, true⟩,
  ⟨(some 54), .mv (.t 53), none, true⟩,
  ⟨(some 55), .mv (.t 12), (some (54, true)), true⟩,
  ⟨(some 56), .bin .eql (.t 55) (.k (.c (.int .i64 0))), (some (54, true)), true⟩,
  ⟨(some 57), .pick (.t 54) (.t 56) (.k (.c (.bool false))), none, true⟩,
  ⟨(some 58), .mv (.t 57), none, true⟩,
  ⟨(some 59), .mv (.t 2), (some (58, true)), true⟩,
  ⟨(some 60), .bin .eql (.t 59) (.k (.c (.int .i64 75))), (some (58, true)), true⟩,
  ⟨(some 61), .pick (.t 58) (.t 60) (.k (.c (.bool false))), none, true⟩,
  ⟨(some 62), .mv (.t 61), none, true⟩,
  ⟨(some 63), .mv (.t 3), (some (62, true)), true⟩,
  ⟨(some 64), .bin .eql (.t 63) (.k (.c (.int .i64 2))), (some (62, true)), true⟩,
  ⟨(some 65), .pick (.t 62) (.t 64) (.k (.c (.bool false))), none, true⟩,
  ⟨(some 66), .mv (.t 65), none, true⟩,
  ⟨(some 67), .mv (.t 5), (some (66, true)), true⟩,
  ⟨(some 68), .bsl 3 1 [(.k (.c (.int .i64 38))), (.k (.c (.int .i64 45))), (.k (.c (.int .i64 17)))], (some (66, true)), true⟩,
  ⟨(some 69), .call (.k (.fn 34 [])) [(.t 67), (.t 68)], (some (66, true)), true⟩,
  ⟨(some 70), .pick (.t 66) (.t 69) (.k (.c (.bool false))), none, true⟩,
  ⟨(some 71), .mv (.t 70), none, true⟩,
  ⟨(some 72), .mv (.t 7), (some (71, true)), true⟩,
  ⟨(some 73), .bsl 3 1 [(.k (.c (.int .i64 38))), (.k (.c (.int .i64 5))), (.k (.c (.int .i64 17)))], (some (71, true)), true⟩,
  ⟨(some 74), .call (.k (.fn 34 [])) [(.t 72), (.t 73)], (some (71, true)), true⟩,
  ⟨(some 75), .pick (.t 71) (.t 74) (.k (.c (.bool false))), none, true⟩,
  ⟨(some 76), .mv (.t 75), none, true⟩,
  ⟨(some 77), .mv (.t 9), (some (76, true)), true⟩,
  ⟨(some 78), .bin .eql (.t 77) (.k (.c (.int .i64 101))), (some (76, true)), true⟩,
  ⟨(some 79), .pick (.t 76) (.t 78) (.k (.c (.bool false))), none, true⟩,
  ⟨(some 80), .mv (.t 79), none, true⟩,
  ⟨(some 81), .mv (.t 11), (some (80, true)), true⟩,
  ⟨(some 82), .bin .eql (.t 81) (.k (.c (.int .i64 15))), (some (80, true)), true⟩,
  ⟨(some 83), .pick (.t 80) (.t 82) (.k (.c (.bool false))), none, true⟩,
  ⟨(some 0), .mv (.t 83), none, true⟩]
@[reducible] def v14_8 : VC := (.seq (.ops o14_7) .ret)
@[reducible] def v14_9 : VC := (.seq (.ops o14_6) v14_8)
@[reducible] def v14_10 : VC := (.seq (.ops o14_5) v14_9)
@[reducible] def v14_11 : VC := (.seq (.ops o14_4) v14_10)
@[reducible] def v14_12 : VC := (.seq (.ops o14_3) v14_11)
@[reducible] def v14_13 : VC := (.seq (.ops o14_2) v14_12)
@[reducible] def v14_14 : VC := (.seq (.ops o14_1) v14_13)
def ir14 : FC := ⟨0, 84, [.t 0], (.seq (.ops o14_0) v14_14)⟩
theorem c31 : compM Try.prog [] 31 = some ir31 := by kernel_rfl
theorem c29 : compM Try.prog [] 29 = some ir29 := by kernel_rfl
theorem c13 : compM Try.prog [] 13 = some ir13 := by kernel_rfl
theorem c21 : compM Try.prog [] 21 = some ir21 := by kernel_rfl
theorem c16 : compM Try.prog [] 16 = some ir16 := by kernel_rfl
theorem c44 : compM Try.prog [] 44 = some ir44 := by kernel_rfl
theorem c14 : compM Try.prog [] 14 = some ir14 := by kernel_rfl



set_option maxHeartbeats 4000000 in
theorem rcheck31 (r : Royal) : FSpec Try.prog 31 [r.av] (iv (if r.ok then 0 else 100)) := by
  refine FSpec_of c31 (Nat.le_refl _) (by decide) fun C hP hN hC hL => ?_
  obtain ⟨h1, h2, h3⟩ := Royal.lens hL
  simp only [ir31, Royal.av, ints]
  have a1 : decide ((r.owed.length : Int) > 6) = !decide (r.owed.length ≤ 6) := by rw [Bool.eq_iff_iff]; simp; omega
  have a2 : decide ((r.sides.length : Int) > 6) = !decide (r.sides.length ≤ 6) := by rw [Bool.eq_iff_iff]; simp; omega
  have hok0 : r.ok = ((within r.pool 0 9999 && decide (r.owed.length ≤ 6) && decide (r.sides.length ≤ 6)) && r.owed.all (fun n => within n 0 9999) && r.sides.all (okSide r.owed.length)) := rfl
  (repeat ((first | refine WV_seq_ ?_ | refine WV_block ?_ | refine WV_ops ?_ | refine WV_skip ?_ | refine WV_exit ?_); (try simp only [go_sem, init_env', Nat.reduceEqDiff, Nat.reduceAdd, Nat.reduceMul, reduceIte, Nat.reduceLeDiff, Nat.reduceLT, Nat.reduceBEq, reduceCtorEq, hP, sidesC]); (repeat (refine And.intro (by first | omega | (intros; simp_all; done) | (intros; simp_all; omega)) ?_))))
  (refine AS_pure (wi47 _ _ _) rfl rfl rfl rfl rfl ?_; simp only [go_sem, init_env', Nat.reduceEqDiff, Nat.reduceAdd, Nat.reduceMul, reduceIte, Nat.reduceLeDiff, Nat.reduceLT, Nat.reduceBEq, reduceCtorEq, hP, a1, a2, sidesC]; (repeat (refine And.intro (by first | omega | (intros; simp_all; done) | (intros; simp_all; omega)) ?_)); (repeat ((first | refine WV_seq_ ?_ | refine WV_block ?_ | refine WV_ops ?_ | refine WV_skip ?_ | refine WV_exit ?_); (try simp only [go_sem, init_env', Nat.reduceEqDiff, Nat.reduceAdd, Nat.reduceMul, reduceIte, Nat.reduceLeDiff, Nat.reduceLT, Nat.reduceBEq, reduceCtorEq, hP, a1, a2, sidesC]); (repeat (refine And.intro (by first | omega | (intros; simp_all; done) | (intros; simp_all; omega)) ?_)))))
  generalize hg0 : within r.pool 0 9999 = g0 at *
  generalize hg1 : decide (r.owed.length ≤ 6) = g1 at *
  generalize hg2 : decide (r.sides.length ≤ 6) = g2 at *
  cases hg : (g0 && g1 && g2)
  · refine WV_cond (b := true) (by cases g0 <;> cases g1 <;> cases g2 <;> first | rfl | simp at hg) (fun h => ?_) (fun h => by cases h)
    (repeat ((first | refine WV_seq_ ?_ | refine WV_block ?_ | refine WV_ops ?_ | refine WV_skip ?_ | refine WV_exit ?_); (try simp only [go_sem, init_env', Nat.reduceEqDiff, Nat.reduceAdd, Nat.reduceMul, reduceIte, Nat.reduceLeDiff, Nat.reduceLT, Nat.reduceBEq, reduceCtorEq, hP, ]); (repeat (refine And.intro (by first | omega | (intros; simp_all; done) | (intros; simp_all; omega)) ?_))))
    (refine WV_ret ?_; simp only [thenQ, inQ, RetQ, RetOk, resAll, resA]; simp only [go_sem, init_env', Nat.reduceEqDiff, Nat.reduceAdd, Nat.reduceMul, reduceIte, Nat.reduceLeDiff, Nat.reduceLT, Nat.reduceBEq, reduceCtorEq, tupA, AV.port, AV.portL, exists_eq_left', ]; (first | exact AVle.of rfl | refine AVle.of ?_ | skip))
    rw [hok0, hg]
    simp
  · refine WV_cond (b := false) (by cases g0 <;> cases g1 <;> cases g2 <;> first | rfl | simp at hg) (fun h => by cases h) (fun h => ?_)
    have hn6 : r.owed.length ≤ 6 := by
      simp only [Bool.and_eq_true] at hg
      have := hg.1.2
      rw [← hg1] at this
      simpa using this
    have hs6 : r.sides.length ≤ 6 := by
      simp only [Bool.and_eq_true] at hg
      have := hg.2
      rw [← hg2] at this
      simpa using this
    rw [hg, Bool.true_and] at hok0
    clear h
    (repeat ((first | refine WV_seq_ ?_ | refine WV_block ?_ | refine WV_ops ?_ | refine WV_skip ?_ | refine WV_exit ?_); (try simp only [go_sem, init_env', Nat.reduceEqDiff, Nat.reduceAdd, Nat.reduceMul, reduceIte, Nat.reduceLeDiff, Nat.reduceLT, Nat.reduceBEq, reduceCtorEq, hP, ]); (repeat (refine And.intro (by first | omega | (intros; simp_all; done) | (intros; simp_all; omega)) ?_))))
    (refine WV_loopK K31_1 [] (fun k : Nat => k ≤ r.owed.length ∧ (r.owed.take k).all (fun n => within n 0 9999) = true) (fun k => r.owed.length - k) (fun k => [(3, iv k)]) (fun _ => []) 0 ⟨Nat.zero_le _, by simp⟩ ?_ ?_)
    · (refine Sub_of (by simp only [go_sem, init_env', Nat.reduceEqDiff, Nat.reduceAdd, Nat.reduceMul, reduceIte, Nat.reduceLeDiff, Nat.reduceLT, Nat.reduceBEq, reduceCtorEq]; ((repeat' (first | exact EnvLe_e0 _ _ | refine EnvLe_upd ?_ ?_)) <;> ((try simp only [upd_app, e0_app, o0_app, Nat.reduceEqDiff, reduceIte]); first | exact AWk.refl _ _ | exact AWk.int (by omega) | exact AWk.int (by rw [w64 (by omega) (by omega)]; omega) | exact AWk.grow rfl | exact AWk.nil _ | exact AWk.of (by simp)))) (by simp only [go_sem, init_env', Nat.reduceEqDiff, Nat.reduceAdd, Nat.reduceMul, reduceIte, Nat.reduceLeDiff, Nat.reduceLT, Nat.reduceBEq, reduceCtorEq]; ((repeat' (first | exact ObjLe_o0 _ | exact ObjLe.rfl' _ | refine ObjLe_same ?_ | refine ObjLe_upd ?_ ?_ | refine ObjLe_new rfl ?_)) <;> rfl)))
    · intro k ⟨hk, ha⟩
      simp only [go_sem, init_env', Nat.reduceEqDiff, Nat.reduceAdd, Nat.reduceMul, reduceIte, Nat.reduceLeDiff, Nat.reduceLT, Nat.reduceBEq, reduceCtorEq]
      (repeat ((first | refine WV_seq_ ?_ | refine WV_block ?_ | refine WV_ops ?_ | refine WV_skip ?_ | refine WV_exit ?_); (try simp only [go_sem, init_env', Nat.reduceEqDiff, Nat.reduceAdd, Nat.reduceMul, reduceIte, Nat.reduceLeDiff, Nat.reduceLT, Nat.reduceBEq, reduceCtorEq, hP, ]); (repeat (refine And.intro (by first | omega | (intros; simp_all; done) | (intros; simp_all; omega)) ?_))))
      (refine WV_cond rfl (fun h => ?_) (fun h => ?_))
      · have hkl : k < r.owed.length := by simpa using h
        have hI : (k : Int) < (r.owed.length : Int) := by omega
        have hw2 := w64 (n := (k : Int) + 1) (by omega) (by omega)
        (repeat ((first | refine WV_seq_ ?_ | refine WV_block ?_ | refine WV_ops ?_ | refine WV_skip ?_ | refine WV_exit ?_); (try simp only [go_sem, init_env', Nat.reduceEqDiff, Nat.reduceAdd, Nat.reduceMul, reduceIte, Nat.reduceLeDiff, Nat.reduceLT, Nat.reduceBEq, reduceCtorEq, hP, map_getD hkl, hI, Int.natCast_nonneg]); (repeat (refine And.intro (by first | omega | (intros; simp_all; done) | (intros; simp_all; omega)) ?_))))
        (refine AS_pure (wi47 _ _ _) rfl rfl rfl rfl rfl ?_; simp only [go_sem, init_env', Nat.reduceEqDiff, Nat.reduceAdd, Nat.reduceMul, reduceIte, Nat.reduceLeDiff, Nat.reduceLT, Nat.reduceBEq, reduceCtorEq, hP, ]; (repeat (refine And.intro (by first | omega | (intros; simp_all; done) | (intros; simp_all; omega)) ?_)); (repeat ((first | refine WV_seq_ ?_ | refine WV_block ?_ | refine WV_ops ?_ | refine WV_skip ?_ | refine WV_exit ?_); (try simp only [go_sem, init_env', Nat.reduceEqDiff, Nat.reduceAdd, Nat.reduceMul, reduceIte, Nat.reduceLeDiff, Nat.reduceLT, Nat.reduceBEq, reduceCtorEq, hP, ]); (repeat (refine And.intro (by first | omega | (intros; simp_all; done) | (intros; simp_all; omega)) ?_)))))
        cases hb : within r.owed[k] 0 9999
        · (refine WV_cond rfl (fun h => ?_) (fun h => ?_))
          · (repeat ((first | refine WV_seq_ ?_ | refine WV_block ?_ | refine WV_ops ?_ | refine WV_skip ?_ | refine WV_exit ?_); (try simp only [go_sem, init_env', Nat.reduceEqDiff, Nat.reduceAdd, Nat.reduceMul, reduceIte, Nat.reduceLeDiff, Nat.reduceLT, Nat.reduceBEq, reduceCtorEq, hP, ]); (repeat (refine And.intro (by first | omega | (intros; simp_all; done) | (intros; simp_all; omega)) ?_))))
            (refine WV_ret ?_; simp only [thenQ, inQ, RetQ, RetOk, resAll, resA]; simp only [go_sem, init_env', Nat.reduceEqDiff, Nat.reduceAdd, Nat.reduceMul, reduceIte, Nat.reduceLeDiff, Nat.reduceLT, Nat.reduceBEq, reduceCtorEq, tupA, AV.port, AV.portL, exists_eq_left', ]; (first | exact AVle.of rfl | refine AVle.of ?_ | skip))
            have : r.owed.all (fun n => within n 0 9999) = false := List.all_eq_false.2 ⟨_, List.getElem_mem hkl, by simp [hb]⟩
            rw [hok0, this]; simp
          · simp at h
        · (refine WV_cond rfl (fun h => ?_) (fun h => ?_))
          · simp at h
          · (repeat ((first | refine WV_seq_ ?_ | refine WV_block ?_ | refine WV_ops ?_ | refine WV_skip ?_ | refine WV_exit ?_); (try simp only [go_sem, init_env', Nat.reduceEqDiff, Nat.reduceAdd, Nat.reduceMul, reduceIte, Nat.reduceLeDiff, Nat.reduceLT, Nat.reduceBEq, reduceCtorEq, hP, hw2]); (repeat (refine And.intro (by first | omega | (intros; simp_all; done) | (intros; simp_all; omega)) ?_))))
            refine ⟨k + 1, ⟨by omega, by rw [take_all (fun n => within n 0 9999) hkl, ha, hb]; rfl⟩, by omega, ?_⟩
            (refine Sub_of (by simp only [go_sem, init_env', Nat.reduceEqDiff, Nat.reduceAdd, Nat.reduceMul, reduceIte, Nat.reduceLeDiff, Nat.reduceLT, Nat.reduceBEq, reduceCtorEq]; ((repeat' (first | exact EnvLe_e0 _ _ | refine EnvLe_upd ?_ ?_)) <;> ((try simp only [upd_app, e0_app, o0_app, Nat.reduceEqDiff, reduceIte]); first | exact AWk.refl _ _ | exact AWk.int (by omega) | exact AWk.int (by rw [w64 (by omega) (by omega)]; omega) | exact AWk.grow rfl | exact AWk.nil _ | exact AWk.of (by simp)))) (by simp only [go_sem, init_env', Nat.reduceEqDiff, Nat.reduceAdd, Nat.reduceMul, reduceIte, Nat.reduceLeDiff, Nat.reduceLT, Nat.reduceBEq, reduceCtorEq]; ((repeat' (first | exact ObjLe_o0 _ | exact ObjLe.rfl' _ | refine ObjLe_same ?_ | refine ObjLe_upd ?_ ?_ | refine ObjLe_new rfl ?_)) <;> rfl)))
      · have h : k = r.owed.length := by simp at h; omega
        subst h
        rw [List.take_length] at ha
        rw [ha, Bool.true_and] at hok0
        (refine WV_exit ?_; simp only [go_sem, init_env', Nat.reduceEqDiff, Nat.reduceAdd, Nat.reduceMul, reduceIte, Nat.reduceLeDiff, Nat.reduceLT, Nat.reduceBEq, reduceCtorEq])
        (repeat ((first | refine WV_seq_ ?_ | refine WV_block ?_ | refine WV_ops ?_ | refine WV_skip ?_ | refine WV_exit ?_); (try simp only [go_sem, init_env', Nat.reduceEqDiff, Nat.reduceAdd, Nat.reduceMul, reduceIte, Nat.reduceLeDiff, Nat.reduceLT, Nat.reduceBEq, reduceCtorEq, hP, ]); (repeat (refine And.intro (by first | omega | (intros; simp_all; done) | (intros; simp_all; omega)) ?_))))
        (refine WV_loopK K31_2 [] (fun k : Nat => k ≤ r.sides.length ∧ (r.sides.take k).all (okSide r.owed.length) = true) (fun k => r.sides.length - k) (fun k => [(4, iv k)]) (fun _ => []) 0 ⟨Nat.zero_le _, by simp⟩ ?_ ?_)
        · (refine Sub_of (by simp only [go_sem, init_env', Nat.reduceEqDiff, Nat.reduceAdd, Nat.reduceMul, reduceIte, Nat.reduceLeDiff, Nat.reduceLT, Nat.reduceBEq, reduceCtorEq]; ((repeat' (first | exact EnvLe_e0 _ _ | refine EnvLe_upd ?_ ?_)) <;> ((try simp only [upd_app, e0_app, o0_app, Nat.reduceEqDiff, reduceIte]); first | exact AWk.refl _ _ | exact AWk.int (by omega) | exact AWk.int (by rw [w64 (by omega) (by omega)]; omega) | exact AWk.grow rfl | exact AWk.nil _ | exact AWk.of (by simp)))) (by simp only [go_sem, init_env', Nat.reduceEqDiff, Nat.reduceAdd, Nat.reduceMul, reduceIte, Nat.reduceLeDiff, Nat.reduceLT, Nat.reduceBEq, reduceCtorEq]; ((repeat' (first | exact ObjLe_o0 _ | exact ObjLe.rfl' _ | refine ObjLe_same ?_ | refine ObjLe_upd ?_ ?_ | refine ObjLe_new rfl ?_)) <;> rfl)))
        · intro k ⟨hk, hb⟩
          simp only [go_sem, init_env', Nat.reduceEqDiff, Nat.reduceAdd, Nat.reduceMul, reduceIte, Nat.reduceLeDiff, Nat.reduceLT, Nat.reduceBEq, reduceCtorEq]
          (repeat ((first | refine WV_seq_ ?_ | refine WV_block ?_ | refine WV_ops ?_ | refine WV_skip ?_ | refine WV_exit ?_); (try simp only [go_sem, init_env', Nat.reduceEqDiff, Nat.reduceAdd, Nat.reduceMul, reduceIte, Nat.reduceLeDiff, Nat.reduceLT, Nat.reduceBEq, reduceCtorEq, hP, sidesC]); (repeat (refine And.intro (by first | omega | (intros; simp_all; done) | (intros; simp_all; omega)) ?_))))
          (refine WV_cond rfl (fun h => ?_) (fun h => ?_))
          · have hkl : k < r.sides.length := by simpa using h
            have hI : (k : Int) < (r.sides.length : Int) := by omega
            have hw2 := w64 (n := (k : Int) + 1) (by omega) (by omega)
            (repeat ((first | refine WV_seq_ ?_ | refine WV_block ?_ | refine WV_ops ?_ | refine WV_skip ?_ | refine WV_exit ?_); (try simp only [go_sem, init_env', Nat.reduceEqDiff, Nat.reduceAdd, Nat.reduceMul, reduceIte, Nat.reduceLeDiff, Nat.reduceLT, Nat.reduceBEq, reduceCtorEq, hP, sidesC, map_getD hkl, hI, Int.natCast_nonneg, Side.cds]); (repeat (refine And.intro (by first | omega | (intros; simp_all; done) | (intros; simp_all; omega)) ?_))))
            have hc := isside54 r r.sides[k] hn6
            simp only [Royal.av, ints, sidesC] at hc
            (refine AS_pure (hc) rfl rfl rfl rfl rfl ?_; simp only [go_sem, init_env', Nat.reduceEqDiff, Nat.reduceAdd, Nat.reduceMul, reduceIte, Nat.reduceLeDiff, Nat.reduceLT, Nat.reduceBEq, reduceCtorEq, hP, ]; (repeat (refine And.intro (by first | omega | (intros; simp_all; done) | (intros; simp_all; omega)) ?_)); (repeat ((first | refine WV_seq_ ?_ | refine WV_block ?_ | refine WV_ops ?_ | refine WV_skip ?_ | refine WV_exit ?_); (try simp only [go_sem, init_env', Nat.reduceEqDiff, Nat.reduceAdd, Nat.reduceMul, reduceIte, Nat.reduceLeDiff, Nat.reduceLT, Nat.reduceBEq, reduceCtorEq, hP, ]); (repeat (refine And.intro (by first | omega | (intros; simp_all; done) | (intros; simp_all; omega)) ?_)))))
            cases hb2 : okSide r.n r.sides[k]
            · (refine WV_cond rfl (fun h => ?_) (fun h => ?_))
              · (repeat ((first | refine WV_seq_ ?_ | refine WV_block ?_ | refine WV_ops ?_ | refine WV_skip ?_ | refine WV_exit ?_); (try simp only [go_sem, init_env', Nat.reduceEqDiff, Nat.reduceAdd, Nat.reduceMul, reduceIte, Nat.reduceLeDiff, Nat.reduceLT, Nat.reduceBEq, reduceCtorEq, hP, ]); (repeat (refine And.intro (by first | omega | (intros; simp_all; done) | (intros; simp_all; omega)) ?_))))
                (refine WV_ret ?_; simp only [thenQ, inQ, RetQ, RetOk, resAll, resA]; simp only [go_sem, init_env', Nat.reduceEqDiff, Nat.reduceAdd, Nat.reduceMul, reduceIte, Nat.reduceLeDiff, Nat.reduceLT, Nat.reduceBEq, reduceCtorEq, tupA, AV.port, AV.portL, exists_eq_left', ]; (first | exact AVle.of rfl | refine AVle.of ?_ | skip))
                have : r.sides.all (okSide r.owed.length) = false := List.all_eq_false.2 ⟨_, List.getElem_mem hkl, by rw [show (r.owed.length : Int) = (r.n : Int) from rfl, hb2]; simp⟩
                rw [hok0, this]; simp
              · simp at h
            · (refine WV_cond rfl (fun h => ?_) (fun h => ?_))
              · simp at h
              · (repeat ((first | refine WV_seq_ ?_ | refine WV_block ?_ | refine WV_ops ?_ | refine WV_skip ?_ | refine WV_exit ?_); (try simp only [go_sem, init_env', Nat.reduceEqDiff, Nat.reduceAdd, Nat.reduceMul, reduceIte, Nat.reduceLeDiff, Nat.reduceLT, Nat.reduceBEq, reduceCtorEq, hP, hw2]); (repeat (refine And.intro (by first | omega | (intros; simp_all; done) | (intros; simp_all; omega)) ?_))))
                refine ⟨k + 1, ⟨by omega, by rw [take_all (okSide r.owed.length) hkl, hb]; rw [show (r.owed.length : Int) = (r.n : Int) from rfl, hb2]; rfl⟩, by omega, ?_⟩
                (refine Sub_of (by simp only [go_sem, init_env', Nat.reduceEqDiff, Nat.reduceAdd, Nat.reduceMul, reduceIte, Nat.reduceLeDiff, Nat.reduceLT, Nat.reduceBEq, reduceCtorEq]; ((repeat' (first | exact EnvLe_e0 _ _ | refine EnvLe_upd ?_ ?_)) <;> ((try simp only [upd_app, e0_app, o0_app, Nat.reduceEqDiff, reduceIte]); first | exact AWk.refl _ _ | exact AWk.int (by omega) | exact AWk.int (by rw [w64 (by omega) (by omega)]; omega) | exact AWk.grow rfl | exact AWk.nil _ | exact AWk.of (by simp)))) (by simp only [go_sem, init_env', Nat.reduceEqDiff, Nat.reduceAdd, Nat.reduceMul, reduceIte, Nat.reduceLeDiff, Nat.reduceLT, Nat.reduceBEq, reduceCtorEq]; ((repeat' (first | exact ObjLe_o0 _ | exact ObjLe.rfl' _ | refine ObjLe_same ?_ | refine ObjLe_upd ?_ ?_ | refine ObjLe_new rfl ?_)) <;> rfl)))
          · have h : k = r.sides.length := by simp at h; omega
            subst h
            rw [List.take_length] at hb
            (repeat ((first | refine WV_seq_ ?_ | refine WV_block ?_ | refine WV_ops ?_ | refine WV_skip ?_ | refine WV_exit ?_); (try simp only [go_sem, init_env', Nat.reduceEqDiff, Nat.reduceAdd, Nat.reduceMul, reduceIte, Nat.reduceLeDiff, Nat.reduceLT, Nat.reduceBEq, reduceCtorEq, hP, ]); (repeat (refine And.intro (by first | omega | (intros; simp_all; done) | (intros; simp_all; omega)) ?_))))
            (refine WV_ret ?_; simp only [thenQ, inQ, RetQ, RetOk, resAll, resA]; simp only [go_sem, init_env', Nat.reduceEqDiff, Nat.reduceAdd, Nat.reduceMul, reduceIte, Nat.reduceLeDiff, Nat.reduceLT, Nat.reduceBEq, reduceCtorEq, tupA, AV.port, AV.portL, exists_eq_left', ]; (first | exact AVle.of rfl | refine AVle.of ?_ | skip))
            rw [hok0, hb]; rfl

def farB (r : Royal) : Bool := decide (20 < r.sides.length) || decide (40 < r.owed.length) || r.sides.any fun s => decide (40 < s.parts.length)
structure Near (r : Royal) : Prop where
  s : r.sides.length ≤ 20
  n : r.owed.length ≤ 40
  p : ∀ s ∈ r.sides, s.parts.length ≤ 40
theorem near_of {r : Royal} (h : farB r = false) : Near r := by
  simp only [farB, Bool.or_eq_false_iff, decide_eq_false_iff_not, List.any_eq_false, decide_eq_true_eq] at h
  exact ⟨by omega, by omega, fun s hs => by have := h.2 s hs; omega⟩
theorem Royal.near {r : Royal} (hr : RoyalOk r) : farB r = false := by
  have h1 := hr.n6
  have h2 := hr.s6
  simp only [farB, Bool.or_eq_false_iff, decide_eq_false_iff_not, List.any_eq_false, decide_eq_true_eq]
  exact ⟨⟨by omega, by unfold Royal.n at h1; omega⟩, fun s hs => by have := hr.p6 s hs; omega⟩
set_option maxHeartbeats 4000000 in
theorem far29 (r : Royal) : FSpec Try.prog 29 [r.av] (.c (.bool (farB r))) := by
  refine FSpec_of c29 (Nat.le_refl _) (by decide) fun C hP hN hC hL => ?_
  obtain ⟨h1, h2, h3⟩ := Royal.lens hL
  simp only [ir29, Royal.av, ints]
  have a1 : decide ((r.owed.length : Int) > 40) = decide (40 < r.owed.length) := by rw [Bool.eq_iff_iff]; simp; omega
  have a2 : decide ((r.sides.length : Int) > 20) = decide (20 < r.sides.length) := by rw [Bool.eq_iff_iff]; simp; omega
  (repeat ((first | refine WV_seq_ ?_ | refine WV_block ?_ | refine WV_ops ?_ | refine WV_skip ?_ | refine WV_exit ?_); (try simp only [go_sem, init_env', Nat.reduceEqDiff, Nat.reduceAdd, Nat.reduceMul, reduceIte, Nat.reduceLeDiff, Nat.reduceLT, Nat.reduceBEq, reduceCtorEq, hP, sidesC, a1, a2]); (repeat (refine And.intro (by first | omega | (intros; simp_all; done) | (intros; simp_all; omega)) ?_))))
  have hf0 : farB r = (decide (20 < r.sides.length) || decide (40 < r.owed.length) || r.sides.any fun s => decide (40 < s.parts.length)) := rfl
  cases hg : (decide (20 < r.sides.length) || decide (40 < r.owed.length))
  · rw [hg, Bool.false_or] at hf0
    refine WV_cond (b := false) (by generalize decide (20 < r.sides.length) = x at *; generalize decide (40 < r.owed.length) = y at *; cases x <;> cases y <;> first | rfl | simp at hg) (fun h => by cases h) (fun h => ?_)
    clear h
    (repeat ((first | refine WV_seq_ ?_ | refine WV_block ?_ | refine WV_ops ?_ | refine WV_skip ?_ | refine WV_exit ?_); (try simp only [go_sem, init_env', Nat.reduceEqDiff, Nat.reduceAdd, Nat.reduceMul, reduceIte, Nat.reduceLeDiff, Nat.reduceLT, Nat.reduceBEq, reduceCtorEq, hP, ]); (repeat (refine And.intro (by first | omega | (intros; simp_all; done) | (intros; simp_all; omega)) ?_))))
    (refine WV_loopK K29_1 [] (fun k : Nat => k ≤ r.sides.length ∧ (r.sides.take k).any (fun s => decide (40 < s.parts.length)) = false) (fun k => r.sides.length - k) (fun k => [(3, iv k)]) (fun _ => []) 0 ⟨Nat.zero_le _, by simp⟩ ?_ ?_)
    · (refine Sub_of (by simp only [go_sem, init_env', Nat.reduceEqDiff, Nat.reduceAdd, Nat.reduceMul, reduceIte, Nat.reduceLeDiff, Nat.reduceLT, Nat.reduceBEq, reduceCtorEq]; ((repeat' (first | exact EnvLe_e0 _ _ | refine EnvLe_upd ?_ ?_)) <;> ((try simp only [upd_app, e0_app, o0_app, Nat.reduceEqDiff, reduceIte]); first | exact AWk.refl _ _ | exact AWk.int (by omega) | exact AWk.int (by rw [w64 (by omega) (by omega)]; omega) | exact AWk.grow rfl | exact AWk.nil _ | exact AWk.of (by simp)))) (by simp only [go_sem, init_env', Nat.reduceEqDiff, Nat.reduceAdd, Nat.reduceMul, reduceIte, Nat.reduceLeDiff, Nat.reduceLT, Nat.reduceBEq, reduceCtorEq]; ((repeat' (first | exact ObjLe_o0 _ | exact ObjLe.rfl' _ | refine ObjLe_same ?_ | refine ObjLe_upd ?_ ?_ | refine ObjLe_new rfl ?_)) <;> rfl)))
    · intro k ⟨hk, ha⟩
      simp only [go_sem, init_env', Nat.reduceEqDiff, Nat.reduceAdd, Nat.reduceMul, reduceIte, Nat.reduceLeDiff, Nat.reduceLT, Nat.reduceBEq, reduceCtorEq]
      (repeat ((first | refine WV_seq_ ?_ | refine WV_block ?_ | refine WV_ops ?_ | refine WV_skip ?_ | refine WV_exit ?_); (try simp only [go_sem, init_env', Nat.reduceEqDiff, Nat.reduceAdd, Nat.reduceMul, reduceIte, Nat.reduceLeDiff, Nat.reduceLT, Nat.reduceBEq, reduceCtorEq, hP, sidesC]); (repeat (refine And.intro (by first | omega | (intros; simp_all; done) | (intros; simp_all; omega)) ?_))))
      (refine WV_cond rfl (fun h => ?_) (fun h => ?_))
      · have hkl : k < r.sides.length := by simpa using h
        have hI : (k : Int) < (r.sides.length : Int) := by omega
        have hw2 := w64 (n := (k : Int) + 1) (by omega) (by omega)
        have a3 : decide ((r.sides[k].parts.length : Int) > 40) = decide (40 < r.sides[k].parts.length) := by rw [Bool.eq_iff_iff]; simp; omega
        have hl0 : ∀ s : Side, (0 < s.cds.length) := fun s => by simp [Side.cds]
        (repeat ((first | refine WV_seq_ ?_ | refine WV_block ?_ | refine WV_ops ?_ | refine WV_skip ?_ | refine WV_exit ?_); (try simp only [go_sem, init_env', Nat.reduceEqDiff, Nat.reduceAdd, Nat.reduceMul, reduceIte, Nat.reduceLeDiff, Nat.reduceLT, Nat.reduceBEq, reduceCtorEq, hP, sidesC, map_getD hkl, hI, Int.natCast_nonneg, Side.cds, partsC, a3]); (repeat (refine And.intro (by first | omega | (intros; simp_all; done) | (intros; simp_all; omega)) ?_))))
        cases hb : decide (40 < r.sides[k].parts.length)
        · (refine WV_cond rfl (fun h => ?_) (fun h => ?_))
          · simp at h
          · (repeat ((first | refine WV_seq_ ?_ | refine WV_block ?_ | refine WV_ops ?_ | refine WV_skip ?_ | refine WV_exit ?_); (try simp only [go_sem, init_env', Nat.reduceEqDiff, Nat.reduceAdd, Nat.reduceMul, reduceIte, Nat.reduceLeDiff, Nat.reduceLT, Nat.reduceBEq, reduceCtorEq, hP, hw2]); (repeat (refine And.intro (by first | omega | (intros; simp_all; done) | (intros; simp_all; omega)) ?_))))
            refine ⟨k + 1, ⟨by omega, by rw [List.take_succ_eq_append_getElem hkl, List.any_append, ha]; simpa using hb⟩, by omega, ?_⟩
            (refine Sub_of (by simp only [go_sem, init_env', Nat.reduceEqDiff, Nat.reduceAdd, Nat.reduceMul, reduceIte, Nat.reduceLeDiff, Nat.reduceLT, Nat.reduceBEq, reduceCtorEq]; ((repeat' (first | exact EnvLe_e0 _ _ | refine EnvLe_upd ?_ ?_)) <;> ((try simp only [upd_app, e0_app, o0_app, Nat.reduceEqDiff, reduceIte]); first | exact AWk.refl _ _ | exact AWk.int (by omega) | exact AWk.int (by rw [w64 (by omega) (by omega)]; omega) | exact AWk.grow rfl | exact AWk.nil _ | exact AWk.of (by simp)))) (by simp only [go_sem, init_env', Nat.reduceEqDiff, Nat.reduceAdd, Nat.reduceMul, reduceIte, Nat.reduceLeDiff, Nat.reduceLT, Nat.reduceBEq, reduceCtorEq]; ((repeat' (first | exact ObjLe_o0 _ | exact ObjLe.rfl' _ | refine ObjLe_same ?_ | refine ObjLe_upd ?_ ?_ | refine ObjLe_new rfl ?_)) <;> rfl)))
        · (refine WV_cond rfl (fun h => ?_) (fun h => ?_))
          · (repeat ((first | refine WV_seq_ ?_ | refine WV_block ?_ | refine WV_ops ?_ | refine WV_skip ?_ | refine WV_exit ?_); (try simp only [go_sem, init_env', Nat.reduceEqDiff, Nat.reduceAdd, Nat.reduceMul, reduceIte, Nat.reduceLeDiff, Nat.reduceLT, Nat.reduceBEq, reduceCtorEq, hP, ]); (repeat (refine And.intro (by first | omega | (intros; simp_all; done) | (intros; simp_all; omega)) ?_))))
            (refine WV_ret ?_; simp only [thenQ, inQ, RetQ, RetOk, resAll, resA]; simp only [go_sem, init_env', Nat.reduceEqDiff, Nat.reduceAdd, Nat.reduceMul, reduceIte, Nat.reduceLeDiff, Nat.reduceLT, Nat.reduceBEq, reduceCtorEq, tupA, AV.port, AV.portL, exists_eq_left', ]; (first | exact AVle.of rfl | refine AVle.of ?_ | skip))
            have hex : (r.sides.any fun s => decide (40 < s.parts.length)) = true := List.any_eq_true.2 ⟨_, List.getElem_mem hkl, hb⟩
            rw [hf0, hex]
          · simp at h
      · have h : k = r.sides.length := by simp at h; omega
        subst h
        rw [List.take_length] at ha
        (repeat ((first | refine WV_seq_ ?_ | refine WV_block ?_ | refine WV_ops ?_ | refine WV_skip ?_ | refine WV_exit ?_); (try simp only [go_sem, init_env', Nat.reduceEqDiff, Nat.reduceAdd, Nat.reduceMul, reduceIte, Nat.reduceLeDiff, Nat.reduceLT, Nat.reduceBEq, reduceCtorEq, hP, ]); (repeat (refine And.intro (by first | omega | (intros; simp_all; done) | (intros; simp_all; omega)) ?_))))
        (refine WV_ret ?_; simp only [thenQ, inQ, RetQ, RetOk, resAll, resA]; simp only [go_sem, init_env', Nat.reduceEqDiff, Nat.reduceAdd, Nat.reduceMul, reduceIte, Nat.reduceLeDiff, Nat.reduceLT, Nat.reduceBEq, reduceCtorEq, tupA, AV.port, AV.portL, exists_eq_left', ]; (first | exact AVle.of rfl | refine AVle.of ?_ | skip))
        rw [hf0, ha]
  · rw [hg, Bool.true_or] at hf0
    refine WV_cond (b := true) (by generalize decide (20 < r.sides.length) = x at *; generalize decide (40 < r.owed.length) = y at *; cases x <;> cases y <;> first | rfl | simp at hg) (fun h => ?_) (fun h => by cases h)
    (repeat ((first | refine WV_seq_ ?_ | refine WV_block ?_ | refine WV_ops ?_ | refine WV_skip ?_ | refine WV_exit ?_); (try simp only [go_sem, init_env', Nat.reduceEqDiff, Nat.reduceAdd, Nat.reduceMul, reduceIte, Nat.reduceLeDiff, Nat.reduceLT, Nat.reduceBEq, reduceCtorEq, hP, ]); (repeat (refine And.intro (by first | omega | (intros; simp_all; done) | (intros; simp_all; omega)) ?_))))
    (refine WV_ret ?_; simp only [thenQ, inQ, RetQ, RetOk, resAll, resA]; simp only [go_sem, init_env', Nat.reduceEqDiff, Nat.reduceAdd, Nat.reduceMul, reduceIte, Nat.reduceLeDiff, Nat.reduceLT, Nat.reduceBEq, reduceCtorEq, tupA, AV.port, AV.portL, exists_eq_left', ]; (first | exact AVle.of rfl | refine AVle.of ?_ | skip))
    rw [hf0]

def readyS (r : Royal) : Bool := !farB r && r.ok
theorem readyS_ok (r : Royal) : readyS r = r.ok := by
  unfold readyS
  cases h : r.ok
  · simp
  · rw [Royal.near (Royal.ok_spec h)]; rfl
theorem ready13 (r : Royal) : FSpec Try.prog 13 [r.av] (.c (.bool r.ok)) := by
  rw [← readyS_ok]
  refine FSpec_of c13 (Nat.le_refl _) (by decide) fun C hP hN hC hL => ?_
  simp only [ir13, Royal.av]
  (repeat ((first | refine WV_seq_ ?_ | refine WV_block ?_ | refine WV_ops ?_ | refine WV_skip ?_ | refine WV_exit ?_); (try simp only [go_sem, init_env', Nat.reduceEqDiff, Nat.reduceAdd, Nat.reduceMul, reduceIte, Nat.reduceLeDiff, Nat.reduceLT, Nat.reduceBEq, reduceCtorEq, hP, ]); (repeat (refine And.intro (by first | omega | (intros; simp_all; done) | (intros; simp_all; omega)) ?_))))
  (refine AS_pure (far29 r) rfl rfl rfl rfl rfl ?_; simp only [go_sem, init_env', Nat.reduceEqDiff, Nat.reduceAdd, Nat.reduceMul, reduceIte, Nat.reduceLeDiff, Nat.reduceLT, Nat.reduceBEq, reduceCtorEq, hP, Royal.av]; (repeat (refine And.intro (by first | omega | (intros; simp_all; done) | (intros; simp_all; omega)) ?_)); (repeat ((first | refine WV_seq_ ?_ | refine WV_block ?_ | refine WV_ops ?_ | refine WV_skip ?_ | refine WV_exit ?_); (try simp only [go_sem, init_env', Nat.reduceEqDiff, Nat.reduceAdd, Nat.reduceMul, reduceIte, Nat.reduceLeDiff, Nat.reduceLT, Nat.reduceBEq, reduceCtorEq, hP, Royal.av]); (repeat (refine And.intro (by first | omega | (intros; simp_all; done) | (intros; simp_all; omega)) ?_)))))
  (refine AG_pure (fun hG => rcheck31 r) rfl (fun hG => by first | (simp only [go_sem, init_env', Nat.reduceEqDiff, Nat.reduceAdd, Nat.reduceMul, reduceIte, Nat.reduceLeDiff, Nat.reduceLT, Nat.reduceBEq, reduceCtorEq, hG]; done) | (simp only [go_sem, init_env', Nat.reduceEqDiff, Nat.reduceAdd, Nat.reduceMul, reduceIte, Nat.reduceLeDiff, Nat.reduceLT, Nat.reduceBEq, reduceCtorEq]; revert hG; simp; done) | (simp only [go_sem, init_env', Nat.reduceEqDiff, Nat.reduceAdd, Nat.reduceMul, reduceIte, Nat.reduceLeDiff, Nat.reduceLT, Nat.reduceBEq, reduceCtorEq, hG]; simp_all; done) | (revert hG; simp; done) | simp_all) rfl rfl rfl ?_; simp only [go_sem, init_env', Nat.reduceEqDiff, Nat.reduceAdd, Nat.reduceMul, reduceIte, Nat.reduceLeDiff, Nat.reduceLT, Nat.reduceBEq, reduceCtorEq, hP, Royal.av]; (repeat (refine And.intro (by first | omega | (intros; simp_all; done) | (intros; simp_all; omega)) ?_)); (repeat ((first | refine WV_seq_ ?_ | refine WV_block ?_ | refine WV_ops ?_ | refine WV_skip ?_ | refine WV_exit ?_); (try simp only [go_sem, init_env', Nat.reduceEqDiff, Nat.reduceAdd, Nat.reduceMul, reduceIte, Nat.reduceLeDiff, Nat.reduceLT, Nat.reduceBEq, reduceCtorEq, hP, Royal.av]); (repeat (refine And.intro (by first | omega | (intros; simp_all; done) | (intros; simp_all; omega)) ?_)))))
  (refine WV_ret ?_; simp only [thenQ, inQ, RetQ, RetOk, resAll, resA]; simp only [go_sem, init_env', Nat.reduceEqDiff, Nat.reduceAdd, Nat.reduceMul, reduceIte, Nat.reduceLeDiff, Nat.reduceLT, Nat.reduceBEq, reduceCtorEq, tupA, AV.port, AV.portL, exists_eq_left', ]; (first | exact AVle.of rfl | refine AVle.of ?_ | skip))
  unfold readyS
  cases farB r <;> cases r.ok <;> rfl

def playsOf (r : Royal) : Int := (r.sides.map Side.plays).sum
theorem playsT {r : Royal} (hr : RoyalOk r) : ∀ k, k ≤ r.sides.length → 0 ≤ ((r.sides.take k).map Side.plays).sum ∧ ((r.sides.take k).map Side.plays).sum ≤ 9999 * (k : Int)
  | 0, _ => by simp
  | k + 1, h => by
    have hk : k < r.sides.length := h
    have ih := playsT hr k (by omega)
    have hm := hr.plays _ (List.getElem_mem hk)
    rw [List.take_succ_eq_append_getElem hk, List.map_append, List.sum_append]
    simp only [List.map_cons, List.map_nil, List.sum_cons, List.sum_nil]
    omega
theorem allW_plays (r : Royal) : allW r = 100 * playsOf r := by
  unfold allW playsOf
  induction r.sides with
  | nil => rfl
  | cons s l ih => simp only [List.map_cons, List.sum_cons, ih]; omega
set_option maxHeartbeats 4000000 in
theorem plays21 {r : Royal} (hr : RoyalOk r) : FSpec Try.prog 21 [r.av] (iv (playsOf r)) := by
  have hs6 := hr.s6
  refine FSpec_of c21 (Nat.le_refl _) (by decide) fun C hP hN hC hL => ?_
  simp only [ir21, Royal.av]
  (repeat ((first | refine WV_seq_ ?_ | refine WV_block ?_ | refine WV_ops ?_ | refine WV_skip ?_ | refine WV_exit ?_); (try simp only [go_sem, init_env', Nat.reduceEqDiff, Nat.reduceAdd, Nat.reduceMul, reduceIte, Nat.reduceLeDiff, Nat.reduceLT, Nat.reduceBEq, reduceCtorEq, hP, ]); (repeat (refine And.intro (by first | omega | (intros; simp_all; done) | (intros; simp_all; omega)) ?_))))
  refine WV_loopK K21_1 [] (fun k : Nat => k ≤ r.sides.length) (fun k => r.sides.length - k) (fun k => [(4, iv k), (3, iv ((r.sides.take k).map Side.plays).sum)]) (fun _ => []) 0 (Nat.zero_le _) ?_ ?_
  · (refine Sub_of (by simp only [go_sem, init_env', Nat.reduceEqDiff, Nat.reduceAdd, Nat.reduceMul, reduceIte, Nat.reduceLeDiff, Nat.reduceLT, Nat.reduceBEq, reduceCtorEq]; ((repeat' (first | exact EnvLe_e0 _ _ | refine EnvLe_upd ?_ ?_)) <;> ((try simp only [upd_app, e0_app, o0_app, Nat.reduceEqDiff, reduceIte]); first | exact AWk.refl _ _ | exact AWk.int (by omega) | exact AWk.int (by rw [w64 (by omega) (by omega)]; omega) | exact AWk.grow rfl | exact AWk.nil _ | exact AWk.of (by simp)))) (by simp only [go_sem, init_env', Nat.reduceEqDiff, Nat.reduceAdd, Nat.reduceMul, reduceIte, Nat.reduceLeDiff, Nat.reduceLT, Nat.reduceBEq, reduceCtorEq]; ((repeat' (first | exact ObjLe_o0 _ | exact ObjLe.rfl' _ | refine ObjLe_same ?_ | refine ObjLe_upd ?_ ?_ | refine ObjLe_new rfl ?_)) <;> rfl)))
  · intro k hk
    have ht := playsT hr k hk
    simp only [go_sem, init_env', Nat.reduceEqDiff, Nat.reduceAdd, Nat.reduceMul, reduceIte, Nat.reduceLeDiff, Nat.reduceLT, Nat.reduceBEq, reduceCtorEq]
    (repeat ((first | refine WV_seq_ ?_ | refine WV_block ?_ | refine WV_ops ?_ | refine WV_skip ?_ | refine WV_exit ?_); (try simp only [go_sem, init_env', Nat.reduceEqDiff, Nat.reduceAdd, Nat.reduceMul, reduceIte, Nat.reduceLeDiff, Nat.reduceLT, Nat.reduceBEq, reduceCtorEq, hP, sidesC]); (repeat (refine And.intro (by first | omega | (intros; simp_all; done) | (intros; simp_all; omega)) ?_))))
    (refine WV_cond rfl (fun h => ?_) (fun h => ?_))
    · have hkl : k < r.sides.length := by simpa using h
      have hI : (k : Int) < (r.sides.length : Int) := by omega
      have hm := hr.plays _ (List.getElem_mem hkl)
      have hw1 := w64 (n := ((r.sides.take k).map Side.plays).sum + r.sides[k].plays) (by omega) (by omega)
      have hw2 := w64 (n := (k : Int) + 1) (by omega) (by omega)
      (repeat ((first | refine WV_seq_ ?_ | refine WV_block ?_ | refine WV_ops ?_ | refine WV_skip ?_ | refine WV_exit ?_); (try simp only [go_sem, init_env', Nat.reduceEqDiff, Nat.reduceAdd, Nat.reduceMul, reduceIte, Nat.reduceLeDiff, Nat.reduceLT, Nat.reduceBEq, reduceCtorEq, hP, sidesC, map_getD hkl, hI, Int.natCast_nonneg, Side.cds, hw1, hw2]); (repeat (refine And.intro (by first | omega | (intros; simp_all; done) | (intros; simp_all; omega)) ?_))))
      refine ⟨k + 1, by omega, by omega, ?_⟩
      rw [List.take_succ_eq_append_getElem hkl, List.map_append, List.sum_append]
      (refine Sub_of (by simp only [go_sem, init_env', Nat.reduceEqDiff, Nat.reduceAdd, Nat.reduceMul, reduceIte, Nat.reduceLeDiff, Nat.reduceLT, Nat.reduceBEq, reduceCtorEq]; ((repeat' (first | exact EnvLe_e0 _ _ | refine EnvLe_upd ?_ ?_)) <;> ((try simp only [upd_app, e0_app, o0_app, Nat.reduceEqDiff, reduceIte]); first | exact AWk.refl _ _ | exact AWk.int (by omega) | exact AWk.int (by rw [w64 (by omega) (by omega)]; omega) | exact AWk.grow rfl | exact AWk.nil _ | exact AWk.of (by simp)))) (by simp only [go_sem, init_env', Nat.reduceEqDiff, Nat.reduceAdd, Nat.reduceMul, reduceIte, Nat.reduceLeDiff, Nat.reduceLT, Nat.reduceBEq, reduceCtorEq]; ((repeat' (first | exact ObjLe_o0 _ | exact ObjLe.rfl' _ | refine ObjLe_same ?_ | refine ObjLe_upd ?_ ?_ | refine ObjLe_new rfl ?_)) <;> rfl)))
    · have h : k = r.sides.length := by simp at h; omega
      subst h
      rw [List.take_length]
      (repeat ((first | refine WV_seq_ ?_ | refine WV_block ?_ | refine WV_ops ?_ | refine WV_skip ?_ | refine WV_exit ?_); (try simp only [go_sem, init_env', Nat.reduceEqDiff, Nat.reduceAdd, Nat.reduceMul, reduceIte, Nat.reduceLeDiff, Nat.reduceLT, Nat.reduceBEq, reduceCtorEq, hP, ]); (repeat (refine And.intro (by first | omega | (intros; simp_all; done) | (intros; simp_all; omega)) ?_))))
      (refine WV_ret ?_; simp only [thenQ, inQ, RetQ, RetOk, resAll, resA]; simp only [go_sem, init_env', Nat.reduceEqDiff, Nat.reduceAdd, Nat.reduceMul, reduceIte, Nat.reduceLeDiff, Nat.reduceLT, Nat.reduceBEq, reduceCtorEq, tupA, AV.port, AV.portL, exists_eq_left', ]; (first | exact AVle.of rfl | refine AVle.of ?_ | skip))

def plainB (r : Royal) (e : Int) : Bool := e == if playsOf r = 0 then 3 else 0
theorem plain16 {r : Royal} (hr : RoyalOk r) (e : Int) : FSpec Try.prog 16 [r.av, iv e] (.c (.bool (plainB r e))) := by
  refine FSpec_of c16 (Nat.le_refl _) (by decide) fun C hP hN hC hL => ?_
  simp only [ir16, Royal.av]
  (repeat ((first | refine WV_seq_ ?_ | refine WV_block ?_ | refine WV_ops ?_ | refine WV_skip ?_ | refine WV_exit ?_); (try simp only [go_sem, init_env', Nat.reduceEqDiff, Nat.reduceAdd, Nat.reduceMul, reduceIte, Nat.reduceLeDiff, Nat.reduceLT, Nat.reduceBEq, reduceCtorEq, hP, ]); (repeat (refine And.intro (by first | omega | (intros; simp_all; done) | (intros; simp_all; omega)) ?_))))
  (refine AS_pure (plays21 hr) rfl rfl rfl rfl rfl ?_; simp only [go_sem, init_env', Nat.reduceEqDiff, Nat.reduceAdd, Nat.reduceMul, reduceIte, Nat.reduceLeDiff, Nat.reduceLT, Nat.reduceBEq, reduceCtorEq, hP, Royal.av]; (repeat (refine And.intro (by first | omega | (intros; simp_all; done) | (intros; simp_all; omega)) ?_)); (repeat ((first | refine WV_seq_ ?_ | refine WV_block ?_ | refine WV_ops ?_ | refine WV_skip ?_ | refine WV_exit ?_); (try simp only [go_sem, init_env', Nat.reduceEqDiff, Nat.reduceAdd, Nat.reduceMul, reduceIte, Nat.reduceLeDiff, Nat.reduceLT, Nat.reduceBEq, reduceCtorEq, hP, Royal.av]); (repeat (refine And.intro (by first | omega | (intros; simp_all; done) | (intros; simp_all; omega)) ?_)))))
  (refine WV_cond rfl (fun h => ?_) (fun h => ?_))
  · have h : playsOf r = 0 := by simpa using h
    (repeat ((first | refine WV_seq_ ?_ | refine WV_block ?_ | refine WV_ops ?_ | refine WV_skip ?_ | refine WV_exit ?_); (try simp only [go_sem, init_env', Nat.reduceEqDiff, Nat.reduceAdd, Nat.reduceMul, reduceIte, Nat.reduceLeDiff, Nat.reduceLT, Nat.reduceBEq, reduceCtorEq, hP, ]); (repeat (refine And.intro (by first | omega | (intros; simp_all; done) | (intros; simp_all; omega)) ?_))))
    (refine WV_ret ?_; simp only [thenQ, inQ, RetQ, RetOk, resAll, resA]; simp only [go_sem, init_env', Nat.reduceEqDiff, Nat.reduceAdd, Nat.reduceMul, reduceIte, Nat.reduceLeDiff, Nat.reduceLT, Nat.reduceBEq, reduceCtorEq, tupA, AV.port, AV.portL, exists_eq_left', ]; (first | exact AVle.of rfl | refine AVle.of ?_ | skip))
    simp [plainB, h]
  · have h : ¬ playsOf r = 0 := by simpa using h
    (repeat ((first | refine WV_seq_ ?_ | refine WV_block ?_ | refine WV_ops ?_ | refine WV_skip ?_ | refine WV_exit ?_); (try simp only [go_sem, init_env', Nat.reduceEqDiff, Nat.reduceAdd, Nat.reduceMul, reduceIte, Nat.reduceLeDiff, Nat.reduceLT, Nat.reduceBEq, reduceCtorEq, hP, ]); (repeat (refine And.intro (by first | omega | (intros; simp_all; done) | (intros; simp_all; omega)) ?_))))
    (refine WV_ret ?_; simp only [thenQ, inQ, RetQ, RetOk, resAll, resA]; simp only [go_sem, init_env', Nat.reduceEqDiff, Nat.reduceAdd, Nat.reduceMul, reduceIte, Nat.reduceLeDiff, Nat.reduceLT, Nat.reduceBEq, reduceCtorEq, tupA, AV.port, AV.portL, exists_eq_left', ]; (first | exact AVle.of rfl | refine AVle.of ?_ | skip))
    simp [plainB, h]

/-- The royal of the chapter's examples. -/
def exQ : Royal := ⟨100, [⟨3, [⟨0, 50⟩, ⟨1, 50⟩]⟩, ⟨1, [⟨1, 30⟩, ⟨2, 70⟩]⟩], [0, 40, 0]⟩
theorem example44 : FSpec Try.prog 44 [] exQ.av := by
  refine FSpec_of c44 (Nat.le_refl _) (by decide) fun C hP hN hC hL => ?_
  simp only [ir44]
  (repeat ((first | refine WV_seq_ ?_ | refine WV_block ?_ | refine WV_ops ?_ | refine WV_skip ?_ | refine WV_exit ?_); (try simp only [go_sem, init_env', Nat.reduceEqDiff, Nat.reduceAdd, Nat.reduceMul, reduceIte, Nat.reduceLeDiff, Nat.reduceLT, Nat.reduceBEq, reduceCtorEq, hP, ]); (repeat (refine And.intro (by first | omega | (intros; simp_all; done) | (intros; simp_all; omega)) ?_))))
  (refine WV_ret ?_; simp only [thenQ, inQ, RetQ, RetOk, resAll, resA]; simp only [go_sem, init_env', Nat.reduceEqDiff, Nat.reduceAdd, Nat.reduceMul, reduceIte, Nat.reduceLeDiff, Nat.reduceLT, Nat.reduceBEq, reduceCtorEq, tupA, AV.port, AV.portL, exists_eq_left', ]; (first | exact AVle.of rfl | refine AVle.of ?_ | skip))
theorem exExact : exactS exQ 0 = (75, 2, 0) := by kernel_rfl
theorem exShares : sharesS exQ = ([38, 45, 17], 0) := by kernel_rfl
theorem exPaid : settledS gPaid exQ = ([38, 5, 17], 0) := by kernel_rfl
theorem exLeast : leastS exQ 2 18 = (101, 0) := by kernel_rfl
theorem exOdd : oddS exQ 2 = (15, 0) := by kernel_rfl
set_option maxRecDepth 20000 in
set_option maxHeartbeats 8000000 in
theorem works14 : FSpec Try.prog 14 [] (.c (.bool true)) := by
  have h1 := exact22 exQ 0
  rw [exExact] at h1
  have h2 := shares15 exQ
  rw [exShares] at h2
  have h3 := paid38 exQ
  rw [exPaid] at h3
  have h4 := least26 exQ 2 18
  rw [exLeast] at h4
  have h5 := odd27 exQ 2
  rw [exOdd] at h5
  refine FSpec_of c14 (Nat.le_refl _) (by decide) fun C hP hN hC hL => ?_
  simp only [ir14]
  (repeat ((first | refine WV_seq_ ?_ | refine WV_block ?_ | refine WV_ops ?_ | refine WV_skip ?_ | refine WV_exit ?_); (try simp only [go_sem, init_env', Nat.reduceEqDiff, Nat.reduceAdd, Nat.reduceMul, reduceIte, Nat.reduceLeDiff, Nat.reduceLT, Nat.reduceBEq, reduceCtorEq, hP, ]); (repeat (refine And.intro (by first | omega | (intros; simp_all; done) | (intros; simp_all; omega)) ?_))))
  (refine AS_pure (example44) rfl rfl rfl rfl rfl ?_; simp only [go_sem, init_env', Nat.reduceEqDiff, Nat.reduceAdd, Nat.reduceMul, reduceIte, Nat.reduceLeDiff, Nat.reduceLT, Nat.reduceBEq, reduceCtorEq, hP, Royal.av]; (repeat (refine And.intro (by first | omega | (intros; simp_all; done) | (intros; simp_all; omega)) ?_)); (repeat ((first | refine WV_seq_ ?_ | refine WV_block ?_ | refine WV_ops ?_ | refine WV_skip ?_ | refine WV_exit ?_); (try simp only [go_sem, init_env', Nat.reduceEqDiff, Nat.reduceAdd, Nat.reduceMul, reduceIte, Nat.reduceLeDiff, Nat.reduceLT, Nat.reduceBEq, reduceCtorEq, hP, Royal.av]); (repeat (refine And.intro (by first | omega | (intros; simp_all; done) | (intros; simp_all; omega)) ?_)))))
  (refine AS_pure (h1) rfl rfl rfl rfl rfl ?_; simp only [go_sem, init_env', Nat.reduceEqDiff, Nat.reduceAdd, Nat.reduceMul, reduceIte, Nat.reduceLeDiff, Nat.reduceLT, Nat.reduceBEq, reduceCtorEq, hP, Royal.av]; (repeat (refine And.intro (by first | omega | (intros; simp_all; done) | (intros; simp_all; omega)) ?_)); (repeat ((first | refine WV_seq_ ?_ | refine WV_block ?_ | refine WV_ops ?_ | refine WV_skip ?_ | refine WV_exit ?_); (try simp only [go_sem, init_env', Nat.reduceEqDiff, Nat.reduceAdd, Nat.reduceMul, reduceIte, Nat.reduceLeDiff, Nat.reduceLT, Nat.reduceBEq, reduceCtorEq, hP, Royal.av]); (repeat (refine And.intro (by first | omega | (intros; simp_all; done) | (intros; simp_all; omega)) ?_)))))
  (refine AS_pure (h2) rfl rfl rfl rfl rfl ?_; simp only [go_sem, init_env', Nat.reduceEqDiff, Nat.reduceAdd, Nat.reduceMul, reduceIte, Nat.reduceLeDiff, Nat.reduceLT, Nat.reduceBEq, reduceCtorEq, hP, Royal.av]; (repeat (refine And.intro (by first | omega | (intros; simp_all; done) | (intros; simp_all; omega)) ?_)); (repeat ((first | refine WV_seq_ ?_ | refine WV_block ?_ | refine WV_ops ?_ | refine WV_skip ?_ | refine WV_exit ?_); (try simp only [go_sem, init_env', Nat.reduceEqDiff, Nat.reduceAdd, Nat.reduceMul, reduceIte, Nat.reduceLeDiff, Nat.reduceLT, Nat.reduceBEq, reduceCtorEq, hP, Royal.av]); (repeat (refine And.intro (by first | omega | (intros; simp_all; done) | (intros; simp_all; omega)) ?_)))))
  (refine AS_pure (h3) rfl rfl rfl rfl rfl ?_; simp only [go_sem, init_env', Nat.reduceEqDiff, Nat.reduceAdd, Nat.reduceMul, reduceIte, Nat.reduceLeDiff, Nat.reduceLT, Nat.reduceBEq, reduceCtorEq, hP, Royal.av]; (repeat (refine And.intro (by first | omega | (intros; simp_all; done) | (intros; simp_all; omega)) ?_)); (repeat ((first | refine WV_seq_ ?_ | refine WV_block ?_ | refine WV_ops ?_ | refine WV_skip ?_ | refine WV_exit ?_); (try simp only [go_sem, init_env', Nat.reduceEqDiff, Nat.reduceAdd, Nat.reduceMul, reduceIte, Nat.reduceLeDiff, Nat.reduceLT, Nat.reduceBEq, reduceCtorEq, hP, Royal.av]); (repeat (refine And.intro (by first | omega | (intros; simp_all; done) | (intros; simp_all; omega)) ?_)))))
  (refine AS_pure (h4) rfl rfl rfl rfl rfl ?_; simp only [go_sem, init_env', Nat.reduceEqDiff, Nat.reduceAdd, Nat.reduceMul, reduceIte, Nat.reduceLeDiff, Nat.reduceLT, Nat.reduceBEq, reduceCtorEq, hP, Royal.av]; (repeat (refine And.intro (by first | omega | (intros; simp_all; done) | (intros; simp_all; omega)) ?_)); (repeat ((first | refine WV_seq_ ?_ | refine WV_block ?_ | refine WV_ops ?_ | refine WV_skip ?_ | refine WV_exit ?_); (try simp only [go_sem, init_env', Nat.reduceEqDiff, Nat.reduceAdd, Nat.reduceMul, reduceIte, Nat.reduceLeDiff, Nat.reduceLT, Nat.reduceBEq, reduceCtorEq, hP, Royal.av]); (repeat (refine And.intro (by first | omega | (intros; simp_all; done) | (intros; simp_all; omega)) ?_)))))
  (refine AS_pure (h5) rfl rfl rfl rfl rfl ?_; simp only [go_sem, init_env', Nat.reduceEqDiff, Nat.reduceAdd, Nat.reduceMul, reduceIte, Nat.reduceLeDiff, Nat.reduceLT, Nat.reduceBEq, reduceCtorEq, hP, Royal.av, beq_self_eq_true]; (repeat (refine And.intro (by first | omega | (intros; simp_all; done) | (intros; simp_all; omega)) ?_)); (repeat ((first | refine WV_seq_ ?_ | refine WV_block ?_ | refine WV_ops ?_ | refine WV_skip ?_ | refine WV_exit ?_); (try simp only [go_sem, init_env', Nat.reduceEqDiff, Nat.reduceAdd, Nat.reduceMul, reduceIte, Nat.reduceLeDiff, Nat.reduceLT, Nat.reduceBEq, reduceCtorEq, hP, Royal.av, beq_self_eq_true]); (repeat (refine And.intro (by first | omega | (intros; simp_all; done) | (intros; simp_all; omega)) ?_)))))
  (refine AG_pure (fun hG => same34 [38, 45, 17] [38, 45, 17]) rfl (fun hG => by first | (simp only [go_sem, init_env', Nat.reduceEqDiff, Nat.reduceAdd, Nat.reduceMul, reduceIte, Nat.reduceLeDiff, Nat.reduceLT, Nat.reduceBEq, reduceCtorEq, hG]; done) | (simp only [go_sem, init_env', Nat.reduceEqDiff, Nat.reduceAdd, Nat.reduceMul, reduceIte, Nat.reduceLeDiff, Nat.reduceLT, Nat.reduceBEq, reduceCtorEq]; revert hG; simp; done) | (simp only [go_sem, init_env', Nat.reduceEqDiff, Nat.reduceAdd, Nat.reduceMul, reduceIte, Nat.reduceLeDiff, Nat.reduceLT, Nat.reduceBEq, reduceCtorEq, hG]; simp_all; done) | (revert hG; simp; done) | simp_all) rfl rfl rfl ?_; simp only [go_sem, init_env', Nat.reduceEqDiff, Nat.reduceAdd, Nat.reduceMul, reduceIte, Nat.reduceLeDiff, Nat.reduceLT, Nat.reduceBEq, reduceCtorEq, hP, beq_self_eq_true, decide_true]; (repeat (refine And.intro (by first | omega | (intros; simp_all; done) | (intros; simp_all; omega)) ?_)); (repeat ((first | refine WV_seq_ ?_ | refine WV_block ?_ | refine WV_ops ?_ | refine WV_skip ?_ | refine WV_exit ?_); (try simp only [go_sem, init_env', Nat.reduceEqDiff, Nat.reduceAdd, Nat.reduceMul, reduceIte, Nat.reduceLeDiff, Nat.reduceLT, Nat.reduceBEq, reduceCtorEq, hP, beq_self_eq_true, decide_true]); (repeat (refine And.intro (by first | omega | (intros; simp_all; done) | (intros; simp_all; omega)) ?_)))))
  (refine AG_pure (fun hG => same34 [38, 5, 17] [38, 5, 17]) rfl (fun hG => by first | (simp only [go_sem, init_env', Nat.reduceEqDiff, Nat.reduceAdd, Nat.reduceMul, reduceIte, Nat.reduceLeDiff, Nat.reduceLT, Nat.reduceBEq, reduceCtorEq, hG]; done) | (simp only [go_sem, init_env', Nat.reduceEqDiff, Nat.reduceAdd, Nat.reduceMul, reduceIte, Nat.reduceLeDiff, Nat.reduceLT, Nat.reduceBEq, reduceCtorEq]; revert hG; simp; done) | (simp only [go_sem, init_env', Nat.reduceEqDiff, Nat.reduceAdd, Nat.reduceMul, reduceIte, Nat.reduceLeDiff, Nat.reduceLT, Nat.reduceBEq, reduceCtorEq, hG]; simp_all; done) | (revert hG; simp; done) | simp_all) rfl rfl rfl ?_; simp only [go_sem, init_env', Nat.reduceEqDiff, Nat.reduceAdd, Nat.reduceMul, reduceIte, Nat.reduceLeDiff, Nat.reduceLT, Nat.reduceBEq, reduceCtorEq, hP, beq_self_eq_true, decide_true]; (repeat (refine And.intro (by first | omega | (intros; simp_all; done) | (intros; simp_all; omega)) ?_)); (repeat ((first | refine WV_seq_ ?_ | refine WV_block ?_ | refine WV_ops ?_ | refine WV_skip ?_ | refine WV_exit ?_); (try simp only [go_sem, init_env', Nat.reduceEqDiff, Nat.reduceAdd, Nat.reduceMul, reduceIte, Nat.reduceLeDiff, Nat.reduceLT, Nat.reduceBEq, reduceCtorEq, hP, beq_self_eq_true, decide_true]); (repeat (refine And.intro (by first | omega | (intros; simp_all; done) | (intros; simp_all; omega)) ?_)))))
  (refine WV_ret ?_; simp only [thenQ, inQ, RetQ, RetOk, resAll, resA]; simp only [go_sem, init_env', Nat.reduceEqDiff, Nat.reduceAdd, Nat.reduceMul, reduceIte, Nat.reduceLeDiff, Nat.reduceLT, Nat.reduceBEq, reduceCtorEq, tupA, AV.port, AV.portL, exists_eq_left', ]; (first | exact AVle.of rfl | refine AVle.of ?_ | skip))
end Go.Proofs.Ytnmchaemhjnkgaa

/-
  The shares are the pool together: plain.
-/
namespace Go.Proofs.Ytnmchaemhjnkgaa
open Go Go.V

theorem weighE_ok {r : Royal} (h : r.ok = true) : weighE r true = if allW r = 0 then 3 else 0 := by
  unfold weighE; rw [if_pos h, if_pos rfl]
theorem weighE_plain {r : Royal} (h : r.ok = true) : plainB r (weighE r true) = true := by
  have := allW_plays r
  rw [weighE_ok h]
  unfold plainB
  by_cases h0 : playsOf r = 0
  · rw [if_pos h0, if_pos (by omega)]; rfl
  · rw [if_neg h0, if_neg (by omega)]; rfl
end Go.Proofs.Ytnmchaemhjnkgaa

/-
  What is rounded once: plain.
-/
namespace Go.Proofs.Ytnmchaemhjnkgaa
open Go Go.V

theorem sum_perm {l l' : List Int} (h : l.Perm l') : l.sum = l'.sum := by
  induction h with
  | nil => rfl
  | cons x _ ih => simp only [List.sum_cons, ih]
  | swap x y l => simp only [List.sum_cons]; omega
  | trans _ _ h1 h2 => exact h1.trans h2
/-! ### The exact part, as the reference reckons it -/
def partS (pl who : Int) (ps : List Part) : Int := (ps.map fun p => if p.who = who then pl * p.pc else 0).sum
theorem getD_set {l : List Int} {i k : Nat} {x : Int} (h : i < l.length) : (l.set i x).getD k 0 = if i = k then x else l.getD k 0 := by
  rw [List.getD_eq_getElem?_getD, List.getElem?_set]
  split
  · rename_i e; subst e; simp [h]
  · rw [List.getD_eq_getElem?_getD]
theorem addP_get {n : Nat} (pl : Int) (k : Nat) : ∀ (ps : List Part) (l : List Int), l.length = n → (∀ p ∈ ps, 0 ≤ p.who ∧ p.who < (n : Int)) → (ps.foldl (addP pl) l).getD k 0 = l.getD k 0 + partS pl k ps
  | [], l, _, _ => by simp [partS]
  | p :: ps, l, hl, h => by
    have hp := h p (by simp)
    rw [List.foldl_cons, addP_get pl k ps (addP pl l p) (by simp [addP, hl]) fun q hq => h q (by simp [hq])]
    unfold addP
    rw [getD_set (by omega)]
    simp only [partS, List.map_cons, List.sum_cons]
    by_cases e : p.who.toNat = k
    · have e2 : p.who = (k : Int) := by omega
      rw [if_pos e, if_pos e2, e]; omega
    · have e2 : ¬ p.who = (k : Int) := by omega
      rw [if_neg e, if_neg e2]; omega
theorem wts_get {r : Royal} (hr : RoyalOk r) (k : Nat) : (wts r).getD k 0 = (r.sides.map fun s => partS s.plays k s.parts).sum := by
  have h : ∀ (ss : List Side) (l : List Int), (∀ s ∈ ss, s ∈ r.sides) → l.length = r.n → (ss.foldl addS l).getD k 0 = l.getD k 0 + (ss.map fun s => partS s.plays k s.parts).sum := by
    intro ss
    induction ss with
    | nil => intro l _ _; simp
    | cons s ss ih =>
      intro l hm hl
      have hs := hm s (by simp)
      rw [List.foldl_cons, ih _ (fun t ht => hm t (by simp [ht])) (by rw [addS_len]; exact hl)]
      have : (addS l s).getD k 0 = l.getD k 0 + partS s.plays k s.parts := addP_get (n := r.n) s.plays k s.parts l hl fun p hp => ⟨(hr.part s hs p hp).1, (hr.part s hs p hp).2.1⟩
      rw [this, List.map_cons, List.sum_cons]
      omega
  unfold wts
  rw [h _ _ (fun s hs => hs) (by simp [zeros])]
  have : (zeros r.n).getD k 0 = 0 := by
    unfold zeros
    rw [List.getD_eq_getElem?_getD, List.getElem?_replicate]
    split <;> rfl
  omega
end Go.Proofs.Ytnmchaemhjnkgaa

namespace Go.Proofs.Ytnmchaemhjnkgaa
open Go Go.V
@[reducible] def o3_0 : List Ins := [⟨(some 1), .box 3 (.t 0), none, true⟩,
  ⟨(some 2), .mv (.k (.c (.bool false))), none, true⟩]
@[reducible] def o3_1 : List Ins := [⟨(some 12), .ld false 3 (.t 1), none, true⟩,
  ⟨(some 13), .call (.k (.fn 13 [])) [(.t 12)], none, true⟩,
  ⟨(some 14), .un .not (.t 13), none, true⟩]
@[reducible] def o3_2 : List Ins := [⟨(some 15), .call (.k (.fn 14 [])) [], none, true⟩,
  ⟨(some 2), .mv (.t 15), none, true⟩]
@[reducible] def v3_3 : VC := (.seq (.ops o3_2) .ret)
@[reducible] def v3_4 : VC := (.cond (.t 14) v3_3 .skip)
@[reducible] def o3_5 : List Ins := [⟨(some 17), .ld false 3 (.t 1), none, true⟩,
  ⟨(some 18), .call (.k (.fn 15 [])) [(.t 17)], none, true⟩,
  ⟨(some 16), .mv (.t 18), none, true⟩,
  ⟨(some 19), .ext (.t 16) 0, none, true⟩,
  ⟨(some 20), .ext (.t 16) 1, none, true⟩,
  ⟨(some 3), .mv (.t 19), none, true⟩,
  ⟨(some 4), .mv (.t 20), none, true⟩]
@[reducible] def o3_6 : List Ins := [⟨(some 21), .ld false 3 (.t 1), none, true⟩,
  ⟨(some 22), .mv (.t 4), none, true⟩,
  ⟨(some 23), .call (.k (.fn 16 [])) [(.t 21), (.t 22)], none, true⟩,
  ⟨(some 24), .un .not (.t 23), none, true⟩]
@[reducible] def o3_7 : List Ins := [⟨(some 2), .mv (.k (.c (.bool false))), none, true⟩]
@[reducible] def v3_8 : VC := (.seq (.ops o3_7) .ret)
@[reducible] def v3_9 : VC := (.cond (.t 24) v3_8 .skip)
@[reducible] def o3_10 : List Ins := [⟨(some 25), .mv (.t 4), none, true⟩,
  ⟨(some 26), .bin .neq (.t 25) (.k (.c (.int .i64 0))), none, true⟩]
@[reducible] def o3_11 : List Ins := [⟨(some 27), .mv (.t 3), none, true⟩,
  ⟨(some 28), .len (.t 27), none, true⟩,
  ⟨(some 29), .bin .eql (.t 28) (.k (.c (.int .i64 0))), none, true⟩,
  ⟨(some 30), .mv (.t 29), none, true⟩,
  ⟨(some 31), .call (.k (.fn 14 [])) [], (some (30, true)), true⟩,
  ⟨(some 32), .pick (.t 30) (.t 31) (.k (.c (.bool false))), none, true⟩,
  ⟨(some 2), .mv (.t 32), none, true⟩]
@[reducible] def v3_12 : VC := (.seq (.ops o3_11) .ret)
@[reducible] def v3_13 : VC := (.cond (.t 26) v3_12 .skip)
@[reducible] def o3_14 : List Ins := [⟨(some 33), .ld false 3 (.t 1), none, true⟩,
  ⟨(some 34), .mv (.t 3), none, true⟩,
  ⟨(some 35), .call (.k (.fn 17 [])) [(.t 33), (.t 34), (.k (.c (.int .i64 9999)))], none, true⟩,
  ⟨(some 36), .un .not (.t 35), none, true⟩]
@[reducible] def o3_15 : List Ins := [⟨(some 2), .mv (.k (.c (.bool false))), none, true⟩]
@[reducible] def v3_16 : VC := (.seq (.ops o3_15) .ret)
@[reducible] def v3_17 : VC := (.cond (.t 36) v3_16 .skip)
@[reducible] def o3_18 : List Ins := [⟨(some 5), .mv (.k (.c (.int .i64 0))), none, true⟩]
@[reducible] def o3_19 : List Ins := [⟨(some 6), .mv (.k (.c (.int .i64 0))), none, true⟩]
@[reducible] def o3_20 : List Ins := [⟨(some 37), .mv (.t 6), none, true⟩,
  ⟨(some 38), .mv (.t 3), none, true⟩,
  ⟨(some 39), .len (.t 38), none, true⟩,
  ⟨(some 40), .bin .lss (.t 37) (.t 39), none, true⟩]
@[reducible] def v3_21 : VC := (.cond (.t 40) .skip (.exit 0))
@[reducible] def o3_22 : List Ins := [⟨(some 44), .ld false 3 (.t 1), none, true⟩,
  ⟨(some 45), .mv (.t 6), none, true⟩,
  ⟨(some 46), .call (.k (.fn 18 [])) [(.t 44), (.t 45)], none, true⟩,
  ⟨(some 43), .mv (.t 46), none, true⟩,
  ⟨(some 47), .ext (.t 43) 0, none, true⟩,
  ⟨(some 48), .ext (.t 43) 1, none, true⟩,
  ⟨(some 7), .mv (.t 47), none, true⟩,
  ⟨(some 8), .mv (.t 48), none, true⟩]
@[reducible] def o3_23 : List Ins := [⟨(some 49), .mv (.t 3), none, false⟩,
  ⟨(some 50), .mv (.t 6), none, false⟩,
  ⟨(some 51), .ia 1 (.t 49) (.t 50), none, false⟩,
  ⟨(some 52), .ld true 1 (.t 51), none, false⟩,
  ⟨(some 53), .mv (.t 7), none, false⟩,
  ⟨(some 54), .mv (.t 8), none, false⟩,
  ⟨(some 55), .bin .quo (.t 53) (.t 54), none, false⟩,
  ⟨(some 56), .bin .lss (.t 52) (.t 55), none, true⟩,
  ⟨(some 57), .mv (.t 56), none, true⟩,
  ⟨(some 58), .mv (.t 3), (some (57, false)), false⟩,
  ⟨(some 59), .mv (.t 6), (some (57, false)), false⟩,
  ⟨(some 60), .ia 1 (.t 58) (.t 59), (some (57, false)), false⟩,
  ⟨(some 61), .ld true 1 (.t 60), (some (57, false)), false⟩,
  ⟨(some 62), .mv (.t 7), (some (57, false)), false⟩,
  ⟨(some 63), .mv (.t 8), (some (57, false)), false⟩,
  ⟨(some 64), .bin .quo (.t 62) (.t 63), (some (57, false)), false⟩,
  ⟨(some 65), .bin .add (.t 64) (.k (.c (.int .i64 1))), (some (57, false)), false⟩,
  ⟨(some 66), .bin .gtr (.t 61) (.t 65), (some (57, false)), true⟩,
  ⟨(some 67), .pick (.t 57) (.k (.c (.bool true))) (.t 66), none, true⟩,
  ⟨(some 68), .mv (.t 67), none, true⟩,
  ⟨(some 69), .mv (.t 7), (some (68, false)), false⟩,
  ⟨(some 70), .mv (.t 8), (some (68, false)), false⟩,
  ⟨(some 71), .bin .rem (.t 69) (.t 70), (some (68, false)), true⟩,
  ⟨(some 72), .bin .eql (.t 71) (.k (.c (.int .i64 0))), (some (68, false)), true⟩,
  ⟨(some 73), .mv (.t 72), (some (68, false)), true⟩,
  ⟨(some 74), .mv (.t 3), (some (73, true)), false⟩,
  ⟨(some 75), .mv (.t 6), (some (73, true)), false⟩,
  ⟨(some 76), .ia 1 (.t 74) (.t 75), (some (73, true)), false⟩,
  ⟨(some 77), .ld true 1 (.t 76), (some (73, true)), false⟩,
  ⟨(some 78), .mv (.t 7), (some (73, true)), false⟩,
  ⟨(some 79), .mv (.t 8), (some (73, true)), false⟩,
  ⟨(some 80), .bin .quo (.t 78) (.t 79), (some (73, true)), false⟩,
  ⟨(some 81), .bin .neq (.t 77) (.t 80), (some (73, true)), true⟩,
  ⟨(some 82), .pick (.t 73) (.t 81) (.k (.c (.bool false))), (some (68, false)), true⟩,
  ⟨(some 83), .pick (.t 68) (.k (.c (.bool true))) (.t 82), none, true⟩]
@[reducible] def o3_24 : List Ins := [⟨(some 2), .mv (.k (.c (.bool false))), none, true⟩]
@[reducible] def v3_25 : VC := (.seq (.ops o3_24) .ret)
@[reducible] def v3_26 : VC := (.cond (.t 83) v3_25 .skip)
@[reducible] def o3_27 : List Ins := [⟨(some 84), .mv (.t 5), none, true⟩,
  ⟨(some 85), .mv (.t 3), none, true⟩,
  ⟨(some 86), .mv (.t 6), none, true⟩,
  ⟨(some 87), .ia 1 (.t 85) (.t 86), none, true⟩,
  ⟨(some 88), .ld true 1 (.t 87), none, true⟩,
  ⟨(some 89), .bin .add (.t 84) (.t 88), none, true⟩,
  ⟨(some 5), .mv (.t 89), none, true⟩]
@[reducible] def o3_28 : List Ins := [⟨(some 9), .mv (.k (.c (.int .i64 0))), none, true⟩]
@[reducible] def o3_29 : List Ins := [⟨(some 90), .mv (.t 9), none, true⟩,
  ⟨(some 91), .mv (.t 3), none, true⟩,
  ⟨(some 92), .len (.t 91), none, true⟩,
  ⟨(some 93), .bin .lss (.t 90) (.t 92), none, true⟩]
@[reducible] def v3_30 : VC := (.cond (.t 93) .skip (.exit 2))
@[reducible] def o3_31 : List Ins := [⟨(some 97), .ld false 3 (.t 1), none, true⟩,
  ⟨(some 98), .mv (.t 9), none, true⟩,
  ⟨(some 99), .call (.k (.fn 18 [])) [(.t 97), (.t 98)], none, true⟩,
  ⟨(some 96), .mv (.t 99), none, true⟩,
  ⟨(some 100), .ext (.t 96) 0, none, true⟩,
  ⟨(some 101), .ext (.t 96) 1, none, true⟩,
  ⟨(some 10), .mv (.t 100), none, true⟩,
  ⟨(some 11), .mv (.t 101), none, true⟩]
@[reducible] def o3_32 : List Ins := [⟨(some 102), .mv (.t 10), none, false⟩,
  ⟨(some 103), .mv (.t 7), none, false⟩,
  ⟨(some 104), .bin .gtr (.t 102) (.t 103), none, true⟩,
  ⟨(some 105), .mv (.t 104), none, true⟩,
  ⟨(some 106), .mv (.t 3), (some (105, true)), false⟩,
  ⟨(some 107), .mv (.t 9), (some (105, true)), false⟩,
  ⟨(some 108), .ia 1 (.t 106) (.t 107), (some (105, true)), false⟩,
  ⟨(some 109), .ld true 1 (.t 108), (some (105, true)), false⟩,
  ⟨(some 110), .mv (.t 3), (some (105, true)), false⟩,
  ⟨(some 111), .mv (.t 6), (some (105, true)), false⟩,
  ⟨(some 112), .ia 1 (.t 110) (.t 111), (some (105, true)), false⟩,
  ⟨(some 113), .ld true 1 (.t 112), (some (105, true)), false⟩,
  ⟨(some 114), .bin .lss (.t 109) (.t 113), (some (105, true)), true⟩,
  ⟨(some 115), .pick (.t 105) (.t 114) (.k (.c (.bool false))), none, true⟩]
@[reducible] def o3_33 : List Ins := [⟨(some 2), .mv (.k (.c (.bool false))), none, true⟩]
@[reducible] def v3_34 : VC := (.seq (.ops o3_33) .ret)
@[reducible] def v3_35 : VC := (.cond (.t 115) v3_34 .skip)
@[reducible] def v3_36 : VC := (.seq (.ops o3_32) v3_35)
@[reducible] def v3_37 : VC := (.seq (.ops o3_31) v3_36)
@[reducible] def o3_38 : List Ins := [⟨(some 94), .mv (.t 9), none, true⟩,
  ⟨(some 95), .bin .add (.t 94) (.k (.c (.int .i64 1))), none, true⟩,
  ⟨(some 9), .mv (.t 95), none, true⟩]
@[reducible] def v3_39 : VC := (.seq (.block 3 v3_37) (.ops o3_38))
@[reducible] def v3_40 : VC := (.seq (.seq (.ops o3_29) v3_30) v3_39)
-- K3_2: changed and kept: [9]
@[reducible] def v3_41 : VC := (.loop v3_40)
@[reducible] def v3_42 : VC := (.block 2 v3_41)
@[reducible] def v3_43 : VC := (.seq (.ops o3_28) v3_42)
@[reducible] def v3_44 : VC := (.seq (.ops o3_27) v3_43)
@[reducible] def v3_45 : VC := (.seq (.seq (.ops o3_23) v3_26) v3_44)
@[reducible] def v3_46 : VC := (.seq (.ops o3_22) v3_45)
@[reducible] def o3_47 : List Ins := [⟨(some 41), .mv (.t 6), none, true⟩,
  ⟨(some 42), .bin .add (.t 41) (.k (.c (.int .i64 1))), none, true⟩,
  ⟨(some 6), .mv (.t 42), none, true⟩]
@[reducible] def v3_48 : VC := (.seq (.block 1 v3_46) (.ops o3_47))
@[reducible] def v3_49 : VC := (.seq (.seq (.ops o3_20) v3_21) v3_48)
-- K3_1: changed and kept: [6, 5]
@[reducible] def v3_50 : VC := (.loop v3_49)
@[reducible] def v3_51 : VC := (.block 0 v3_50)
@[reducible] def o3_52 : List Ins := [⟨(some 116), .mv (.t 5), none, true⟩,
  ⟨(some 117), .fa 0 (.t 1), none, true⟩,
  ⟨(some 118), .ld true 1 (.t 117), none, true⟩,
  ⟨(some 119), .bin .eql (.t 116) (.t 118), none, true⟩,
  ⟨(some 120), .mv (.t 119), none, true⟩,
  ⟨(some 121), .call (.k (.fn 14 [])) [], (some (120, true)), true⟩,
  ⟨(some 122), .pick (.t 120) (.t 121) (.k (.c (.bool false))), none, true⟩,
  ⟨(some 2), .mv (.t 122), none, true⟩]
@[reducible] def v3_53 : VC := (.seq (.ops o3_52) .ret)
@[reducible] def v3_54 : VC := (.seq (.seq (.ops o3_19) v3_51) v3_53)
@[reducible] def v3_55 : VC := (.seq (.ops o3_18) v3_54)
@[reducible] def v3_56 : VC := (.seq (.seq (.ops o3_14) v3_17) v3_55)
@[reducible] def v3_57 : VC := (.seq (.seq (.ops o3_10) v3_13) v3_56)
@[reducible] def v3_58 : VC := (.seq (.seq (.ops o3_6) v3_9) v3_57)
@[reducible] def v3_59 : VC := (.seq (.ops o3_5) v3_58)
@[reducible] def v3_60 : VC := (.seq (.seq (.ops o3_1) v3_4) v3_59)
def ir3 : FC := ⟨1, 123, [.t 2], (.seq (.ops o3_0) v3_60)⟩
theorem c3 : compM Try.prog [] 3 = some ir3 := by kernel_rfl



end Go.Proofs.Ytnmchaemhjnkgaa

namespace Go.Proofs.Ytnmchaemhjnkgaa
open Go Go.V
namespace W
@[reducible] def o24_0 : List Ins := [⟨(some 1), .box 3 (.t 0), none, true⟩,
  ⟨(some 2), .alloc [(.c (.int .i64 0)), (.c (.raw (.slice none 0 0))), (.c (.raw (.slice none 0 0)))], none, true⟩]
@[reducible] def o24_1 : List Ins := [⟨(some 5), .ld false 3 (.t 1), none, true⟩,
  ⟨(some 3), .alloc [(.c (.int .i64 0)), (.c (.raw (.slice none 0 0))), (.c (.raw (.slice none 0 0)))], none, true⟩,
  ⟨none, .st 3 (.t 3) (.t 5), none, true⟩]
@[reducible] def o24_2 : List Ins := [⟨(some 6), .bsl 3 1 [], none, true⟩,
  ⟨(some 7), .fa 2 (.t 1), none, true⟩,
  ⟨(some 8), .ld true 1 (.t 7), none, true⟩,
  ⟨(some 9), .app 3 1 8 (.t 6) (.t 8), none, true⟩,
  ⟨(some 10), .fa 1 (.t 3), none, true⟩,
  ⟨none, .st 1 (.t 10) (.k (.c (.raw (.slice none 0 0)))), none, true⟩,
  ⟨(some 11), .fa 2 (.t 3), none, true⟩,
  ⟨none, .st 1 (.t 11) (.t 9), none, true⟩]
@[reducible] def o24_3 : List Ins := [⟨(some 4), .mv (.k (.c (.int .i64 0))), none, true⟩]
@[reducible] def o24_4 : List Ins := [⟨(some 12), .mv (.t 4), none, true⟩,
  ⟨(some 13), .fa 1 (.t 1), none, true⟩,
  ⟨(some 14), .ld true 1 (.t 13), none, true⟩,
  ⟨(some 15), .len (.t 14), none, true⟩,
  ⟨(some 16), .bin .lss (.t 12) (.t 15), none, true⟩]
@[reducible] def v24_5 : VC := (.cond (.t 16) .skip (.exit 0))
@[reducible] def o24_6 : List Ins := [⟨(some 19), .fa 1 (.t 3), none, false⟩,
  ⟨(some 20), .ld true 1 (.t 19), none, false⟩,
  ⟨(some 21), .fa 1 (.t 1), none, false⟩,
  ⟨(some 22), .ld true 1 (.t 21), none, false⟩,
  ⟨(some 23), .mv (.t 4), none, false⟩,
  ⟨(some 27), .bsl 47 2 [], none, false⟩,
  ⟨(some 28), .fa 1 (.t 1), none, false⟩,
  ⟨(some 29), .ld true 1 (.t 28), none, false⟩,
  ⟨(some 30), .mv (.t 4), none, false⟩,
  ⟨(some 31), .ia 2 (.t 29) (.t 30), none, false⟩,
  ⟨(some 32), .fa 1 (.t 31), none, false⟩,
  ⟨(some 33), .ld true 1 (.t 32), none, false⟩,
  ⟨(some 34), .app 47 2 16 (.t 27) (.t 33), none, false⟩,
  ⟨(some 24), .ia 2 (.t 22) (.t 23), none, false⟩,
  ⟨(some 25), .fa 0 (.t 24), none, false⟩,
  ⟨(some 26), .ld true 1 (.t 25), none, false⟩,
  ⟨(some 35), .bld [(.c (.int .i64 0)), (.c (.raw (.slice none 0 0)))] [(0, 1, (.t 26)), (1, 1, (.t 34))], none, false⟩,
  ⟨(some 36), .bsl 44 2 [(.t 35)], none, false⟩,
  ⟨(some 37), .appv 44 2 32 (.t 20) (.t 36), none, true⟩,
  ⟨(some 38), .fa 1 (.t 3), none, true⟩,
  ⟨none, .st 1 (.t 38) (.t 37), none, true⟩]
@[reducible] def o24_7 : List Ins := [⟨(some 17), .mv (.t 4), none, true⟩,
  ⟨(some 18), .bin .add (.t 17) (.k (.c (.int .i64 1))), none, true⟩,
  ⟨(some 4), .mv (.t 18), none, true⟩]
@[reducible] def v24_8 : VC := (.seq (.block 1 (.ops o24_6)) (.ops o24_7))
@[reducible] def v24_9 : VC := (.seq (.seq (.ops o24_4) v24_5) v24_8)
-- K24_1: changed and kept: [4]
@[reducible] def K24_1 : List Nat := [1, 2, 3]
@[reducible] def v24_10 : VC := (.loop v24_9)
@[reducible] def v24_11 : VC := (.block 0 v24_10)
@[reducible] def o24_12 : List Ins := [⟨(some 39), .ld false 3 (.t 3), none, true⟩,
  ⟨none, .st 3 (.t 2) (.t 39), none, true⟩]
@[reducible] def v24_13 : VC := (.seq (.ops o24_12) .ret)
@[reducible] def v24_14 : VC := (.seq (.seq (.ops o24_3) v24_11) v24_13)
@[reducible] def v24_15 : VC := (.seq (.ops o24_2) v24_14)
@[reducible] def v24_16 : VC := (.seq (.ops o24_1) v24_15)
def ir24 : FC := ⟨1, 40, [.cell 2 false 3], (.seq (.ops o24_0) v24_16)⟩
theorem c24 : compM Try.prog [100037] 24 = some ir24 := by kernel_rfl

end W
@[reducible] def o24_0 : List Ins := [⟨(some 1), .box 3 (.t 0), none, true⟩,
  ⟨(some 2), .alloc [(.c (.int .i64 0)), (.c (.raw (.slice none 0 0))), (.c (.raw (.slice none 0 0)))], none, true⟩]
@[reducible] def o24_1 : List Ins := [⟨(some 5), .ld false 3 (.t 1), none, true⟩,
  ⟨(some 3), .alloc [(.c (.int .i64 0)), (.c (.raw (.slice none 0 0))), (.c (.raw (.slice none 0 0)))], none, true⟩,
  ⟨none, .st 3 (.t 3) (.t 5), none, true⟩]
@[reducible] def o24_2 : List Ins := [⟨(some 6), .bsl 3 1 [], none, true⟩,
  ⟨(some 7), .fa 2 (.t 1), none, true⟩,
  ⟨(some 8), .ld true 1 (.t 7), none, true⟩,
  ⟨(some 9), .app 3 1 8 (.t 6) (.t 8), none, true⟩,
  ⟨(some 10), .fa 1 (.t 3), none, true⟩,
  ⟨none, .st 1 (.t 10) (.k (.c (.raw (.slice none 0 0)))), none, true⟩,
  ⟨(some 11), .fa 2 (.t 3), none, true⟩,
  ⟨none, .st 1 (.t 11) (.t 9), none, true⟩]
@[reducible] def o24_3 : List Ins := [⟨(some 4), .mv (.k (.c (.int .i64 0))), none, true⟩]
@[reducible] def o24_4 : List Ins := [⟨(some 12), .mv (.t 4), none, true⟩,
  ⟨(some 13), .fa 1 (.t 1), none, true⟩,
  ⟨(some 14), .ld true 1 (.t 13), none, true⟩,
  ⟨(some 15), .len (.t 14), none, true⟩,
  ⟨(some 16), .bin .lss (.t 12) (.t 15), none, true⟩]
@[reducible] def v24_5 : VC := (.cond (.t 16) .skip (.exit 0))
@[reducible] def o24_6 : List Ins := [⟨(some 19), .fa 1 (.t 3), none, false⟩,
  ⟨(some 20), .ld true 1 (.t 19), none, false⟩,
  ⟨(some 21), .fa 1 (.t 1), none, false⟩,
  ⟨(some 22), .ld true 1 (.t 21), none, false⟩,
  ⟨(some 23), .mv (.t 4), none, false⟩,
  ⟨(some 27), .bsl 47 2 [], none, false⟩,
  ⟨(some 28), .fa 1 (.t 1), none, false⟩,
  ⟨(some 29), .ld true 1 (.t 28), none, false⟩,
  ⟨(some 30), .mv (.t 4), none, false⟩,
  ⟨(some 31), .ia 2 (.t 29) (.t 30), none, false⟩,
  ⟨(some 32), .fa 1 (.t 31), none, false⟩,
  ⟨(some 33), .ld true 1 (.t 32), none, false⟩,
  ⟨(some 34), .app 47 2 16 (.t 27) (.t 33), none, false⟩,
  ⟨(some 24), .ia 2 (.t 22) (.t 23), none, false⟩,
  ⟨(some 25), .fa 0 (.t 24), none, false⟩,
  ⟨(some 26), .ld true 1 (.t 25), none, false⟩,
  ⟨(some 35), .bld [(.c (.int .i64 0)), (.c (.raw (.slice none 0 0)))] [(0, 1, (.t 26)), (1, 1, (.t 34))], none, false⟩,
  ⟨(some 36), .bsl 44 2 [(.t 35)], none, false⟩,
  ⟨(some 37), .app 44 2 32 (.t 20) (.t 36), none, true⟩,
  ⟨(some 38), .fa 1 (.t 3), none, true⟩,
  ⟨none, .st 1 (.t 38) (.t 37), none, true⟩]
@[reducible] def o24_7 : List Ins := [⟨(some 17), .mv (.t 4), none, true⟩,
  ⟨(some 18), .bin .add (.t 17) (.k (.c (.int .i64 1))), none, true⟩,
  ⟨(some 4), .mv (.t 18), none, true⟩]
@[reducible] def v24_8 : VC := (.seq (.block 1 (.ops o24_6)) (.ops o24_7))
@[reducible] def v24_9 : VC := (.seq (.seq (.ops o24_4) v24_5) v24_8)
-- K24_1: changed and kept: [4]
@[reducible] def K24_1 : List Nat := [1, 2, 3]
@[reducible] def v24_10 : VC := (.loop v24_9)
@[reducible] def v24_11 : VC := (.block 0 v24_10)
@[reducible] def o24_12 : List Ins := [⟨(some 39), .ld false 3 (.t 3), none, true⟩,
  ⟨none, .st 3 (.t 2) (.t 39), none, true⟩]
@[reducible] def v24_13 : VC := (.seq (.ops o24_12) .ret)
@[reducible] def v24_14 : VC := (.seq (.seq (.ops o24_3) v24_11) v24_13)
@[reducible] def v24_15 : VC := (.seq (.ops o24_2) v24_14)
@[reducible] def v24_16 : VC := (.seq (.ops o24_1) v24_15)
def ir24 : FC := ⟨1, 40, [.cell 2 false 3], (.seq (.ops o24_0) v24_16)⟩
theorem c24 : compM Try.prog [] 24 = some ir24 := by kernel_rfl



theorem side_two (s : Side) : s.cds.length = 2 := rfl
theorem ints_one (l : List Int) : ((l.map fun n => [CD.int .i64 n]).all fun e => e.length == 1) = true := by
  rw [List.all_eq_true]; intro e he; obtain ⟨n, _, rfl⟩ := List.mem_map.1 he; rfl
theorem parts_two (l : List Part) : ((l.map Part.cds).all fun e => e.length == 2) = true := by
  rw [List.all_eq_true]; intro e he; obtain ⟨n, _, rfl⟩ := List.mem_map.1 he; rfl
/-- Copy, of which the sides may be written. -/
def copyP (r : Royal) (res : AV) (os : List Ob) : Prop := ∃ cap j, r.sides.length ≤ cap ∧ cap ≤ maxLen ∧ cap * 2 ≤ r.sides.length * 2 + j ∧ res = .agg [iv r.pool, .vw 2 1000 0 r.sides.length cap, .c (ints r.owed)] ∧ os = [.box (cellsG Side.cds r.sides j)]
def copyO (r : Royal) : Option (Nat × Nat × Nat) → List (Nat × Ob)
  | none => [(9, .grow 3 1 (r.owed.map fun n => [.int .i64 n])), (3, .box [iv r.pool, .c (.raw (.slice none 0 0)), .gr 9]), (2, .box [iv 0, .c (.raw (.slice none 0 0)), .c (.raw (.slice none 0 0))])]
  | some (k, cap, j) => [(9, .grow 3 1 (r.owed.map fun n => [.int .i64 n])), (37, .box (cellsG Side.cds (r.sides.take k) j)), (3, .box [iv r.pool, .vw 2 37 0 k cap, .gr 9]), (2, .box [iv 0, .c (.raw (.slice none 0 0)), .c (.raw (.slice none 0 0))])]
def copyE : Option (Nat × Nat × Nat) → List (Nat × AV)
  | none => [(4, iv 0)]
  | some (k, _, _) => [(4, iv k)]
def copyI (r : Royal) : Option (Nat × Nat × Nat) → Prop
  | none => True
  | some (k, cap, j) => 0 < k ∧ k ≤ r.sides.length ∧ k ≤ cap ∧ cap ≤ maxLen ∧ cap * 2 ≤ k * 2 + j
def copyM (r : Royal) : Option (Nat × Nat × Nat) → Nat
  | none => r.sides.length + 1
  | some (k, _, _) => r.sides.length - k

set_option maxHeartbeats 8000000 in
theorem copyN (r : Royal) (hnear : Near r) (hne : r.sides ≠ []) : FSpecN Try.prog 24 [r.av] (copyP r) := by
  have hn1 := hnear.s
  have hn2 := hnear.n
  have hmax : maxLen = 9223372036854775807 := rfl
  have hl0 : 0 < r.sides.length := List.length_pos_iff.2 hne
  refine FSpecN_of W.c24 (Nat.le_refl _) (by decide) fun C hP hN hC hL => ?_
  simp only [W.ir24, Royal.av]
  (repeat ((first | refine WV_seq_ ?_ | refine WV_block ?_ | refine WV_ops ?_ | refine WV_skip ?_ | refine WV_exit ?_); (try simp only [go_sem, init_env', Nat.reduceEqDiff, Nat.reduceAdd, Nat.reduceMul, reduceIte, Nat.reduceLeDiff, Nat.reduceLT, Nat.reduceBEq, reduceCtorEq, hP, ints, ints_one, List.nil_append]); (repeat (refine And.intro (by first | omega | (intros; simp_all; done) | (intros; simp_all; omega)) ?_))))
  refine WV_loopK W.K24_1 [37, 3, 27, 34, 36, 9, 2, 6] (copyI r) (copyM r) copyE (copyO r) none trivial ?_ ?_
  · simp only [go_sem, init_env', Nat.reduceEqDiff, Nat.reduceAdd, Nat.reduceMul, reduceIte, Nat.reduceLeDiff, Nat.reduceLT, Nat.reduceBEq, reduceCtorEq, copyE, copyO]
    (refine Sub_of (by simp only [go_sem, init_env', Nat.reduceEqDiff, Nat.reduceAdd, Nat.reduceMul, reduceIte, Nat.reduceLeDiff, Nat.reduceLT, Nat.reduceBEq, reduceCtorEq]; ((repeat' (first | exact EnvLe_e0 _ _ | refine EnvLe_upd ?_ ?_)) <;> ((try simp only [upd_app, e0_app, o0_app, Nat.reduceEqDiff, reduceIte]); first | exact AWk.refl _ _ | exact AWk.int (by omega) | exact AWk.int (by rw [w64 (by omega) (by omega)]; omega) | exact AWk.grow rfl | exact AWk.nil _ | exact AWk.of (by simp)))) (by simp only [go_sem, init_env', Nat.reduceEqDiff, Nat.reduceAdd, Nat.reduceMul, reduceIte, Nat.reduceLeDiff, Nat.reduceLT, Nat.reduceBEq, reduceCtorEq]; ((repeat' (first | exact ObjLe_o0 _ | exact ObjLe.rfl' _ | refine ObjLe_same ?_ | refine ObjLe_upd ?_ ?_ | refine ObjLe_new rfl ?_)) <;> rfl)))
  · rintro (_ | ⟨k, cap, j⟩) hI
    · simp only [go_sem, init_env', Nat.reduceEqDiff, Nat.reduceAdd, Nat.reduceMul, reduceIte, Nat.reduceLeDiff, Nat.reduceLT, Nat.reduceBEq, reduceCtorEq, copyE, copyO]
      (repeat ((first | refine WV_seq_ ?_ | refine WV_block ?_ | refine WV_ops ?_ | refine WV_skip ?_ | refine WV_exit ?_); (try simp only [go_sem, init_env', Nat.reduceEqDiff, Nat.reduceAdd, Nat.reduceMul, reduceIte, Nat.reduceLeDiff, Nat.reduceLT, Nat.reduceBEq, reduceCtorEq, hP, sidesC]); (repeat (refine And.intro (by first | omega | (intros; simp_all; done) | (intros; simp_all; omega)) ?_))))
      have hd0 : decide (((0 : Int)) < (r.sides.length : Int)) = true := by simp; omega
      rw [hd0]
      (refine WV_cond rfl (fun h => ?_) (fun h => ?_))
      · have hm := List.getElem_mem hl0
        have hp := hnear.p _ hm
        have hw2 : IntKind.i64.wrap (0 + 1) = 1 := by decide
        have hI0 : (0 : Int) < (r.sides.length : Int) := by omega
        have hz : ((0 : Int)).toNat = 0 := rfl
        (repeat ((first | refine WV_seq_ ?_ | refine WV_block ?_ | refine WV_ops ?_ | refine WV_skip ?_ | refine WV_exit ?_); (try simp only [go_sem, init_env', Nat.reduceEqDiff, Nat.reduceAdd, Nat.reduceMul, reduceIte, Nat.reduceLeDiff, Nat.reduceLT, Nat.reduceBEq, reduceCtorEq, hP, sidesC, partsC, hz, map_getD hl0, hI0, Side.cds, parts_two, List.nil_append, List.length_cons, List.length_nil, List.flatten_cons, List.flatten_nil, List.append_nil, List.map_cons, List.map_nil]); (repeat (refine And.intro (by first | omega | (intros; simp_all; done) | (intros; simp_all; omega)) ?_))))
        intro cap j h1 h2 h3
        have ecell : [AV.c (CD.int .i64 r.sides[0].plays), AV.c (CD.sl 2 (r.sides[0].parts.map Part.cds))] ++ List.replicate j .non = cellsG Side.cds (r.sides.take 1) j := by
          have e : r.sides.take 1 = [r.sides[0]] := by
            rw [List.take_succ_eq_append_getElem hl0]; rfl
          rw [e]
          rfl
        (repeat ((first | refine WV_seq_ ?_ | refine WV_block ?_ | refine WV_ops ?_ | refine WV_skip ?_ | refine WV_exit ?_); (try simp only [go_sem, init_env', Nat.reduceEqDiff, Nat.reduceAdd, Nat.reduceMul, reduceIte, Nat.reduceLeDiff, Nat.reduceLT, Nat.reduceBEq, reduceCtorEq, hP, hw2, prg_non]); (repeat (refine And.intro (by first | omega | (intros; simp_all; done) | (intros; simp_all; omega)) ?_))))
        refine ⟨some (1, cap, j), ⟨by omega, by omega, h1, h2, by omega⟩, by simp only [copyM]; omega, ?_⟩
        simp only [go_sem, init_env', Nat.reduceEqDiff, Nat.reduceAdd, Nat.reduceMul, reduceIte, Nat.reduceLeDiff, Nat.reduceLT, Nat.reduceBEq, reduceCtorEq, copyE, copyO]
        rw [← ecell]
        (refine Sub_of (by simp only [go_sem, init_env', Nat.reduceEqDiff, Nat.reduceAdd, Nat.reduceMul, reduceIte, Nat.reduceLeDiff, Nat.reduceLT, Nat.reduceBEq, reduceCtorEq]; ((repeat' (first | exact EnvLe_e0 _ _ | refine EnvLe_upd ?_ ?_)) <;> ((try simp only [upd_app, e0_app, o0_app, Nat.reduceEqDiff, reduceIte]); first | exact AWk.refl _ _ | exact AWk.int (by omega) | exact AWk.int (by rw [w64 (by omega) (by omega)]; omega) | exact AWk.grow rfl | exact AWk.nil _ | exact AWk.of (by simp)))) (by simp only [go_sem, init_env', Nat.reduceEqDiff, Nat.reduceAdd, Nat.reduceMul, reduceIte, Nat.reduceLeDiff, Nat.reduceLT, Nat.reduceBEq, reduceCtorEq]; ((repeat' (first | exact ObjLe_o0 _ | exact ObjLe.rfl' _ | refine ObjLe_same ?_ | refine ObjLe_upd ?_ ?_ | refine ObjLe_new rfl ?_)) <;> rfl)))
      · simp at h
    · obtain ⟨i1, i2, i3, i4, i5⟩ := hI
      simp only [go_sem, init_env', Nat.reduceEqDiff, Nat.reduceAdd, Nat.reduceMul, reduceIte, Nat.reduceLeDiff, Nat.reduceLT, Nat.reduceBEq, reduceCtorEq, copyE, copyO]
      (repeat ((first | refine WV_seq_ ?_ | refine WV_block ?_ | refine WV_ops ?_ | refine WV_skip ?_ | refine WV_exit ?_); (try simp only [go_sem, init_env', Nat.reduceEqDiff, Nat.reduceAdd, Nat.reduceMul, reduceIte, Nat.reduceLeDiff, Nat.reduceLT, Nat.reduceBEq, reduceCtorEq, hP, sidesC]); (repeat (refine And.intro (by first | omega | (intros; simp_all; done) | (intros; simp_all; omega)) ?_))))
      (refine WV_cond rfl (fun h => ?_) (fun h => ?_))
      · have hkl : k < r.sides.length := by simpa using h
        have hI : (k : Int) < (r.sides.length : Int) := by omega
        have hm := List.getElem_mem hkl
        have hp := hnear.p _ hm
        have hw2 := w64 (n := (k : Int) + 1) (by omega) (by omega)
        have htl : (r.sides.take k).length = k := by rw [List.length_take]; omega
        have hgl : (cellsG Side.cds (r.sides.take k) j).length = k * 2 + j := by rw [cellsG_len side_two, htl]
        have hcap : (cap * 2 ≤ (cellsG Side.cds (r.sides.take k) j).length) = True := by rw [hgl]; simp; omega
        have hct : (cellsG Side.cds (r.sides.take k) j).take (k * 2) = cellsG Side.cds (r.sides.take k) 0 := by
          have := cellsG_take side_two (r.sides.take k) j
          rwa [htl] at this
        (repeat ((first | refine WV_seq_ ?_ | refine WV_block ?_ | refine WV_ops ?_ | refine WV_skip ?_ | refine WV_exit ?_); (try simp only [go_sem, init_env', Nat.reduceEqDiff, Nat.reduceAdd, Nat.reduceMul, reduceIte, Nat.reduceLeDiff, Nat.reduceLT, Nat.reduceBEq, reduceCtorEq, hP, sidesC, partsC, map_getD hkl, hI, Int.natCast_nonneg, Side.cds, parts_two, hcap, hct, List.nil_append, List.length_cons, List.length_nil, List.flatten_cons, List.flatten_nil, List.append_nil, List.map_cons, List.map_nil]); (repeat (refine And.intro (by first | omega | (intros; simp_all; done) | (intros; simp_all; omega)) ?_))))
        intro cap' j' h1 h2 h3
        have ecell : cellsG Side.cds (r.sides.take k) 0 ++ [AV.c (CD.int .i64 r.sides[k].plays), AV.c (CD.sl 2 (r.sides[k].parts.map Part.cds))] ++ List.replicate j' .non = cellsG Side.cds (r.sides.take (k + 1)) j' := by
          rw [List.take_succ_eq_append_getElem hkl, ← cellsG_snoc]
          rfl
        rw [ecell]
        (repeat ((first | refine WV_seq_ ?_ | refine WV_block ?_ | refine WV_ops ?_ | refine WV_skip ?_ | refine WV_exit ?_); (try simp only [go_sem, init_env', Nat.reduceEqDiff, Nat.reduceAdd, Nat.reduceMul, reduceIte, Nat.reduceLeDiff, Nat.reduceLT, Nat.reduceBEq, reduceCtorEq, hP, hw2]); (repeat (refine And.intro (by first | omega | (intros; simp_all; done) | (intros; simp_all; omega)) ?_))))
        refine ⟨some (k + 1, cap', j'), ⟨by omega, by omega, h1, h2, h3⟩, by simp only [copyM]; omega, ?_⟩
        simp only [go_sem, init_env', Nat.reduceEqDiff, Nat.reduceAdd, Nat.reduceMul, reduceIte, Nat.reduceLeDiff, Nat.reduceLT, Nat.reduceBEq, reduceCtorEq, copyE, copyO]
        (refine Sub_of (by simp only [go_sem, init_env', Nat.reduceEqDiff, Nat.reduceAdd, Nat.reduceMul, reduceIte, Nat.reduceLeDiff, Nat.reduceLT, Nat.reduceBEq, reduceCtorEq]; ((repeat' (first | exact EnvLe_e0 _ _ | refine EnvLe_upd ?_ ?_)) <;> ((try simp only [upd_app, e0_app, o0_app, Nat.reduceEqDiff, reduceIte]); first | exact AWk.refl _ _ | exact AWk.int (by omega) | exact AWk.int (by rw [w64 (by omega) (by omega)]; omega) | exact AWk.grow rfl | exact AWk.nil _ | exact AWk.of (by simp)))) (by simp only [go_sem, init_env', Nat.reduceEqDiff, Nat.reduceAdd, Nat.reduceMul, reduceIte, Nat.reduceLeDiff, Nat.reduceLT, Nat.reduceBEq, reduceCtorEq]; ((repeat' (first | exact ObjLe_o0 _ | exact ObjLe.rfl' _ | refine ObjLe_same ?_ | refine ObjLe_upd ?_ ?_ | refine ObjLe_new rfl ?_)) <;> rfl)))
      · have h : k = r.sides.length := by simp at h; omega
        subst h
        rw [List.take_length]
        (repeat ((first | refine WV_seq_ ?_ | refine WV_block ?_ | refine WV_ops ?_ | refine WV_skip ?_ | refine WV_exit ?_); (try simp only [go_sem, init_env', Nat.reduceEqDiff, Nat.reduceAdd, Nat.reduceMul, reduceIte, Nat.reduceLeDiff, Nat.reduceLT, Nat.reduceBEq, reduceCtorEq, hP, ]); (repeat (refine And.intro (by first | omega | (intros; simp_all; done) | (intros; simp_all; omega)) ?_))))
        (refine WV_ret ?_; simp only [thenQ, inQ, RetQN, RetOkN, resAll, resA]; simp only [go_sem, init_env', Nat.reduceEqDiff, Nat.reduceAdd, Nat.reduceMul, reduceIte, Nat.reduceLeDiff, Nat.reduceLT, Nat.reduceBEq, reduceCtorEq, tupA, ])
        refine ⟨[37], .agg [iv r.pool, .vw 2 1000 0 r.sides.length cap, .c (ints r.owed)], _, [.box (cellsG Side.cds r.sides j)], by decide, by decide, ?_, AVle.of rfl, ?_, cap, j, i3, i4, i5, rfl, rfl⟩
        · simp only [go_sem, init_env', Nat.reduceEqDiff, Nat.reduceAdd, Nat.reduceMul, reduceIte, Nat.reduceLeDiff, Nat.reduceLT, Nat.reduceBEq, reduceCtorEq, AV.lend, AV.lendL]
          rfl
        · simp only [go_sem, init_env', Nat.reduceEqDiff, Nat.reduceAdd, Nat.reduceMul, reduceIte, Nat.reduceLeDiff, Nat.reduceLT, Nat.reduceBEq, reduceCtorEq, obsLend, Ob.lend]
end Go.Proofs.Ytnmchaemhjnkgaa

/-
  The greatest rest, round by round: plain.
-/
namespace Go.Proofs.Ytnmchaemhjnkgaa
open Go Go.V

/-- The first of the greatest ones of the first k. -/
structure BestI (R : List Int) (k b : Nat) : Prop where
  lt : b < R.length
  lk : b < k ∨ b = 0
  le : ∀ i, i < k → R.getD i 0 ≤ R.getD b 0
  first : ∀ i, i < b → R.getD i 0 < R.getD b 0
theorem BestI.zero {R : List Int} (h : 0 < R.length) : BestI R 0 0 := ⟨h, .inr rfl, fun i hi => by omega, fun i hi => by omega⟩
end Go.Proofs.Ytnmchaemhjnkgaa

/-
  As often again: all plays k times as great: plain.
-/
namespace Go.Proofs.Ytnmchaemhjnkgaa
open Go Go.V

/-- Two lists of one length that agree in all places. -/
theorem ext_getD {l m : List Int} (hl : l.length = m.length) (h : ∀ i, i < l.length → l.getD i 0 = m.getD i 0) : l = m := by
  apply List.ext_getElem hl
  intro i h1 h2
  have := h i h1
  simpa [h1, h2] using this
theorem ok_weigh {r o : Royal} (h1 : r.ok = true) (h2 : o.ok = true) (ha : allW r = 0 ↔ allW o = 0) (b : Bool) : weighE r b = weighE o b := by
  unfold weighE
  rw [if_pos h1, if_pos h2]
  by_cases h : allW r = 0
  · rw [if_pos h, if_pos (ha.1 h)]
  · rw [if_neg h, if_neg fun h' => h (ha.2 h')]
theorem exact_eq {r o : Royal} (h1 : r.ok = true) (h2 : o.ok = true) (hp : o.pool = r.pool) (hn : o.n = r.n) (ha : allW o = allW r) (hw : wts o = wts r) (who : Int) : exactS o who = exactS r who := by
  have e1 : isW o who = isW r who := by unfold isW; rw [hn]
  have e2 : weighE o (isW r who) = weighE r (isW r who) := ok_weigh h2 h1 (by rw [ha]) _
  have e3 : numOf o who = numOf r who := by unfold numOf; rw [hp, hw]
  unfold exactS gcdOf
  rw [e1, e2, e3, ha]
theorem shares_eq {r o : Royal} (h1 : r.ok = true) (h2 : o.ok = true) (hp : o.pool = r.pool) (ha : allW o = allW r) (hw : wts o = wts r) : sharesS o = sharesS r := by
  have e2 : weighE o true = weighE r true := ok_weigh h2 h1 (by rw [ha]) _
  unfold sharesS
  rw [e2, hp, ha, hw]

end Go.Proofs.Ytnmchaemhjnkgaa

/-
  More plays of one side; sides in another order; a side that is cut: plain.
-/
namespace Go.Proofs.Ytnmchaemhjnkgaa
open Go Go.V

/-! ### More plays of a side of which one writer has all -/
def moreSd (m : Int) (s : Side) : Side := ⟨s.plays + m, s.parts⟩
def moreR (r : Royal) (k : Nat) (m : Int) : Royal := ⟨r.pool, r.sides.modify k (moreSd m), r.owed⟩
theorem sum_modify {α : Type} (f : α → Int) (g : α → α) (d : Int) : ∀ (l : List α) (k : Nat) (h : k < l.length), f (g l[k]) = f l[k] + d → ((l.modify k g).map f).sum = (l.map f).sum + d
  | a :: l, 0, _, hd => by simp only [List.modify_zero_cons, List.map_cons, List.sum_cons, List.getElem_cons_zero] at *; omega
  | a :: l, k + 1, h, hd => by
    have h' : k < l.length := by simpa using h
    have ih := sum_modify f g d l k h' (by simpa using hd)
    simp only [List.modify_succ_cons, List.map_cons, List.sum_cons, ih]
    omega
theorem allW_more {r : Royal} {k : Nat} (h : k < r.sides.length) (m : Int) : allW (moreR r k m) = allW r + 100 * m := by
  unfold allW moreR
  exact sum_modify _ _ _ _ _ h (by simp only [moreSd]; omega)
theorem partS_plus (pl m who : Int) (ps : List Part) : partS (pl + m) who ps = partS pl who ps + partS m who ps := by
  unfold partS
  induction ps with
  | nil => simp
  | cons p l ih =>
    simp only [List.map_cons, List.sum_cons, ih]
    split
    · rw [Int.add_mul]; omega
    · omega
/-! ### Sides in another order -/
def permR (r : Royal) (l : List Side) : Royal := ⟨r.pool, l, r.owed⟩
theorem sharedB_ok {r : Royal} {l : List Side} (h : r.ok = true) (hl : l.Perm r.sides) : (permR r l).ok = true := by
  have e := hl.length_eq
  show (within r.pool 0 9999 && decide (r.owed.length ≤ 6) && decide (l.length ≤ 6) && r.owed.all (fun n => within n 0 9999) && l.all (okSide r.owed.length)) = true
  simp only [Royal.ok, Bool.and_eq_true, decide_eq_true_eq, List.all_eq_true] at h ⊢
  exact ⟨⟨⟨⟨h.1.1.1.1, h.1.1.1.2⟩, by omega⟩, h.1.2⟩, fun s hs => h.2 s (hl.mem_iff.1 hs)⟩
theorem allW_perm {r : Royal} {l : List Side} (hl : l.Perm r.sides) : allW (permR r l) = allW r := sum_perm (hl.map _)
theorem wts_perm {r : Royal} {l : List Side} (hr : RoyalOk r) (ho : RoyalOk (permR r l)) (hl : l.Perm r.sides) : wts (permR r l) = wts r := by
  apply ext_getD
  · rw [wts_len, wts_len]; rfl
  · intro i _
    rw [wts_get ho, wts_get hr]
    exact sum_perm (hl.map _)
theorem lost_perm {r : Royal} {l : List Side} (h : r.ok = true) (hl : l.Perm r.sides) : lostS (permR r l) = lostS r := by
  have ho := sharedB_ok h hl
  have e1 : allW (permR r l) = allW r := allW_perm hl
  have e2 : weighE (permR r l) true = weighE r true := ok_weigh ho h (by rw [e1]) _
  have e3 : ∀ s, moneyOf (permR r l) s = moneyOf r s := fun s => by unfold moneyOf; rw [e1]; rfl
  unfold lostS
  rw [e2]
  have : lostV (permR r l) (permR r l).sides.length = lostV r r.sides.length := by
    unfold lostV
    rw [List.take_length, List.take_length]
    show r.pool - (l.map fun s => cents (moneyOf (permR r l) s) s.parts).sum = _
    congr 1
    rw [← sum_perm (hl.map fun s => cents (moneyOf r s) s.parts)]
    congr 1
    exact List.map_congr_left fun s _ => by rw [e3]
  rw [this]
/-- From one side on. -/
def rotL {α : Type} (l : List α) (k : Nat) : List α := l.drop k ++ l.take k
theorem rot_perm {α : Type} (l : List α) (k : Nat) : (rotL l k).Perm l := by
  unfold rotL
  exact List.perm_append_comm.trans (by rw [List.take_append_drop])
theorem rot_len {α : Type} (l : List α) (k : Nat) : (rotL l k).length = l.length := (rot_perm l k).length_eq
theorem rot_get {α : Type} {l : List α} {k i : Nat} (hk : k < l.length) (hi : i < l.length) : (rotL l k)[i]? = l[(i + k) % l.length]? := by
  unfold rotL
  rw [List.getElem?_append, List.length_drop]
  split
  · rename_i h3
    rw [List.getElem?_drop, Nat.mod_eq_of_lt (by omega), Nat.add_comm]
  · rename_i h3
    rw [List.getElem?_take, if_pos (by omega), show i + k = (i + k - l.length) + l.length from by omega, Nat.add_mod_right, Nat.mod_eq_of_lt (by omega)]
    congr 1
    omega

/-! ### A side that is cut in two -/
def cutR (r : Royal) (k : Nat) (off : Int) (h : k < r.sides.length) : Royal := ⟨r.pool, r.sides.modify k (moreSd (-off)) ++ [⟨off, r.sides[k].parts⟩], r.owed⟩
theorem modify_mem {α : Type} {l : List α} {k : Nat} {g : α → α} {x : α} (h : x ∈ l.modify k g) : x ∈ l ∨ ∃ h : k < l.length, x = g l[k] := by
  obtain ⟨i, hi, rfl⟩ := List.mem_iff_getElem.1 h
  rw [List.getElem_modify]
  have hi' : i < l.length := by simpa using hi
  split
  · rename_i e; subst e; exact .inr ⟨hi', rfl⟩
  · exact .inl (List.getElem_mem hi')
theorem cut_ok {r : Royal} {k : Nat} {off : Int} (hk : k < r.sides.length) (h : r.ok = true) (h5 : r.sides.length < 6) (ho : 0 ≤ off ∧ off ≤ r.sides[k].plays) : (cutR r k off hk).ok = true := by
  have hr := Royal.ok_spec h
  have hpk := hr.plays _ (List.getElem_mem hk)
  show (within r.pool 0 9999 && decide (r.owed.length ≤ 6) && decide ((r.sides.modify k (moreSd (-off)) ++ [(⟨off, r.sides[k].parts⟩ : Side)]).length ≤ 6) && r.owed.all (fun n => within n 0 9999) && (r.sides.modify k (moreSd (-off)) ++ [(⟨off, r.sides[k].parts⟩ : Side)]).all (okSide r.owed.length)) = true
  simp only [Royal.ok, Bool.and_eq_true, decide_eq_true_eq, List.all_eq_true, List.length_append, List.length_modify, List.length_cons, List.length_nil] at h ⊢
  refine ⟨⟨⟨⟨h.1.1.1.1, h.1.1.1.2⟩, by omega⟩, h.1.2⟩, fun s hs => ?_⟩
  have hkk := h.2 _ (List.getElem_mem hk)
  simp only [okSide, Bool.and_eq_true, within, decide_eq_true_eq] at hkk ⊢
  rcases List.mem_append.1 hs with hs | hs
  · rcases modify_mem hs with hs | ⟨_, rfl⟩
    · have := h.2 s hs
      simpa only [okSide, Bool.and_eq_true, within, decide_eq_true_eq] using this
    · simp only [moreSd]
      exact ⟨by omega, hkk.2⟩
  · simp only [List.mem_singleton] at hs
    subst hs
    exact ⟨by simp only; omega, hkk.2⟩
theorem sum_snoc (l : List Int) (x : Int) : (l ++ [x]).sum = l.sum + x := by rw [List.sum_append]; simp
theorem partS_neg (m who : Int) (ps : List Part) : partS (-m) who ps = - partS m who ps := by
  unfold partS
  induction ps with
  | nil => simp
  | cons p l ih =>
    simp only [List.map_cons, List.sum_cons, ih]
    split
    · rw [Int.neg_mul]; omega
    · omega
theorem allW_cut {r : Royal} {k : Nat} {off : Int} (hk : k < r.sides.length) : allW (cutR r k off hk) = allW r := by
  have := allW_more hk (-off)
  unfold allW moreR at this
  unfold allW cutR
  simp only at this ⊢
  rw [List.map_append, List.map_cons, List.map_nil, sum_snoc, this]
  simp only
  omega
theorem wts_cut {r : Royal} {k : Nat} {off : Int} (hk : k < r.sides.length) (hr : RoyalOk r) (ho : RoyalOk (cutR r k off hk)) : wts (cutR r k off hk) = wts r := by
  apply ext_getD
  · rw [wts_len, wts_len]; rfl
  · intro i _
    rw [wts_get ho, wts_get hr]
    have := sum_modify (fun s : Side => partS s.plays i s.parts) (moreSd (-off)) (partS (-off) i r.sides[k].parts) r.sides k hk (by simp only [moreSd]; rw [partS_plus])
    unfold cutR
    simp only
    rw [List.map_append, List.map_cons, List.map_nil, sum_snoc, this, partS_neg]
    show (r.sides.map fun s => partS s.plays i s.parts).sum + -partS off i r.sides[k].parts + partS off i r.sides[k].parts = _
    omega
theorem cents_mono {m m' : Int} (h : m ≤ m') : ∀ ps : List Part, (∀ p ∈ ps, 1 ≤ p.pc) → cents m ps ≤ cents m' ps
  | [], _ => by simp [cents]
  | p :: ps, hp => by
    have ih := cents_mono h ps fun q hq => hp q (by simp [hq])
    have h1 := Int.mul_le_mul_of_nonneg_right h (show 0 ≤ p.pc by have := hp p (by simp); omega)
    have h2 := Int.ediv_le_ediv (show (0 : Int) < 100 by decide) h1
    unfold cents at ih ⊢
    simp only [List.map_cons, List.sum_cons]
    omega
theorem ediv_two (x y : Int) {c : Int} (hc : 0 < c) : x / c + y / c ≤ (x + y) / c := by
  rw [Int.le_ediv_iff_mul_le hc, Int.add_mul]
  have h1 := Int.ediv_mul_le x (show c ≠ 0 by omega)
  have h2 := Int.ediv_mul_le y (show c ≠ 0 by omega)
  omega
theorem cents_two (a b : Int) : ∀ ps : List Part, cents a ps + cents b ps ≤ cents (a + b) ps
  | [] => by simp [cents]
  | p :: ps => by
    have ih := cents_two a b ps
    have h := ediv_two (a * p.pc) (b * p.pc) (show (0 : Int) < 100 by decide)
    rw [← Int.add_mul] at h
    unfold cents at ih ⊢
    simp only [List.map_cons, List.sum_cons]
    omega
theorem lost_cut {r : Royal} {k : Nat} {off : Int} (hk : k < r.sides.length) (hW : Weighed r) : lostV r r.sides.length ≤ lostV (cutR r k off hk) (cutR r k off hk).sides.length := by
  have hpc : ∀ p ∈ r.sides[k].parts, 1 ≤ p.pc := fun p hp => (hW.hr.part _ (List.getElem_mem hk) p hp).2.2.1
  have e3 : ∀ s, moneyOf (cutR r k off hk) s = moneyOf r s := fun s => by unfold moneyOf; rw [allW_cut hk]; rfl
  unfold lostV
  rw [List.take_length, List.take_length]
  have e4 : ((cutR r k off hk).sides.map fun s => cents (moneyOf (cutR r k off hk) s) s.parts) = ((cutR r k off hk).sides.map fun s => cents (moneyOf r s) s.parts) := List.map_congr_left fun s _ => by rw [e3]
  rw [e4]
  show _ ≤ r.pool - ((r.sides.modify k (moreSd (-off)) ++ [(⟨off, r.sides[k].parts⟩ : Side)]).map fun s => cents (moneyOf r s) s.parts).sum
  rw [List.map_append, List.map_cons, List.map_nil, sum_snoc]
  have hm : moneyOf r (moreSd (-off) r.sides[k]) + moneyOf r ⟨off, r.sides[k].parts⟩ ≤ moneyOf r r.sides[k] := by
    unfold moneyOf
    have := ediv_two (100 * r.pool * (r.sides[k].plays + -off)) (100 * r.pool * off) hW.pos
    rw [← Int.mul_add, show r.sides[k].plays + -off + off = r.sides[k].plays from by omega] at this
    exact this
  have hc1 := cents_two (moneyOf r (moreSd (-off) r.sides[k])) (moneyOf r ⟨off, r.sides[k].parts⟩) r.sides[k].parts
  have hc2 := cents_mono hm r.sides[k].parts hpc
  have := sum_modify (fun s : Side => cents (moneyOf r s) s.parts) (moreSd (-off)) (cents (moneyOf r (moreSd (-off) r.sides[k])) r.sides[k].parts - cents (moneyOf r r.sides[k]) r.sides[k].parts) r.sides k hk (by simp only [moreSd]; omega)
  rw [this]
  simp only
  omega
theorem money_sum {r : Royal} (hW : Weighed r) : ∀ l : List Side, (l.map fun s => moneyOf r s).sum * allW r ≤ r.pool * (l.map fun s => 100 * s.plays).sum
  | [] => by simp
  | s :: l => by
    have ih := money_sum hW l
    have h1 := Int.ediv_mul_le (100 * r.pool * s.plays) (show allW r ≠ 0 by have := hW.pos; omega)
    simp only [List.map_cons, List.sum_cons, Int.add_mul, Int.mul_add]
    have e : r.pool * (100 * s.plays) = 100 * r.pool * s.plays := by rw [← Int.mul_assoc, Int.mul_comm r.pool 100]
    rw [e]
    unfold moneyOf
    unfold moneyOf at ih
    omega
theorem lost_nonneg {r : Royal} (hW : Weighed r) : 0 ≤ lostV r r.sides.length := by
  have h1 := money_sum hW r.sides
  have h2 : r.pool * (r.sides.map fun s => 100 * s.plays).sum = r.pool * allW r := rfl
  rw [h2] at h1
  have h3 := Int.le_of_mul_le_mul_right h1 hW.pos
  have h4 : ∀ l : List Side, (∀ s ∈ l, s ∈ r.sides) → (l.map fun s => cents (moneyOf r s) s.parts).sum ≤ (l.map fun s => moneyOf r s).sum := by
    intro l
    induction l with
    | nil => intro _; simp
    | cons s l ih =>
      intro hl
      have hs := hl s (by simp)
      have h5 := cents_bd hW hs s.parts.length
      rw [List.take_length] at h5
      have := ih fun t ht => hl t (by simp [ht])
      simp only [List.map_cons, List.sum_cons]
      omega
  have := h4 r.sides fun s hs => hs
  unfold lostV
  rw [List.take_length]
  omega
end Go.Proofs.Ytnmchaemhjnkgaa

namespace Go.Proofs.Ytnmchaemhjnkgaa
open Go Go.V
attribute [go_sem] gdE_upd gdE_e0 gdO_upd gdO_o0 AV.gd AV.gdL Ob.gd CD.flat

/-! ### The shares, round by round -/
end Go.Proofs.Ytnmchaemhjnkgaa

namespace Go.Proofs.Ytnmchaemhjnkgaa
open Go Go.V
end Go.Proofs.Ytnmchaemhjnkgaa

namespace Go.Proofs.Ytnmchaemhjnkgaa
open Go Go.V
end Go.Proofs.Ytnmchaemhjnkgaa

namespace Go.Proofs.Ytnmchaemhjnkgaa
open Go Go.V

theorem modify_set {α : Type} {l : List α} {k : Nat} (h : k < l.length) (g : α → α) : l.modify k g = l.set k (g l[k]) := by
  apply List.ext_getElem?
  intro i
  rw [List.getElem?_modify, List.getElem?_set]
  by_cases e : k = i
  · subst e; rw [if_pos rfl, if_pos h, List.getElem?_eq_getElem h]; simp
  · rw [if_neg e]; simp [e]
/-- Sides in a box, as data. -/
theorem sides_grp (l : List Side) : grp 2 l.length ((flatG Side.cds l).take (l.length * 2)) = l.map Side.cds := grp_cellsG side_two l
theorem sides_fit (l : List Side) : (l.length * 2 ≤ (flatG Side.cds l).length) = True := by rw [flatG_len side_two]; simp
attribute [go_sem] back_cellsG

end Go.Proofs.Ytnmchaemhjnkgaa
