/-
  Contracts of the layer's functions, of the laws' helpers and of the law; conditions: as each theorem states.
-/
import Derived.Test.YtbejgfpaokcnpaaV2
import Derived.Test.YtbejgfpaokcnpaaV3
import Derived.Test.YtbejgfpaokcnpaaChecked
set_option linter.unusedVariables false
set_option linter.unusedSimpArgs false
/-
  Routes as data, and what comes of them: plain.
-/
namespace Go.Proofs.Ytbejgfpaokcnpaa
open Go Go.V

abbrev iv (n : Int) : AV := .c (.int .i64 n)
def ints (l : List Int) : CD := .sl 1 (l.map fun n => [.int .i64 n])

structure Stop where
  op : Int
  cl : Int
  st : Int
  ca : Int
  deriving DecidableEq, Inhabited

structure Route where
  stops : List Stop
  drive : List (List Int)
  start : Int
  deriving DecidableEq, Inhabited

def Stop.cds (s : Stop) : List CD := [.int .i64 s.op, .int .i64 s.cl, .int .i64 s.st, .int .i64 s.ca]
def stopsC (l : List Stop) : CD := .sl 4 (l.map Stop.cds)
def driveC (l : List (List Int)) : CD := .sl 1 (l.map fun x => [ints x])
def Route.cds (r : Route) : List CD := [stopsC r.stops, driveC r.drive, .int .i64 r.start]
def Route.av (r : Route) : AV := .agg [.c (stopsC r.stops), .c (driveC r.drive), .c (.int .i64 r.start)]

def within (n lo hi : Int) : Bool := decide (lo ≤ n) && decide (n ≤ hi)
def okStop (s : Stop) : Bool := decide (0 ≤ s.op) && decide (s.op ≤ s.cl) && decide (s.cl ≤ 1440) && within s.st 0 1440 && within s.ca 0 99999
def okCell (i k : Nat) (n : Int) : Bool := within n 0 999 && (!(i == k) || n == 0)
def okRow (w i : Nat) (l : List Int) : Bool := l.length == w && l.zipIdx.all fun p => okCell i p.2 p.1
/-- A route is valid. -/
def Route.ok (r : Route) : Bool := decide (r.stops.length ≤ 7) && r.drive.length == r.stops.length + 1 && within r.start 0 1440 && r.stops.all okStop && r.drive.zipIdx.all fun p => okRow r.drive.length p.2 p.1

theorem ints_lens {l : List Int} (h : (ints l).lens) : l.length ≤ 9223372036854775807 := by
  simp only [ints, CD.lens, List.length_map, maxLen] at h; omega
theorem stopsC_lens {l : List Stop} (h : (stopsC l).lens) : l.length ≤ 9223372036854775807 := by
  simp only [stopsC, CD.lens, List.length_map, maxLen] at h; omega
theorem driveC_lens {l : List (List Int)} (h : (driveC l).lens) : l.length ≤ 9223372036854775807 ∧ ∀ x ∈ l, x.length ≤ 9223372036854775807 := by
  simp only [driveC, CD.lens, List.length_map, maxLen, CD.lensE_mem] at h
  refine ⟨by omega, fun x hx => ints_lens (h.2 [ints x] (List.mem_map.2 ⟨x, hx, rfl⟩) _ (by simp))⟩
theorem Route.lens {r : Route} {xs : List AV} (h : AV.lensL (r.av :: xs)) : r.stops.length ≤ 9223372036854775807 ∧ r.drive.length ≤ 9223372036854775807 ∧ ∀ x ∈ r.drive, x.length ≤ 9223372036854775807 := by
  simp only [AV.lensL, Route.av, AV.lens] at h
  exact ⟨stopsC_lens h.1.1, (driveC_lens h.1.2.1).1, (driveC_lens h.1.2.1).2⟩

theorem map_getD {α β : Type} {l : List α} {f : α → β} {k : Nat} {d : β} (h : k < l.length) : (l.map f).getD k d = f l[k] := by
  simp [h]
theorem take_all {α : Type} {l : List α} {k : Nat} (p : α → Bool) (h : k < l.length) : (l.take (k + 1)).all p = ((l.take k).all p && p l[k]) := by
  rw [List.take_succ_eq_append_getElem h, List.all_append]; simp [List.all_cons]
theorem ints_scal (l : List Int) : ((l.map fun n => [CD.int .i64 n]).all fun e => e.all CD.scal) = true := by
  rw [List.all_eq_true]; intro e he; obtain ⟨n, _, rfl⟩ := List.mem_map.1 he; rfl
theorem ibeq (a b : Nat) : ((a : Int) == (b : Int)) = (a == b) := by rw [Bool.eq_iff_iff]; simp; omega
theorem ibne (a b : Nat) : ((a : Int) != (b : Int)) = !(a == b) := by rw [bne, ibeq]
theorem take_zipIdx {α : Type} {l : List α} {k : Nat} (p : α × Nat → Bool) (h : k < l.length) : (l.zipIdx.take (k + 1)).all p = ((l.zipIdx.take k).all p && p (l[k], k)) := by
  rw [List.take_succ_eq_append_getElem (by simpa using h), List.all_append]; simp [List.all_cons]
theorem okRow_eq {w i : Nat} {l : List Int} (hi : i < w) : okRow w i l = (l.length == w && l.getD i 0 == 0 && l.all fun n => within n 0 999) := by
  unfold okRow
  by_cases hl : l.length = w
  · subst hl
    rw [Bool.eq_iff_iff]
    simp only [beq_self_eq_true, Bool.true_and, List.all_eq_true, Bool.and_eq_true, beq_iff_eq]
    constructor
    · intro h
      refine ⟨?_, fun n hn => ?_⟩
      · have := h (l[i], i) (by rw [List.mem_zipIdx_iff_getElem?]; simp [hi])
        simp only [okCell, beq_self_eq_true, Bool.not_true, Bool.false_or, Bool.and_eq_true, beq_iff_eq] at this
        simpa [hi] using this.2
      · obtain ⟨k, hk, rfl⟩ := List.mem_iff_getElem.1 hn
        have := h (l[k], k) (by rw [List.mem_zipIdx_iff_getElem?]; simp [hk])
        simp only [okCell, Bool.and_eq_true] at this
        exact this.1
    · rintro ⟨h1, h2⟩ ⟨n, k⟩ hp
      rw [List.mem_zipIdx_iff_getElem?] at hp
      simp only [okCell, Bool.and_eq_true, Bool.or_eq_true, Bool.not_eq_true', beq_eq_false_iff_ne, beq_iff_eq]
      refine ⟨h2 n (List.mem_of_getElem? hp), ?_⟩
      by_cases hik : i = k
      · subst hik
        right
        rw [List.getD_eq_getElem?_getD, hp] at h1
        exact h1
      · exact .inl hik
  · have : (l.length == w) = false := by simpa using hl
    rw [this]; simp

theorem g0_eq (a b : Nat) (w : Bool) (h : a ≤ 9223372036854775807) : (decide ((a : Int) ≤ 7) && (b : Int) == IntKind.i64.wrap ((a : Int) + 1) && w) = (decide (a ≤ 7) && b == a + 1 && w) := by
  by_cases h7 : a ≤ 7
  · rw [w64 (by omega) (by omega)]
    have e1 : decide ((a : Int) ≤ 7) = decide (a ≤ 7) := by simp; omega
    have e2 : ((b : Int) == (a : Int) + 1) = (b == a + 1) := by rw [Bool.eq_iff_iff]; simp; omega
    rw [e1, e2]
  · have e1 : decide ((a : Int) ≤ 7) = false := by simp; omega
    have e2 : decide (a ≤ 7) = false := by simpa using h7
    rw [e1, e2]; rfl

end Go.Proofs.Ytbejgfpaokcnpaa

namespace Go.Proofs.Ytbejgfpaokcnpaa
open Go Go.V
@[reducible] def o57_0 : List Ins := [⟨(some 6), .mv (.k (.c (.bool false))), none, true⟩]
@[reducible] def o57_1 : List Ins := [⟨(some 7), .mv (.t 0), none, true⟩,
  ⟨(some 8), .mv (.t 1), none, true⟩,
  ⟨(some 9), .bin .geq (.t 7) (.t 8), none, true⟩,
  ⟨(some 10), .mv (.t 9), none, true⟩,
  ⟨(some 11), .mv (.t 0), (some (10, true)), true⟩,
  ⟨(some 12), .mv (.t 2), (some (10, true)), true⟩,
  ⟨(some 13), .bin .leq (.t 11) (.t 12), (some (10, true)), true⟩,
  ⟨(some 14), .pick (.t 10) (.t 13) (.k (.c (.bool false))), none, true⟩,
  ⟨(some 6), .mv (.t 14), none, true⟩]
@[reducible] def v57_2 : VC := (.seq (.ops o57_1) .ret)
def ir57 : FC := ⟨3, 15, [.t 6], (.seq (.ops o57_0) v57_2)⟩
@[reducible] def o26_0 : List Ins := [⟨(some 1), .box 3 (.t 0), none, true⟩,
  ⟨(some 2), .mv (.k (.c (.int .i64 0))), none, true⟩]
@[reducible] def o26_1 : List Ins := [⟨(some 10), .fa 0 (.t 1), none, true⟩,
  ⟨(some 11), .ld true 1 (.t 10), none, true⟩,
  ⟨(some 12), .len (.t 11), none, true⟩,
  ⟨(some 13), .bin .leq (.t 12) (.k (.c (.int .i64 7))), none, true⟩,
  ⟨(some 14), .mv (.t 13), none, true⟩,
  ⟨(some 15), .fa 1 (.t 1), (some (14, true)), true⟩,
  ⟨(some 16), .ld true 1 (.t 15), (some (14, true)), true⟩,
  ⟨(some 17), .len (.t 16), (some (14, true)), true⟩,
  ⟨(some 18), .fa 0 (.t 1), (some (14, true)), true⟩,
  ⟨(some 19), .ld true 1 (.t 18), (some (14, true)), true⟩,
  ⟨(some 20), .len (.t 19), (some (14, true)), true⟩,
  ⟨(some 21), .bin .add (.t 20) (.k (.c (.int .i64 1))), (some (14, true)), true⟩,
  ⟨(some 22), .bin .eql (.t 17) (.t 21), (some (14, true)), true⟩,
  ⟨(some 23), .pick (.t 14) (.t 22) (.k (.c (.bool false))), none, true⟩,
  ⟨(some 24), .mv (.t 23), none, true⟩,
  ⟨(some 25), .fa 2 (.t 1), (some (24, true)), true⟩,
  ⟨(some 26), .ld true 1 (.t 25), (some (24, true)), true⟩,
  ⟨(some 27), .call (.k (.fn 57 [])) [(.t 26), (.k (.c (.int .i64 0))), (.k (.c (.int .i64 1440)))], (some (24, true)), true⟩,
  ⟨(some 28), .pick (.t 24) (.t 27) (.k (.c (.bool false))), none, true⟩,
  ⟨(some 3), .mv (.t 28), none, true⟩]
@[reducible] def o26_2 : List Ins := [⟨(some 29), .fa 0 (.t 1), none, true⟩,
  ⟨(some 30), .ld true 1 (.t 29), none, true⟩,
  ⟨(some 31), .len (.t 30), none, true⟩,
  ⟨(some 32), .mv (.k (.c (.int .i64 0))), none, true⟩]
@[reducible] def o26_3 : List Ins := [⟨(some 33), .bin .lss (.t 32) (.t 31), none, true⟩]
@[reducible] def o26_4 : List Ins := [⟨(some 34), .ia 4 (.t 30) (.t 32), none, true⟩,
  ⟨(some 35), .ld false 4 (.t 34), none, true⟩,
  ⟨(some 5), .alloc [(.c (.int .i64 0)), (.c (.int .i64 0)), (.c (.int .i64 0)), (.c (.int .i64 0))], none, true⟩,
  ⟨none, .st 4 (.t 5) (.t 35), none, true⟩]
@[reducible] def o26_5 : List Ins := [⟨(some 36), .mv (.t 3), none, true⟩,
  ⟨(some 37), .mv (.t 36), none, true⟩,
  ⟨(some 38), .fa 0 (.t 5), (some (37, true)), true⟩,
  ⟨(some 39), .ld true 1 (.t 38), (some (37, true)), true⟩,
  ⟨(some 40), .bin .geq (.t 39) (.k (.c (.int .i64 0))), (some (37, true)), true⟩,
  ⟨(some 41), .pick (.t 37) (.t 40) (.k (.c (.bool false))), none, true⟩,
  ⟨(some 42), .mv (.t 41), none, true⟩,
  ⟨(some 43), .fa 0 (.t 5), (some (42, true)), true⟩,
  ⟨(some 44), .ld true 1 (.t 43), (some (42, true)), true⟩,
  ⟨(some 45), .fa 1 (.t 5), (some (42, true)), true⟩,
  ⟨(some 46), .ld true 1 (.t 45), (some (42, true)), true⟩,
  ⟨(some 47), .bin .leq (.t 44) (.t 46), (some (42, true)), true⟩,
  ⟨(some 48), .pick (.t 42) (.t 47) (.k (.c (.bool false))), none, true⟩,
  ⟨(some 49), .mv (.t 48), none, true⟩,
  ⟨(some 50), .fa 1 (.t 5), (some (49, true)), true⟩,
  ⟨(some 51), .ld true 1 (.t 50), (some (49, true)), true⟩,
  ⟨(some 52), .bin .leq (.t 51) (.k (.c (.int .i64 1440))), (some (49, true)), true⟩,
  ⟨(some 53), .pick (.t 49) (.t 52) (.k (.c (.bool false))), none, true⟩,
  ⟨(some 54), .mv (.t 53), none, true⟩,
  ⟨(some 55), .fa 2 (.t 5), (some (54, true)), true⟩,
  ⟨(some 56), .ld true 1 (.t 55), (some (54, true)), true⟩,
  ⟨(some 57), .call (.k (.fn 57 [])) [(.t 56), (.k (.c (.int .i64 0))), (.k (.c (.int .i64 1440)))], (some (54, true)), true⟩,
  ⟨(some 58), .pick (.t 54) (.t 57) (.k (.c (.bool false))), none, true⟩,
  ⟨(some 59), .mv (.t 58), none, true⟩,
  ⟨(some 60), .fa 3 (.t 5), (some (59, true)), true⟩,
  ⟨(some 61), .ld true 1 (.t 60), (some (59, true)), true⟩,
  ⟨(some 62), .call (.k (.fn 57 [])) [(.t 61), (.k (.c (.int .i64 0))), (.k (.c (.int .i64 99999)))], (some (59, true)), true⟩,
  ⟨(some 63), .pick (.t 59) (.t 62) (.k (.c (.bool false))), none, true⟩,
  ⟨(some 3), .mv (.t 63), none, true⟩]
@[reducible] def v26_6 : VC := (.seq (.ops o26_4) (.ops o26_5))
@[reducible] def o26_7 : List Ins := [⟨(some 64), .bin .add (.t 32) (.k (.c (.int .i64 1))), none, true⟩,
  ⟨(some 32), .mv (.t 64), none, true⟩]
@[reducible] def v26_8 : VC := (.seq (.block 1 v26_6) (.ops o26_7))
@[reducible] def v26_9 : VC := (.seq (.cond (.t 33) .skip (.exit 0)) v26_8)
@[reducible] def v26_10 : VC := (.seq (.ops o26_3) v26_9)
-- K26_1: changed and kept: [32, 3]
@[reducible] def K26_1 : List Nat := [1, 30, 31]
@[reducible] def v26_11 : VC := (.loop v26_10)
@[reducible] def v26_12 : VC := (.block 0 v26_11)
@[reducible] def o26_13 : List Ins := [⟨(some 65), .fa 1 (.t 1), none, true⟩,
  ⟨(some 66), .ld true 1 (.t 65), none, true⟩,
  ⟨(some 67), .len (.t 66), none, true⟩,
  ⟨(some 68), .mv (.k (.c (.int .i64 0))), none, true⟩]
@[reducible] def o26_14 : List Ins := [⟨(some 69), .bin .lss (.t 68) (.t 67), none, true⟩]
@[reducible] def o26_15 : List Ins := [⟨(some 70), .mv (.t 68), none, true⟩,
  ⟨(some 71), .ia 1 (.t 66) (.t 68), none, true⟩,
  ⟨(some 72), .ld true 1 (.t 71), none, true⟩,
  ⟨(some 6), .mv (.t 70), none, true⟩,
  ⟨(some 7), .mv (.t 72), none, true⟩]
@[reducible] def o26_16 : List Ins := [⟨(some 73), .mv (.t 3), none, true⟩,
  ⟨(some 74), .mv (.t 73), none, true⟩,
  ⟨(some 75), .mv (.t 7), (some (74, true)), true⟩,
  ⟨(some 76), .len (.t 75), (some (74, true)), true⟩,
  ⟨(some 77), .fa 1 (.t 1), (some (74, true)), true⟩,
  ⟨(some 78), .ld true 1 (.t 77), (some (74, true)), true⟩,
  ⟨(some 79), .len (.t 78), (some (74, true)), true⟩,
  ⟨(some 80), .bin .eql (.t 76) (.t 79), (some (74, true)), true⟩,
  ⟨(some 81), .pick (.t 74) (.t 80) (.k (.c (.bool false))), none, true⟩,
  ⟨(some 3), .mv (.t 81), none, true⟩]
@[reducible] def o26_17 : List Ins := [⟨(some 82), .mv (.t 7), none, true⟩,
  ⟨(some 83), .len (.t 82), none, true⟩,
  ⟨(some 84), .mv (.k (.c (.int .i64 0))), none, true⟩]
@[reducible] def o26_18 : List Ins := [⟨(some 85), .bin .lss (.t 84) (.t 83), none, true⟩]
@[reducible] def o26_19 : List Ins := [⟨(some 86), .mv (.t 84), none, true⟩,
  ⟨(some 87), .ia 1 (.t 82) (.t 84), none, true⟩,
  ⟨(some 88), .ld true 1 (.t 87), none, true⟩,
  ⟨(some 8), .mv (.t 86), none, true⟩,
  ⟨(some 9), .mv (.t 88), none, true⟩]
@[reducible] def o26_20 : List Ins := [⟨(some 89), .mv (.t 3), none, true⟩,
  ⟨(some 90), .mv (.t 89), none, true⟩,
  ⟨(some 91), .mv (.t 9), (some (90, true)), true⟩,
  ⟨(some 92), .call (.k (.fn 57 [])) [(.t 91), (.k (.c (.int .i64 0))), (.k (.c (.int .i64 999)))], (some (90, true)), true⟩,
  ⟨(some 93), .pick (.t 90) (.t 92) (.k (.c (.bool false))), none, true⟩,
  ⟨(some 94), .mv (.t 93), none, true⟩,
  ⟨(some 95), .mv (.t 6), (some (94, true)), true⟩,
  ⟨(some 96), .mv (.t 8), (some (94, true)), true⟩,
  ⟨(some 97), .bin .neq (.t 95) (.t 96), (some (94, true)), true⟩,
  ⟨(some 98), .mv (.t 97), (some (94, true)), true⟩,
  ⟨(some 99), .mv (.t 9), (some (98, false)), true⟩,
  ⟨(some 100), .bin .eql (.t 99) (.k (.c (.int .i64 0))), (some (98, false)), true⟩,
  ⟨(some 101), .pick (.t 98) (.k (.c (.bool true))) (.t 100), (some (94, true)), true⟩,
  ⟨(some 102), .pick (.t 94) (.t 101) (.k (.c (.bool false))), none, true⟩,
  ⟨(some 3), .mv (.t 102), none, true⟩]
@[reducible] def v26_21 : VC := (.seq (.ops o26_19) (.ops o26_20))
@[reducible] def o26_22 : List Ins := [⟨(some 103), .bin .add (.t 84) (.k (.c (.int .i64 1))), none, true⟩,
  ⟨(some 84), .mv (.t 103), none, true⟩]
@[reducible] def v26_23 : VC := (.seq (.block 5 v26_21) (.ops o26_22))
@[reducible] def v26_24 : VC := (.seq (.cond (.t 85) .skip (.exit 4)) v26_23)
@[reducible] def v26_25 : VC := (.seq (.ops o26_18) v26_24)
-- K26_3: changed and kept: [84, 3]
@[reducible] def K26_3 : List Nat := [1, 6, 66, 67, 68, 82, 83]
@[reducible] def v26_26 : VC := (.loop v26_25)
@[reducible] def v26_27 : VC := (.block 4 v26_26)
@[reducible] def v26_28 : VC := (.seq (.ops o26_17) v26_27)
@[reducible] def v26_29 : VC := (.seq (.ops o26_16) v26_28)
@[reducible] def v26_30 : VC := (.seq (.ops o26_15) v26_29)
@[reducible] def o26_31 : List Ins := [⟨(some 104), .bin .add (.t 68) (.k (.c (.int .i64 1))), none, true⟩,
  ⟨(some 68), .mv (.t 104), none, true⟩]
@[reducible] def v26_32 : VC := (.seq (.block 3 v26_30) (.ops o26_31))
@[reducible] def v26_33 : VC := (.seq (.cond (.t 69) .skip (.exit 2)) v26_32)
@[reducible] def v26_34 : VC := (.seq (.ops o26_14) v26_33)
-- K26_2: changed and kept: [68, 3]
@[reducible] def K26_2 : List Nat := [1, 66, 67]
@[reducible] def v26_35 : VC := (.loop v26_34)
@[reducible] def v26_36 : VC := (.block 2 v26_35)
@[reducible] def o26_37 : List Ins := [⟨(some 105), .mv (.t 3), none, true⟩,
  ⟨(some 106), .un .not (.t 105), none, true⟩]
@[reducible] def o26_38 : List Ins := [⟨(some 2), .mv (.k (.c (.int .i64 80))), none, true⟩]
@[reducible] def v26_39 : VC := (.seq (.ops o26_38) .ret)
@[reducible] def v26_40 : VC := (.cond (.t 106) v26_39 .skip)
@[reducible] def o26_41 : List Ins := [⟨(some 2), .mv (.k (.c (.int .i64 0))), none, true⟩]
@[reducible] def v26_42 : VC := (.seq (.ops o26_41) .ret)
@[reducible] def v26_43 : VC := (.seq (.seq (.ops o26_37) v26_40) v26_42)
@[reducible] def v26_44 : VC := (.seq (.seq (.ops o26_13) v26_36) v26_43)
@[reducible] def v26_45 : VC := (.seq (.seq (.ops o26_2) v26_12) v26_44)
@[reducible] def v26_46 : VC := (.seq (.ops o26_1) v26_45)
def ir26 : FC := ⟨1, 107, [.t 2], (.seq (.ops o26_0) v26_46)⟩
theorem c57 : compM Try.prog [] 57 = some ir57 := by kernel_rfl
theorem c26 : compM Try.prog [] 26 = some ir26 := by kernel_rfl



theorem wi57 (a b c : Int) : FSpec Try.prog 57 [iv a, iv b, iv c] (.c (.bool (within a b c))) := by
  refine FSpec_of c57 (Nat.le_refl _) (by decide) fun C hP hN hC hL => ?_
  simp only [ir57]
  (refine WV_seq_ (WV_ops ?_); simp only [go_sem, init_env', Nat.reduceEqDiff, Nat.reduceAdd, Nat.reduceMul, reduceIte, Nat.reduceLeDiff, Nat.reduceLT, Nat.reduceBEq, reduceCtorEq, hP, ]; (repeat (refine And.intro (by first | omega | (intros; simp_all; done) | (intros; simp_all; omega)) ?_)))
  (refine WV_seq_ (WV_ops ?_); simp only [go_sem, init_env', Nat.reduceEqDiff, Nat.reduceAdd, Nat.reduceMul, reduceIte, Nat.reduceLeDiff, Nat.reduceLT, Nat.reduceBEq, reduceCtorEq, hP, ]; (repeat (refine And.intro (by first | omega | (intros; simp_all; done) | (intros; simp_all; omega)) ?_)))
  (refine WV_ret ?_; simp only [thenQ, inQ, RetQ, RetOk, resAll, resA]; simp only [go_sem, init_env', Nat.reduceEqDiff, Nat.reduceAdd, Nat.reduceMul, reduceIte, Nat.reduceLeDiff, Nat.reduceLT, Nat.reduceBEq, reduceCtorEq, tupA, AV.port, AV.portL, exists_eq_left', ]; (first | exact AVle.of rfl | refine AVle.of ?_ | skip))

set_option maxHeartbeats 4000000 in
theorem rcheck_spec (r : Route) : FSpec Try.prog 26 [r.av] (iv (if r.ok then 0 else 80)) := by
  refine FSpec_of c26 (Nat.le_refl _) (by decide) fun C hP hN hC hL => ?_
  obtain ⟨h1, h2, h3⟩ := Route.lens hL
  simp only [ir26, Route.av, stopsC, driveC]
  (refine WV_seq_ (WV_ops ?_); simp only [go_sem, init_env', Nat.reduceEqDiff, Nat.reduceAdd, Nat.reduceMul, reduceIte, Nat.reduceLeDiff, Nat.reduceLT, Nat.reduceBEq, reduceCtorEq, hP, ]; (repeat (refine And.intro (by first | omega | (intros; simp_all; done) | (intros; simp_all; omega)) ?_)))
  refine WV_seq_ (WV_ops ?_)
  simp only [go_sem, init_env', Nat.reduceEqDiff, Nat.reduceAdd, Nat.reduceMul, reduceIte, Nat.reduceLeDiff, Nat.reduceLT, Nat.reduceBEq, reduceCtorEq, hP]
  (refine AG_pure (fun hG => wi57 _ _ _) rfl (fun hG => by first | (simp only [go_sem, init_env', Nat.reduceEqDiff, Nat.reduceAdd, Nat.reduceMul, reduceIte, Nat.reduceLeDiff, Nat.reduceLT, Nat.reduceBEq, reduceCtorEq, hG]; done) | (simp only [go_sem, init_env', Nat.reduceEqDiff, Nat.reduceAdd, Nat.reduceMul, reduceIte, Nat.reduceLeDiff, Nat.reduceLT, Nat.reduceBEq, reduceCtorEq]; revert hG; simp; done) | (simp only [go_sem, init_env', Nat.reduceEqDiff, Nat.reduceAdd, Nat.reduceMul, reduceIte, Nat.reduceLeDiff, Nat.reduceLT, Nat.reduceBEq, reduceCtorEq, hG]; simp_all; done) | (revert hG; simp; done) | simp_all) rfl rfl rfl ?_; simp only [go_sem, init_env', Nat.reduceEqDiff, Nat.reduceAdd, Nat.reduceMul, reduceIte, Nat.reduceLeDiff, Nat.reduceLT, Nat.reduceBEq, reduceCtorEq, hP, ]; (repeat (refine And.intro (by first | omega | (intros; simp_all; done) | (intros; simp_all; omega)) ?_)))
  refine WV_seq_ (WV_seq_ (WV_ops ?_))
  simp only [go_sem, init_env', Nat.reduceEqDiff, Nat.reduceAdd, Nat.reduceMul, reduceIte, Nat.reduceLeDiff, Nat.reduceLT, Nat.reduceBEq, reduceCtorEq, hP]
  refine WV_block ?_
  rw [g0_eq _ _ _ h1]
  generalize hg0 : (decide (r.stops.length ≤ 7) && r.drive.length == r.stops.length + 1 && within r.start 0 1440) = g0
  refine WV_loopK K26_1 [] (fun k : Nat => k ≤ r.stops.length) (fun k => r.stops.length - k) (fun k => [(3, .c (.bool (g0 && (r.stops.take k).all okStop))), (32, iv k)]) (fun _ => []) 0 (Nat.zero_le _) ?_ ?_
  · (refine Sub_of (by simp only [go_sem, init_env', Nat.reduceEqDiff, Nat.reduceAdd, Nat.reduceMul, reduceIte, Nat.reduceLeDiff, Nat.reduceLT, Nat.reduceBEq, reduceCtorEq]; ((repeat' (first | exact EnvLe_e0 _ _ | refine EnvLe_upd ?_ ?_)) <;> ((try simp only [upd_app, e0_app, o0_app, Nat.reduceEqDiff, reduceIte]); first | exact AWk.refl _ _ | exact AWk.int (by omega) | exact AWk.int (by rw [w64 (by omega) (by omega)]; omega) | exact AWk.grow rfl | exact AWk.nil _ | exact AWk.of (by simp)))) (by simp only [go_sem, init_env', Nat.reduceEqDiff, Nat.reduceAdd, Nat.reduceMul, reduceIte, Nat.reduceLeDiff, Nat.reduceLT, Nat.reduceBEq, reduceCtorEq]; (first | ((repeat' (first | exact ObjLe_o0 _ | exact ObjLe.rfl' _ | refine ObjLe_same ?_ | refine ObjLe_upd ?_ ?_ | refine ObjLe_new rfl ?_)) <;> rfl) | (refine ObjLe_X ?_; (repeat' (first | exact ObjLeX_o0 _ _ | refine ObjLeX_skip rfl ?_ | refine ObjLeX_upd ?_ ?_)) <;> rfl))))
  · intro k hk
    simp only [go_sem, init_env', Nat.reduceEqDiff, Nat.reduceAdd, Nat.reduceMul, reduceIte, Nat.reduceLeDiff, Nat.reduceLT, Nat.reduceBEq, reduceCtorEq]
    (refine WV_seq_ (WV_ops ?_); simp only [go_sem, init_env', Nat.reduceEqDiff, Nat.reduceAdd, Nat.reduceMul, reduceIte, Nat.reduceLeDiff, Nat.reduceLT, Nat.reduceBEq, reduceCtorEq, hP, ]; (repeat (refine And.intro (by first | omega | (intros; simp_all; done) | (intros; simp_all; omega)) ?_)))
    refine WV_seq_ (WV_cond rfl (fun h => ?_) (fun h => ?_))
    · simp only [decide_eq_true_eq, Int.ofNat_lt] at h
      refine WV_skip ?_
      simp only [thenQ_normal]
      refine WV_seq_ (WV_block ?_)
      (refine WV_seq_ (WV_ops ?_); simp only [go_sem, init_env', Nat.reduceEqDiff, Nat.reduceAdd, Nat.reduceMul, reduceIte, Nat.reduceLeDiff, Nat.reduceLT, Nat.reduceBEq, reduceCtorEq, hP, Int.toNat_natCast, map_getD h, Int.ofNat_lt, h, Int.natCast_nonneg, Stop.cds]; (repeat (refine And.intro (by first | omega | (intros; simp_all; done) | (intros; simp_all; omega)) ?_)))
      refine WV_ops ?_
      simp only [go_sem, init_env', Nat.reduceEqDiff, Nat.reduceAdd, Nat.reduceMul, reduceIte, Nat.reduceLeDiff, Nat.reduceLT, Nat.reduceBEq, reduceCtorEq, hP]
      (refine AG_pure (fun hG => wi57 _ _ _) rfl (fun hG => by first | (simp only [go_sem, init_env', Nat.reduceEqDiff, Nat.reduceAdd, Nat.reduceMul, reduceIte, Nat.reduceLeDiff, Nat.reduceLT, Nat.reduceBEq, reduceCtorEq, hG]; done) | (simp only [go_sem, init_env', Nat.reduceEqDiff, Nat.reduceAdd, Nat.reduceMul, reduceIte, Nat.reduceLeDiff, Nat.reduceLT, Nat.reduceBEq, reduceCtorEq]; revert hG; simp; done) | (simp only [go_sem, init_env', Nat.reduceEqDiff, Nat.reduceAdd, Nat.reduceMul, reduceIte, Nat.reduceLeDiff, Nat.reduceLT, Nat.reduceBEq, reduceCtorEq, hG]; simp_all; done) | (revert hG; simp; done) | simp_all) rfl rfl rfl ?_; simp only [go_sem, init_env', Nat.reduceEqDiff, Nat.reduceAdd, Nat.reduceMul, reduceIte, Nat.reduceLeDiff, Nat.reduceLT, Nat.reduceBEq, reduceCtorEq, hP, ]; (repeat (refine And.intro (by first | omega | (intros; simp_all; done) | (intros; simp_all; omega)) ?_)))
      (refine AG_pure (fun hG => wi57 _ _ _) rfl (fun hG => by first | (simp only [go_sem, init_env', Nat.reduceEqDiff, Nat.reduceAdd, Nat.reduceMul, reduceIte, Nat.reduceLeDiff, Nat.reduceLT, Nat.reduceBEq, reduceCtorEq, hG]; done) | (simp only [go_sem, init_env', Nat.reduceEqDiff, Nat.reduceAdd, Nat.reduceMul, reduceIte, Nat.reduceLeDiff, Nat.reduceLT, Nat.reduceBEq, reduceCtorEq]; revert hG; simp; done) | (simp only [go_sem, init_env', Nat.reduceEqDiff, Nat.reduceAdd, Nat.reduceMul, reduceIte, Nat.reduceLeDiff, Nat.reduceLT, Nat.reduceBEq, reduceCtorEq, hG]; simp_all; done) | (revert hG; simp; done) | simp_all) rfl rfl rfl ?_; simp only [go_sem, init_env', Nat.reduceEqDiff, Nat.reduceAdd, Nat.reduceMul, reduceIte, Nat.reduceLeDiff, Nat.reduceLT, Nat.reduceBEq, reduceCtorEq, hP, ]; (repeat (refine And.intro (by first | omega | (intros; simp_all; done) | (intros; simp_all; omega)) ?_)))
      (refine WV_ops ?_; simp only [go_sem, init_env', Nat.reduceEqDiff, Nat.reduceAdd, Nat.reduceMul, reduceIte, Nat.reduceLeDiff, Nat.reduceLT, Nat.reduceBEq, reduceCtorEq, hP, ]; (repeat (refine And.intro (by first | omega | (intros; simp_all; done) | (intros; simp_all; omega)) ?_)))
      refine ⟨k + 1, by omega, by omega, ?_⟩
      (refine Sub_of (by simp only [go_sem, init_env', Nat.reduceEqDiff, Nat.reduceAdd, Nat.reduceMul, reduceIte, Nat.reduceLeDiff, Nat.reduceLT, Nat.reduceBEq, reduceCtorEq]; ((repeat' (first | exact EnvLe_e0 _ _ | refine EnvLe_upd ?_ ?_)) <;> ((try simp only [upd_app, e0_app, o0_app, Nat.reduceEqDiff, reduceIte]); first | exact AWk.refl _ _ | exact AWk.int (by omega) | exact AWk.int (by rw [w64 (by omega) (by omega)]; omega) | exact AWk.grow rfl | exact AWk.nil _ | exact AWk.of (by (rw [take_all okStop h]; simp [okStop, Bool.and_assoc]))))) (by simp only [go_sem, init_env', Nat.reduceEqDiff, Nat.reduceAdd, Nat.reduceMul, reduceIte, Nat.reduceLeDiff, Nat.reduceLT, Nat.reduceBEq, reduceCtorEq]; (first | ((repeat' (first | exact ObjLe_o0 _ | exact ObjLe.rfl' _ | refine ObjLe_same ?_ | refine ObjLe_upd ?_ ?_ | refine ObjLe_new rfl ?_)) <;> rfl) | (refine ObjLe_X ?_; (repeat' (first | exact ObjLeX_o0 _ _ | refine ObjLeX_skip rfl ?_ | refine ObjLeX_upd ?_ ?_)) <;> rfl))))
    · simp only [decide_eq_false_iff_not, Int.ofNat_lt] at h
      refine WV_exit ?_
      simp only [thenQ, inQ]
      simp only [go_sem, init_env', Nat.reduceEqDiff, Nat.reduceAdd, Nat.reduceMul, reduceIte, Nat.reduceLeDiff, Nat.reduceLT, Nat.reduceBEq, reduceCtorEq]
      have hk' : k = r.stops.length := by omega
      subst hk'
      rw [List.take_length]
      generalize hg1 : (g0 && r.stops.all okStop) = g1
      refine WV_seq_ (WV_seq_ (WV_ops ?_))
      simp only [go_sem, init_env', Nat.reduceEqDiff, Nat.reduceAdd, Nat.reduceMul, reduceIte, Nat.reduceLeDiff, Nat.reduceLT, Nat.reduceBEq, reduceCtorEq, hP]
      refine WV_block ?_
      refine WV_loopK K26_2 [] (fun k : Nat => k ≤ r.drive.length) (fun k => r.drive.length - k) (fun k => [(3, .c (.bool (g1 && (r.drive.zipIdx.take k).all fun p => okRow r.drive.length p.2 p.1))), (68, iv k)]) (fun _ => []) 0 (Nat.zero_le _) ?_ ?_
      · (refine Sub_of (by simp only [go_sem, init_env', Nat.reduceEqDiff, Nat.reduceAdd, Nat.reduceMul, reduceIte, Nat.reduceLeDiff, Nat.reduceLT, Nat.reduceBEq, reduceCtorEq]; ((repeat' (first | exact EnvLe_e0 _ _ | refine EnvLe_upd ?_ ?_)) <;> ((try simp only [upd_app, e0_app, o0_app, Nat.reduceEqDiff, reduceIte]); first | exact AWk.refl _ _ | exact AWk.int (by omega) | exact AWk.int (by rw [w64 (by omega) (by omega)]; omega) | exact AWk.grow rfl | exact AWk.nil _ | exact AWk.of (by simp)))) (by simp only [go_sem, init_env', Nat.reduceEqDiff, Nat.reduceAdd, Nat.reduceMul, reduceIte, Nat.reduceLeDiff, Nat.reduceLT, Nat.reduceBEq, reduceCtorEq]; (first | ((repeat' (first | exact ObjLe_o0 _ | exact ObjLe.rfl' _ | refine ObjLe_same ?_ | refine ObjLe_upd ?_ ?_ | refine ObjLe_new rfl ?_)) <;> rfl) | (refine ObjLe_X ?_; (repeat' (first | exact ObjLeX_o0 _ _ | refine ObjLeX_skip rfl ?_ | refine ObjLeX_upd ?_ ?_)) <;> rfl))))
      · intro k hk
        simp only [go_sem, init_env', Nat.reduceEqDiff, Nat.reduceAdd, Nat.reduceMul, reduceIte, Nat.reduceLeDiff, Nat.reduceLT, Nat.reduceBEq, reduceCtorEq]
        (refine WV_seq_ (WV_ops ?_); simp only [go_sem, init_env', Nat.reduceEqDiff, Nat.reduceAdd, Nat.reduceMul, reduceIte, Nat.reduceLeDiff, Nat.reduceLT, Nat.reduceBEq, reduceCtorEq, hP, ]; (repeat (refine And.intro (by first | omega | (intros; simp_all; done) | (intros; simp_all; omega)) ?_)))
        refine WV_seq_ (WV_cond rfl (fun h => ?_) (fun h => ?_))
        · simp only [decide_eq_true_eq, Int.ofNat_lt] at h
          refine WV_skip ?_
          simp only [thenQ_normal]
          refine WV_seq_ (WV_block ?_)
          (refine WV_seq_ (WV_ops ?_); simp only [go_sem, init_env', Nat.reduceEqDiff, Nat.reduceAdd, Nat.reduceMul, reduceIte, Nat.reduceLeDiff, Nat.reduceLT, Nat.reduceBEq, reduceCtorEq, hP, Int.toNat_natCast, map_getD h, Int.ofNat_lt, h, Int.natCast_nonneg]; (repeat (refine And.intro (by first | omega | (intros; simp_all; done) | (intros; simp_all; omega)) ?_)))
          (refine WV_seq_ (WV_ops ?_); simp only [go_sem, init_env', Nat.reduceEqDiff, Nat.reduceAdd, Nat.reduceMul, reduceIte, Nat.reduceLeDiff, Nat.reduceLT, Nat.reduceBEq, reduceCtorEq, hP, ints]; (repeat (refine And.intro (by first | omega | (intros; simp_all; done) | (intros; simp_all; omega)) ?_)))
          refine WV_seq_ ?_
          (refine WV_ops ?_; simp only [go_sem, init_env', Nat.reduceEqDiff, Nat.reduceAdd, Nat.reduceMul, reduceIte, Nat.reduceLeDiff, Nat.reduceLT, Nat.reduceBEq, reduceCtorEq, hP, ints]; (repeat (refine And.intro (by first | omega | (intros; simp_all; done) | (intros; simp_all; omega)) ?_)))
          refine WV_block ?_
          generalize hg2 : (g1 && (r.drive.zipIdx.take k).all fun p => okRow r.drive.length p.2 p.1) = g2
          refine WV_loopK K26_3 [] (fun j : Nat => j ≤ r.drive[k].length) (fun j => r.drive[k].length - j) (fun j => [(3, .c (.bool (g2 && (r.drive[k].length == r.drive.length) && (r.drive[k].zipIdx.take j).all fun p => okCell k p.2 p.1))), (84, iv j)]) (fun _ => []) 0 (Nat.zero_le _) ?_ ?_
          · (refine Sub_of (by simp only [go_sem, init_env', Nat.reduceEqDiff, Nat.reduceAdd, Nat.reduceMul, reduceIte, Nat.reduceLeDiff, Nat.reduceLT, Nat.reduceBEq, reduceCtorEq]; ((repeat' (first | exact EnvLe_e0 _ _ | refine EnvLe_upd ?_ ?_)) <;> ((try simp only [upd_app, e0_app, o0_app, Nat.reduceEqDiff, reduceIte]); first | exact AWk.refl _ _ | exact AWk.int (by omega) | exact AWk.int (by rw [w64 (by omega) (by omega)]; omega) | exact AWk.grow rfl | exact AWk.nil _ | exact AWk.of (by (simp [ibeq]))))) (by simp only [go_sem, init_env', Nat.reduceEqDiff, Nat.reduceAdd, Nat.reduceMul, reduceIte, Nat.reduceLeDiff, Nat.reduceLT, Nat.reduceBEq, reduceCtorEq]; (first | ((repeat' (first | exact ObjLe_o0 _ | exact ObjLe.rfl' _ | refine ObjLe_same ?_ | refine ObjLe_upd ?_ ?_ | refine ObjLe_new rfl ?_)) <;> rfl) | (refine ObjLe_X ?_; (repeat' (first | exact ObjLeX_o0 _ _ | refine ObjLeX_skip rfl ?_ | refine ObjLeX_upd ?_ ?_)) <;> rfl))))
          · intro j hj
            have h4 := h3 _ (List.getElem_mem h)
            simp only [go_sem, init_env', Nat.reduceEqDiff, Nat.reduceAdd, Nat.reduceMul, reduceIte, Nat.reduceLeDiff, Nat.reduceLT, Nat.reduceBEq, reduceCtorEq]
            (refine WV_seq_ (WV_ops ?_); simp only [go_sem, init_env', Nat.reduceEqDiff, Nat.reduceAdd, Nat.reduceMul, reduceIte, Nat.reduceLeDiff, Nat.reduceLT, Nat.reduceBEq, reduceCtorEq, hP, ]; (repeat (refine And.intro (by first | omega | (intros; simp_all; done) | (intros; simp_all; omega)) ?_)))
            refine WV_seq_ (WV_cond rfl (fun h' => ?_) (fun h' => ?_))
            · simp only [decide_eq_true_eq, Int.ofNat_lt] at h'
              refine WV_skip ?_
              simp only [thenQ_normal]
              refine WV_seq_ (WV_block ?_)
              (refine WV_seq_ (WV_ops ?_); simp only [go_sem, init_env', Nat.reduceEqDiff, Nat.reduceAdd, Nat.reduceMul, reduceIte, Nat.reduceLeDiff, Nat.reduceLT, Nat.reduceBEq, reduceCtorEq, hP, Int.toNat_natCast, map_getD h', Int.ofNat_lt, h', Int.natCast_nonneg]; (repeat (refine And.intro (by first | omega | (intros; simp_all; done) | (intros; simp_all; omega)) ?_)))
              refine WV_ops ?_
              simp only [go_sem, init_env', Nat.reduceEqDiff, Nat.reduceAdd, Nat.reduceMul, reduceIte, Nat.reduceLeDiff, Nat.reduceLT, Nat.reduceBEq, reduceCtorEq, hP]
              (refine AG_pure (fun hG => wi57 _ _ _) rfl (fun hG => by first | (simp only [go_sem, init_env', Nat.reduceEqDiff, Nat.reduceAdd, Nat.reduceMul, reduceIte, Nat.reduceLeDiff, Nat.reduceLT, Nat.reduceBEq, reduceCtorEq, hG]; done) | (simp only [go_sem, init_env', Nat.reduceEqDiff, Nat.reduceAdd, Nat.reduceMul, reduceIte, Nat.reduceLeDiff, Nat.reduceLT, Nat.reduceBEq, reduceCtorEq]; revert hG; simp; done) | (simp only [go_sem, init_env', Nat.reduceEqDiff, Nat.reduceAdd, Nat.reduceMul, reduceIte, Nat.reduceLeDiff, Nat.reduceLT, Nat.reduceBEq, reduceCtorEq, hG]; simp_all; done) | (revert hG; simp; done) | simp_all) rfl rfl rfl ?_; simp only [go_sem, init_env', Nat.reduceEqDiff, Nat.reduceAdd, Nat.reduceMul, reduceIte, Nat.reduceLeDiff, Nat.reduceLT, Nat.reduceBEq, reduceCtorEq, hP, ]; (repeat (refine And.intro (by first | omega | (intros; simp_all; done) | (intros; simp_all; omega)) ?_)))
              (refine WV_ops ?_; simp only [go_sem, init_env', Nat.reduceEqDiff, Nat.reduceAdd, Nat.reduceMul, reduceIte, Nat.reduceLeDiff, Nat.reduceLT, Nat.reduceBEq, reduceCtorEq, hP, ]; (repeat (refine And.intro (by first | omega | (intros; simp_all; done) | (intros; simp_all; omega)) ?_)))
              refine ⟨j + 1, by omega, by omega, ?_⟩
              (refine Sub_of (by simp only [go_sem, init_env', Nat.reduceEqDiff, Nat.reduceAdd, Nat.reduceMul, reduceIte, Nat.reduceLeDiff, Nat.reduceLT, Nat.reduceBEq, reduceCtorEq]; ((repeat' (first | exact EnvLe_e0 _ _ | refine EnvLe_upd ?_ ?_)) <;> ((try simp only [upd_app, e0_app, o0_app, Nat.reduceEqDiff, reduceIte]); first | exact AWk.refl _ _ | exact AWk.int (by omega) | exact AWk.int (by rw [w64 (by omega) (by omega)]; omega) | exact AWk.grow rfl | exact AWk.nil _ | exact AWk.of (by (rw [take_zipIdx _ h']; simp [okCell, ibne, Bool.and_assoc]))))) (by simp only [go_sem, init_env', Nat.reduceEqDiff, Nat.reduceAdd, Nat.reduceMul, reduceIte, Nat.reduceLeDiff, Nat.reduceLT, Nat.reduceBEq, reduceCtorEq]; (first | ((repeat' (first | exact ObjLe_o0 _ | exact ObjLe.rfl' _ | refine ObjLe_same ?_ | refine ObjLe_upd ?_ ?_ | refine ObjLe_new rfl ?_)) <;> rfl) | (refine ObjLe_X ?_; (repeat' (first | exact ObjLeX_o0 _ _ | refine ObjLeX_skip rfl ?_ | refine ObjLeX_upd ?_ ?_)) <;> rfl))))
            · simp only [decide_eq_false_iff_not, Int.ofNat_lt] at h'
              refine WV_exit ?_
              simp only [go_sem, init_env', Nat.reduceEqDiff, Nat.reduceAdd, Nat.reduceMul, reduceIte, Nat.reduceLeDiff, Nat.reduceLT, Nat.reduceBEq, reduceCtorEq]
              have hj' : j = r.drive[k].length := by omega
              subst hj'
              (refine WV_ops ?_; simp only [go_sem, init_env', Nat.reduceEqDiff, Nat.reduceAdd, Nat.reduceMul, reduceIte, Nat.reduceLeDiff, Nat.reduceLT, Nat.reduceBEq, reduceCtorEq, hP, ]; (repeat (refine And.intro (by first | omega | (intros; simp_all; done) | (intros; simp_all; omega)) ?_)))
              refine ⟨k + 1, by omega, by omega, ?_⟩
              rw [List.take_of_length_le (by simp)]
              (refine Sub_of (by simp only [go_sem, init_env', Nat.reduceEqDiff, Nat.reduceAdd, Nat.reduceMul, reduceIte, Nat.reduceLeDiff, Nat.reduceLT, Nat.reduceBEq, reduceCtorEq]; ((repeat' (first | exact EnvLe_e0 _ _ | refine EnvLe_upd ?_ ?_)) <;> ((try simp only [upd_app, e0_app, o0_app, Nat.reduceEqDiff, reduceIte]); first | exact AWk.refl _ _ | exact AWk.int (by omega) | exact AWk.int (by rw [w64 (by omega) (by omega)]; omega) | exact AWk.grow rfl | exact AWk.nil _ | exact AWk.of (by (rw [take_zipIdx _ h, ← hg2]; simp [okRow, Bool.and_assoc]))))) (by simp only [go_sem, init_env', Nat.reduceEqDiff, Nat.reduceAdd, Nat.reduceMul, reduceIte, Nat.reduceLeDiff, Nat.reduceLT, Nat.reduceBEq, reduceCtorEq]; (first | ((repeat' (first | exact ObjLe_o0 _ | exact ObjLe.rfl' _ | refine ObjLe_same ?_ | refine ObjLe_upd ?_ ?_ | refine ObjLe_new rfl ?_)) <;> rfl) | (refine ObjLe_X ?_; (repeat' (first | exact ObjLeX_o0 _ _ | refine ObjLeX_skip rfl ?_ | refine ObjLeX_upd ?_ ?_)) <;> rfl))))
        · simp only [decide_eq_false_iff_not, Int.ofNat_lt] at h
          refine WV_exit ?_
          simp only [go_sem, init_env', Nat.reduceEqDiff, Nat.reduceAdd, Nat.reduceMul, reduceIte, Nat.reduceLeDiff, Nat.reduceLT, Nat.reduceBEq, reduceCtorEq]
          have hk' : k = r.drive.length := by omega
          subst hk'
          rw [List.take_of_length_le (by simp)]
          have hok : (g1 && r.drive.zipIdx.all fun p => okRow r.drive.length p.2 p.1) = r.ok := by rw [← hg1, ← hg0]; rfl
          rw [hok]
          refine WV_seq_ (WV_seq_ (WV_ops ?_))
          simp only [go_sem, init_env', Nat.reduceEqDiff, Nat.reduceAdd, Nat.reduceMul, reduceIte, Nat.reduceLeDiff, Nat.reduceLT, Nat.reduceBEq, reduceCtorEq, hP]
          refine WV_cond rfl (fun h => ?_) (fun h => ?_)
          · (refine WV_seq_ (WV_ops ?_); simp only [go_sem, init_env', Nat.reduceEqDiff, Nat.reduceAdd, Nat.reduceMul, reduceIte, Nat.reduceLeDiff, Nat.reduceLT, Nat.reduceBEq, reduceCtorEq, hP, ]; (repeat (refine And.intro (by first | omega | (intros; simp_all; done) | (intros; simp_all; omega)) ?_)))
            (refine WV_ret ?_; simp only [thenQ, inQ, RetQ, RetOk, resAll, resA]; simp only [go_sem, init_env', Nat.reduceEqDiff, Nat.reduceAdd, Nat.reduceMul, reduceIte, Nat.reduceLeDiff, Nat.reduceLT, Nat.reduceBEq, reduceCtorEq, tupA, AV.port, AV.portL, exists_eq_left', ]; (first | exact AVle.of rfl | refine AVle.of ?_ | skip))
            simp at h
            simp [h]
          · refine WV_skip ?_
            simp only [go_sem, init_env', Nat.reduceEqDiff, Nat.reduceAdd, Nat.reduceMul, reduceIte, Nat.reduceLeDiff, Nat.reduceLT, Nat.reduceBEq, reduceCtorEq]
            (refine WV_seq_ (WV_ops ?_); simp only [go_sem, init_env', Nat.reduceEqDiff, Nat.reduceAdd, Nat.reduceMul, reduceIte, Nat.reduceLeDiff, Nat.reduceLT, Nat.reduceBEq, reduceCtorEq, hP, ]; (repeat (refine And.intro (by first | omega | (intros; simp_all; done) | (intros; simp_all; omega)) ?_)))
            (refine WV_ret ?_; simp only [thenQ, inQ, RetQ, RetOk, resAll, resA]; simp only [go_sem, init_env', Nat.reduceEqDiff, Nat.reduceAdd, Nat.reduceMul, reduceIte, Nat.reduceLeDiff, Nat.reduceLT, Nat.reduceBEq, reduceCtorEq, tupA, AV.port, AV.portL, exists_eq_left', ]; (first | exact AVle.of rfl | refine AVle.of ?_ | skip))
            simp at h
            simp [h]
end Go.Proofs.Ytbejgfpaokcnpaa

/-
  Vans and rides: plain.
-/
namespace Go.Proofs.Ytbejgfpaokcnpaa
open Go Go.V

structure Van where
  at_ : Nat
  now : Int
  long : Int
  deriving DecidableEq, Inhabited

def vanv (r : Route) (v : Van) : AV := .agg [.c (.pt r.cds), iv v.at_, iv v.now, iv v.long]

def Route.n (r : Route) : Nat := r.stops.length
def Route.d (r : Route) (i j : Nat) : Int := (r.drive.getD i []).getD j 0
def Route.s (r : Route) (i : Nat) : Stop := r.stops.getD i default

def leave (r : Route) : Van := ⟨r.n, r.start, 0⟩
def drv (r : Route) (v : Van) (to : Nat) : Van := ⟨to, v.now + r.d v.at_ to, v.long + r.d v.at_ to⟩
/-- Where it is behind a visit; when this begins; whether there is one. -/
def visit (r : Route) (v : Van) (k : Nat) : Van × Int × Bool :=
  if (r.s k).cl < (drv r v k).now then (drv r v k, 0, false)
  else ({ drv r v k with now := max (drv r v k).now (r.s k).op + (r.s k).st }, max (drv r v k).now (r.s k).op, true)

/-- Times, the first stop that is missed, and the van behind the last visit. -/
def ride (r : Route) : Van → List Nat → List Int × Option Nat × Van
  | v, [] => ([], none, v)
  | v, k :: ks =>
    if (visit r v k).2.2 then
      match ride r (visit r v k).1 ks with
      | (ts, m, w) => ((visit r v k).2.1 :: ts, m, w)
    else ([], some k, v)

structure RouteOk (r : Route) : Prop where
  n7 : r.n ≤ 7
  dl : r.drive.length = r.n + 1
  st : 0 ≤ r.start ∧ r.start ≤ 1440
  stop : ∀ k, k < r.n → 0 ≤ (r.s k).op ∧ (r.s k).op ≤ (r.s k).cl ∧ (r.s k).cl ≤ 1440 ∧ 0 ≤ (r.s k).st ∧ (r.s k).st ≤ 1440 ∧ 0 ≤ (r.s k).ca ∧ (r.s k).ca ≤ 99999
  row : ∀ i, i < r.n + 1 → (r.drive.getD i []).length = r.n + 1
  cell : ∀ i j, i < r.n + 1 → j < r.n + 1 → 0 ≤ r.d i j ∧ r.d i j ≤ 999
  diag : ∀ i, i < r.n + 1 → r.d i i = 0

theorem Route.ok_spec {r : Route} (h : r.ok = true) : RouteOk r := by
  simp only [Route.ok, Bool.and_eq_true, decide_eq_true_eq, beq_iff_eq] at h
  obtain ⟨⟨⟨⟨h1, h2⟩, h3⟩, h4⟩, h5⟩ := h
  have hrow : ∀ i, i < r.n + 1 → okRow (r.n + 1) i (r.drive.getD i []) = true := by
    intro i hi
    have hi' : i < r.drive.length := by unfold Route.n at hi; omega
    have := List.all_eq_true.1 h5 (r.drive[i], i) (by rw [List.mem_zipIdx_iff_getElem?]; simp [hi'])
    rw [h2] at this
    rw [List.getD_eq_getElem?_getD, List.getElem?_eq_getElem hi']
    exact this
  have hr2 : ∀ i, i < r.n + 1 → (r.drive.getD i []).length = r.n + 1 ∧ (r.drive.getD i []).getD i 0 = 0 ∧ ∀ n ∈ r.drive.getD i [], within n 0 999 = true := by
    intro i hi
    have := hrow i hi
    rw [okRow_eq hi] at this
    simp only [Bool.and_eq_true, beq_iff_eq, List.all_eq_true] at this
    exact ⟨this.1.1, this.1.2, this.2⟩
  refine ⟨h1, h2, by simpa [within] using h3, fun k hk => ?_, fun i hi => (hr2 i hi).1, fun i j hi hj => ?_, fun i hi => (hr2 i hi).2.1⟩
  · have hk' : k < r.stops.length := hk
    have := List.all_eq_true.1 h4 r.stops[k] (List.getElem_mem hk')
    have e : r.s k = r.stops[k] := by simp [Route.s, hk']
    rw [e]
    simp [okStop, within] at this
    omega
  · have hj' : j < (r.drive.getD i []).length := by rw [(hr2 i hi).1]; exact hj
    have := (hr2 i hi).2.2 _ (List.getElem_mem hj')
    have e : r.d i j = (r.drive.getD i [])[j] := by simp only [Route.d]; rw [List.getD_eq_getElem?_getD (l := r.drive.getD i []), List.getElem?_eq_getElem hj']; rfl
    rw [e]
    simpa [within] using this
/-- What a van may be at. -/
structure VanOk (r : Route) (v : Van) (k : Nat) : Prop where
  at_ : v.at_ < r.n + 1
  now : 0 ≤ v.now ∧ v.now ≤ 2880
  long : 0 ≤ v.long ∧ v.long ≤ 999 * k
theorem leave_ok {r : Route} (h : RouteOk r) : VanOk r (leave r) 0 := ⟨by simp [leave], by have := h.st; simp [leave]; omega, by simp [leave]⟩
theorem visit_ok {r : Route} (h : RouteOk r) {v : Van} {k i : Nat} (hv : VanOk r v i) (hk : k < r.n) (hm : (visit r v k).2.2 = true) : VanOk r (visit r v k).1 (i + 1) := by
  have hc := h.cell v.at_ k hv.at_ (by omega)
  have hs := h.stop k hk
  have h1 := hv.now
  have h2 := hv.long
  unfold visit at hm ⊢
  split at hm
  · cases hm
  · rename_i hcl
    rw [if_neg hcl]
    simp only [drv] at hcl ⊢
    exact ⟨by simp only; omega, by simp only; omega, by simp only; omega⟩

/-! ### Tours that come in -/
def isTour (r : Route) (l : List Int) : Bool := (l.all fun n => decide (0 ≤ n) && decide (n < (r.n : Int))) && decide l.Nodup

def seenC (l : List Int) : List AV := (List.range 7).map fun (j : Nat) => .c (.bool (decide ((j : Int) ∈ l)))
theorem seenC_len (l : List Int) : (seenC l).length = 7 := by simp [seenC]
theorem seenC_get (l : List Int) {j : Nat} (h : j < 7) (d : AV) : (seenC l).getD j d = .c (.bool (decide ((j : Int) ∈ l))) := by
  unfold seenC
  rw [List.getD_eq_getElem?_getD, List.getElem?_map, List.getElem?_range h]; rfl
theorem seenC_set (l : List Int) {j : Nat} (h : j < 7) : (seenC l).set j (.c (.bool true)) = seenC (l ++ [(j : Int)]) := by
  apply List.ext_getElem
  · simp [seenC]
  · intro n h1 h2
    have hn : n < 7 := by simpa [seenC] using h1
    rw [List.getElem_set]
    split
    · rename_i e; subst e; simp [seenC]
    · rename_i e
      have : ¬ (n : Int) = (j : Int) := by omega
      simp [seenC, this]
theorem isTour_bad {r : Route} {l : List Int} {k : Nat} (h : k < l.length) (hb : ¬ (0 ≤ l[k] ∧ l[k] < (r.n : Int)) ∨ l[k] ∈ l.take k) : isTour r l = false := by
  unfold isTour
  rcases hb with hb | hb
  · have : (l.all fun n => decide (0 ≤ n) && decide (n < (r.n : Int))) = false := List.all_eq_false.2 ⟨l[k], List.getElem_mem h, by simp; omega⟩
    rw [this]; rfl
  · have : ¬ l.Nodup := by
      intro hn
      have e : l = l.take k ++ l[k] :: l.drop (k + 1) := by rw [List.getElem_cons_drop, List.take_append_drop]
      rw [e, List.nodup_append] at hn
      exact hn.2.2 _ hb _ List.mem_cons_self rfl
    simp [this]
theorem isTour_good {r : Route} {l : List Int} (h : ∀ k (hk : k < l.length), 0 ≤ l[k] ∧ l[k] < (r.n : Int) ∧ l[k] ∉ l.take k) : isTour r l = true := by
  unfold isTour
  simp only [Bool.and_eq_true, List.all_eq_true, decide_eq_true_eq]
  refine ⟨fun n hn => ?_, ?_⟩
  · obtain ⟨k, hk, rfl⟩ := List.mem_iff_getElem.1 hn
    exact ⟨(h k hk).1, (h k hk).2.1⟩
  · refine List.pairwise_iff_getElem.2 fun i j hi hj hij he => ?_
    refine (h j hj).2.2 ?_
    rw [← he, List.mem_take_iff_getElem]
    exact ⟨i, by omega, rfl⟩

/-! ### Rides -/
def home (r : Route) (ks : List Nat) (v : Van) : Van := if ks = [] then v else drv r v r.n
theorem ride_snoc (r : Route) : ∀ (ks : List Nat) (v : Van) (k : Nat), (ride r v ks).2.1 = none →
    ride r v (ks ++ [k]) = if (visit r (ride r v ks).2.2 k).2.2 then ((ride r v ks).1 ++ [(visit r (ride r v ks).2.2 k).2.1], none, (visit r (ride r v ks).2.2 k).1) else ((ride r v ks).1, some k, (ride r v ks).2.2)
  | [], v, k, _ => by simp only [List.nil_append, ride]; by_cases h : (visit r v k).2.2 = true <;> simp [h]
  | a :: ks, v, k, h => by
    simp only [List.cons_append, ride] at h ⊢
    by_cases hv : (visit r v a).2.2 = true
    · simp only [hv, if_true] at h ⊢
      have ih := ride_snoc r ks (visit r v a).1 k h
      rw [ih]
      split <;> simp
    · simp only [hv] at h
      simp at h
theorem ride_fail (r : Route) : ∀ (ks : List Nat) (v : Van) (l : List Nat), (ride r v ks).2.1 ≠ none → (ride r v (ks ++ l)).2.1 = (ride r v ks).2.1
  | [], v, l, h => by simp [ride] at h
  | a :: ks, v, l, h => by
    simp only [List.cons_append, ride] at h ⊢
    by_cases hv : (visit r v a).2.2 = true
    · simp only [hv, if_true] at h ⊢
      exact ride_fail r ks _ l h
    · simp only [hv]; rfl
theorem ride_ok {r : Route} (h : RouteOk r) : ∀ (ks : List Nat) (v : Van) (i : Nat), VanOk r v i → (∀ k ∈ ks, k < r.n) → (ride r v ks).2.1 = none → VanOk r (ride r v ks).2.2 (i + ks.length)
  | [], v, i, hv, _, _ => by simpa [ride] using hv
  | a :: ks, v, i, hv, hk, hm => by
    simp only [ride] at hm ⊢
    by_cases hva : (visit r v a).2.2 = true
    · simp only [hva, if_true] at hm ⊢
      have := ride_ok h ks _ (i + 1) (visit_ok h hv (hk a (by simp)) hva) (fun k hk' => hk k (by simp [hk'])) hm
      simpa [Nat.add_assoc, Nat.add_comm 1] using this
    · simp [hva] at hm
theorem ride_len (r : Route) : ∀ (ks : List Nat) (v : Van), (ride r v ks).1.length ≤ ks.length
  | [], v => by simp [ride]
  | a :: ks, v => by
    simp only [ride]
    split
    · have := ride_len r ks (visit r v a).1
      simp only [List.length_cons]; omega
    · simp
def nats (l : List Nat) : CD := ints (l.map fun (n : Nat) => (n : Int))
def rideAV (r : Route) (ks : List Nat) : AV :=
  match ride r (leave r) ks with
  | (_, some k, _) => .agg [.c (ints []), iv k, iv 0, iv 0]
  | (ts, none, v) => .agg [.c (ints ts), iv (-1), iv (home r ks v).now, iv (home r ks v).long]

/-! ### What comes of a tour that came in -/
def toN (l : List Int) : List Nat := l.map Int.toNat
theorem toN_map {r : Route} {l : List Int} (h : isTour r l = true) : (toN l).map (fun (n : Nat) => (n : Int)) = l := by
  simp only [isTour, Bool.and_eq_true, List.all_eq_true, decide_eq_true_eq] at h
  unfold toN
  rw [List.map_map]
  conv => rhs; rw [← List.map_id l]
  refine List.map_congr_left fun n hn => ?_
  have := h.1 n hn
  simp; omega
theorem nats_toN {r : Route} {l : List Int} (h : isTour r l = true) : nats (toN l) = ints l := by unfold nats; rw [toN_map h]
theorem toN_lt {r : Route} {l : List Int} (h : isTour r l = true) : ∀ k ∈ toN l, k < r.n := by
  simp only [isTour, Bool.and_eq_true, List.all_eq_true, decide_eq_true_eq] at h
  intro k hk
  obtain ⟨n, hn, rfl⟩ := List.mem_map.1 hk
  have := h.1 n hn
  omega
def knownE (r : Route) (l : List Int) : Int := if r.ok then (if isTour r l then 0 else 1) else 80
def timesS (r : Route) (l : List Int) : List Int × Int :=
  if r.ok = true ∧ isTour r l = true then (match ride r (leave r) (toN l) with | (_, some _, _) => ([], 81) | (ts, none, _) => (ts, 0)) else ([], knownE r l)
def backS (r : Route) (l : List Int) : Int × Int :=
  if r.ok = true ∧ isTour r l = true then (match ride r (leave r) (toN l) with | (_, some _, _) => (0, 81) | (_, none, v) => ((home r (toN l) v).now, 0)) else (0, knownE r l)
theorem knownE_zero {r : Route} {l : List Int} : (knownE r l != 0) = !decide (r.ok = true ∧ isTour r l = true) := by
  unfold knownE
  cases r.ok <;> cases isTour r l <;> rfl

/-! ### All good tours -/
/-- Those that begin with t, of at most f more stops, each with the van behind its last stop. -/
def ext (r : Route) : Nat → List Nat → Van → List (List Nat × Van)
  | 0, t, v => [(t, v)]
  | f + 1, t, v => (t, v) :: (List.range r.n).flatMap fun k => if k ∈ t then [] else if (visit r v k).2.2 then ext r f (t ++ [k]) (visit r v k).1 else []
def goods (r : Route) : List (List Nat × Van) := ext r (r.n + 1) [] (leave r)
def cellsT (t : List Nat) : List AV := t.map fun (k : Nat) => iv (k : Int)
/-- What is handed to who goes through them. -/
def entT (r : Route) (p : List Nat × Van) : Ent := ⟨[.vw 1 2000 0 p.1.length r.n, vanv r p.2], [cellsT p.1], .c (.bool true)⟩
theorem cellsT_len (t : List Nat) : (cellsT t).length = t.length := by simp [cellsT]
theorem cellsT_pure (t : List Nat) : AV.pureL (cellsT t) = true := by
  induction t with
  | nil => rfl
  | cons a t ih => simp only [cellsT, List.map_cons, AV.pureL, AV.pureB, Bool.true_and]; exact ih
theorem toCD_cells (own : Nat → Ob) (t : List Nat) : (cellsT t).mapM (AV.toCD own) = some (t.map fun (k : Nat) => CD.int .i64 (k : Int)) := by
  induction t with
  | nil => rfl
  | cons a t ih => simp only [cellsT, List.map_cons, List.mapM_cons, AV.toCD, Option.pure_def, Option.bind_eq_bind, Option.bind_some] at ih ⊢; rw [ih]; rfl
theorem grp_one {α : Type} : ∀ l : List α, grp 1 l.length l = l.map fun x => [x]
  | [] => rfl
  | a :: l => by simp [grp, grp_one l]
theorem elemsV_T {own : Nat → Ob} {n : Nat} {t : List Nat} {junk : List AV} {len cap : Nat} (h : (own n).cellsR = some (cellsT t ++ junk)) (hl : len = t.length) : AV.elemsV own (.vw 1 n 0 len cap) = some (1, (t.map fun (k : Nat) => (k : Int)).map fun n => [CD.int .i64 n]) := by
  subst hl
  simp only [AV.elemsV, h]
  rw [if_pos (by simp [cellsT_len])]
  simp only [List.drop_zero, Nat.mul_one]
  rw [List.take_left' (cellsT_len t), toCD_cells]
  simp only [Option.map_some]
  have := grp_one (t.map fun (k : Nat) => CD.int .i64 (k : Int))
  rw [List.length_map] at this
  rw [this, List.map_map, List.map_map]
  rfl
theorem cellsT_solid (t : List Nat) : AV.isSolidL (cellsT t) = true := by
  induction t with
  | nil => rfl
  | cons a t ih => simp only [cellsT, List.map_cons, AV.isSolidL, AV.isSolid, Bool.true_and]; exact ih
theorem pureL_append {a b : List AV} (ha : AV.pureL a = true) (hb : AV.pureL b = true) : AV.pureL (a ++ b) = true := by
  induction a with
  | nil => exact hb
  | cons x a ih => simp only [AV.pureL, Bool.and_eq_true, List.cons_append] at ha ⊢; exact ⟨ha.1, ih ha.2⟩
theorem solidL_append {a b : List AV} (ha : AV.isSolidL a = true) (hb : AV.isSolidL b = true) : AV.isSolidL (a ++ b) = true := by
  induction a with
  | nil => exact hb
  | cons x a ih => simp only [AV.isSolidL, Bool.and_eq_true, List.cons_append] at ha ⊢; exact ⟨ha.1, ih ha.2⟩
theorem cellsT_set (t : List Nat) (a : AV) (junk : List AV) (k : Nat) : (cellsT t ++ a :: junk).set t.length (iv (k : Int)) = cellsT (t ++ [k]) ++ junk := by
  have h := cellsT_len t
  rw [List.set_append, if_neg (by omega), show t.length - (cellsT t).length = 0 from by omega]
  simp [cellsT]
theorem tour_len {n : Nat} {t : List Nat} (h : t.Nodup) (hl : ∀ k ∈ t, k < n) : t.length ≤ n := by
  have := h.length_le_of_subset (l₂ := List.range n) (fun k hk => List.mem_range.2 (hl k hk))
  simpa using this
theorem mem_cast {t : List Nat} {k : Nat} : decide ((k : Int) ∈ t.map fun (k : Nat) => (k : Int)) = decide (k ∈ t) := by
  rw [decide_eq_decide, List.mem_map]
  constructor
  · rintro ⟨a, ha, e⟩; have : a = k := by omega
    exact this ▸ ha
  · intro h; exact ⟨k, h, rfl⟩

/-! ### Whole good tours -/
def isW (r : Route) (p : List Nat × Van) : Bool := !decide (p.1.length < r.n)
def atHome (r : Route) (p : List Nat × Van) : Van := home r p.1 p.2
def wholes (r : Route) : List (List Nat × Van) := (goods r).filter (isW r)
/-- What is handed to who is told of them. -/
def entW (r : Route) (p : List Nat × Van) : Ent := ⟨[.vw 1 2000 0 p.1.length r.n, vanv r (atHome r p)], [cellsT p.1], .tup []⟩
theorem ext_ok {r : Route} (hr : RouteOk r) : ∀ (f : Nat) (t : List Nat) (v : Van), t.Nodup → (∀ k ∈ t, k < r.n) → VanOk r v t.length → ∀ p ∈ ext r f t v, p.1.Nodup ∧ (∀ k ∈ p.1, k < r.n) ∧ VanOk r p.2 p.1.length
  | 0, t, v, h1, h2, h3, p, hp => by simp only [ext, List.mem_singleton] at hp; subst hp; exact ⟨h1, h2, h3⟩
  | f + 1, t, v, h1, h2, h3, p, hp => by
    simp only [ext, List.mem_cons, List.mem_flatMap, List.mem_range] at hp
    rcases hp with rfl | ⟨k, hk, hp⟩
    · exact ⟨h1, h2, h3⟩
    · split at hp
      · cases hp
      · rename_i hnk
        split at hp
        · rename_i hv
          refine ext_ok hr f (t ++ [k]) _ ?_ ?_ ?_ p hp
          · rw [List.nodup_append]
            exact ⟨h1, by simp, fun a ha b hb => by simp at hb; subst hb; rintro rfl; exact hnk ha⟩
          · intro j hj
            rcases List.mem_append.1 hj with hj | hj
            · exact h2 j hj
            · simp at hj; omega
          · simpa using visit_ok hr h3 hk hv
        · cases hp
theorem goods_ok {r : Route} (hr : RouteOk r) : ∀ p ∈ goods r, p.1.Nodup ∧ (∀ k ∈ p.1, k < r.n) ∧ VanOk r p.2 p.1.length :=
  ext_ok hr _ [] _ List.nodup_nil (by simp) (leave_ok hr)
theorem goods_len {r : Route} (hr : RouteOk r) {p : List Nat × Van} (hp : p ∈ goods r) : p.1.length ≤ r.n := tour_len (goods_ok hr p hp).1 (goods_ok hr p hp).2.1
theorem ext_count (r : Route) (hn : r.n ≤ 7) : ∀ (f : Nat) (t : List Nat) (v : Van), (ext r f t v).length ≤ 8 ^ f
  | 0, t, v => by simp [ext]
  | f + 1, t, v => by
    have ih := ext_count r hn f
    have h : ∀ l : List Nat, (l.flatMap fun k => if k ∈ t then [] else if (visit r v k).2.2 then ext r f (t ++ [k]) (visit r v k).1 else []).length ≤ l.length * 8 ^ f := by
      intro l
      induction l with
      | nil => simp
      | cons a l ihl =>
        rw [List.flatMap_cons, List.length_append, List.length_cons, Nat.add_mul]
        have : (if a ∈ t then [] else if (visit r v a).2.2 then ext r f (t ++ [a]) (visit r v a).1 else []).length ≤ 8 ^ f := by
          split
          · simp
          · split
            · exact ih _ _
            · simp
        omega
    have := h (List.range r.n)
    simp only [List.length_range] at this
    simp only [ext, List.length_cons]
    have h8 : 8 ^ (f + 1) = 8 * 8 ^ f := by rw [Nat.pow_succ, Nat.mul_comm]
    have hp : 0 < 8 ^ f := Nat.pow_pos (by decide)
    have h7 : r.n * 8 ^ f ≤ 7 * 8 ^ f := Nat.mul_le_mul_right _ hn
    omega
theorem goods_count {r : Route} (hn : r.n ≤ 7) : (goods r).length ≤ 16777216 := by
  refine Nat.le_trans (ext_count r hn _ _ _) ?_
  exact Nat.le_trans (Nat.pow_le_pow_right (by decide) (show r.n + 1 ≤ 8 by omega)) (by decide)
end Go.Proofs.Ytbejgfpaokcnpaa

namespace Go.Proofs.Ytbejgfpaokcnpaa
open Go Go.V
@[reducible] def o72_0 : List Ins := [⟨(some 2), .alloc [(.c (.raw (.pointer none))), (.c (.int .i64 0)), (.c (.int .i64 0)), (.c (.int .i64 0))], none, true⟩]
@[reducible] def o72_1 : List Ins := [⟨(some 3), .mv (.t 0), none, false⟩,
  ⟨(some 4), .mv (.t 0), none, false⟩,
  ⟨(some 5), .nilc (.t 4), none, false⟩,
  ⟨(some 6), .fa 0 (.t 5), none, false⟩,
  ⟨(some 7), .ld true 1 (.t 6), none, false⟩,
  ⟨(some 8), .len (.t 7), none, false⟩,
  ⟨(some 9), .mv (.t 0), none, false⟩,
  ⟨(some 10), .nilc (.t 9), none, false⟩,
  ⟨(some 11), .fa 2 (.t 10), none, false⟩,
  ⟨(some 12), .ld true 1 (.t 11), none, false⟩,
  ⟨(some 13), .bld [(.c (.raw (.pointer none))), (.c (.int .i64 0)), (.c (.int .i64 0)), (.c (.int .i64 0))] [(0, 1, (.t 3)), (1, 1, (.t 8)), (2, 1, (.t 12)), (3, 1, (.k (.c (.int .i64 0))))], none, true⟩,
  ⟨none, .st 4 (.t 2) (.t 13), none, true⟩]
@[reducible] def v72_2 : VC := (.seq (.ops o72_1) .ret)
def ir72 : FC := ⟨1, 14, [.cell 2 false 4], (.seq (.ops o72_0) v72_2)⟩
@[reducible] def o77_0 : List Ins := [⟨(some 2), .box 4 (.t 0), none, true⟩,
  ⟨(some 4), .alloc [(.c (.raw (.pointer none))), (.c (.int .i64 0)), (.c (.int .i64 0)), (.c (.int .i64 0))], none, true⟩]
@[reducible] def o77_1 : List Ins := [⟨(some 6), .fa 0 (.t 2), none, false⟩,
  ⟨(some 7), .ld true 1 (.t 6), none, false⟩,
  ⟨(some 8), .nilc (.t 7), none, false⟩,
  ⟨(some 9), .fa 1 (.t 8), none, false⟩,
  ⟨(some 10), .ld true 1 (.t 9), none, false⟩,
  ⟨(some 11), .fa 1 (.t 2), none, false⟩,
  ⟨(some 12), .ld true 1 (.t 11), none, false⟩,
  ⟨(some 13), .ia 1 (.t 10) (.t 12), none, false⟩,
  ⟨(some 14), .ld true 1 (.t 13), none, false⟩,
  ⟨(some 15), .mv (.t 1), none, false⟩,
  ⟨(some 16), .ia 1 (.t 14) (.t 15), none, true⟩,
  ⟨(some 17), .ld true 1 (.t 16), none, true⟩,
  ⟨(some 5), .mv (.t 17), none, true⟩]
@[reducible] def o77_2 : List Ins := [⟨(some 18), .mv (.t 1), none, true⟩,
  ⟨(some 19), .fa 2 (.t 2), none, true⟩,
  ⟨(some 20), .ld true 1 (.t 19), none, true⟩,
  ⟨(some 21), .mv (.t 5), none, true⟩,
  ⟨(some 22), .bin .add (.t 20) (.t 21), none, true⟩,
  ⟨(some 23), .fa 3 (.t 2), none, true⟩,
  ⟨(some 24), .ld true 1 (.t 23), none, true⟩,
  ⟨(some 25), .mv (.t 5), none, true⟩,
  ⟨(some 26), .bin .add (.t 24) (.t 25), none, true⟩,
  ⟨(some 27), .fa 1 (.t 2), none, true⟩,
  ⟨none, .st 1 (.t 27) (.t 18), none, true⟩,
  ⟨(some 28), .fa 2 (.t 2), none, true⟩,
  ⟨none, .st 1 (.t 28) (.t 22), none, true⟩,
  ⟨(some 29), .fa 3 (.t 2), none, true⟩,
  ⟨none, .st 1 (.t 29) (.t 26), none, true⟩]
@[reducible] def o77_3 : List Ins := [⟨(some 30), .ld false 4 (.t 2), none, true⟩,
  ⟨none, .st 4 (.t 4) (.t 30), none, true⟩]
@[reducible] def v77_4 : VC := (.seq (.ops o77_3) .ret)
@[reducible] def v77_5 : VC := (.seq (.ops o77_2) v77_4)
@[reducible] def v77_6 : VC := (.seq (.ops o77_1) v77_5)
def ir77 : FC := ⟨2, 31, [.cell 4 false 4], (.seq (.ops o77_0) v77_6)⟩
@[reducible] def o68_0 : List Ins := [⟨(some 1), .box 4 (.t 0), none, true⟩,
  ⟨(some 2), .alloc [(.c (.raw (.pointer none))), (.c (.int .i64 0)), (.c (.int .i64 0)), (.c (.int .i64 0))], none, true⟩]
@[reducible] def o68_1 : List Ins := [⟨(some 3), .ld false 4 (.t 1), none, false⟩,
  ⟨(some 4), .fa 0 (.t 1), none, false⟩,
  ⟨(some 5), .ld true 1 (.t 4), none, false⟩,
  ⟨(some 6), .nilc (.t 5), none, false⟩,
  ⟨(some 7), .fa 0 (.t 6), none, false⟩,
  ⟨(some 8), .ld true 1 (.t 7), none, false⟩,
  ⟨(some 9), .len (.t 8), none, false⟩,
  ⟨(some 10), .call (.k (.fn 77 [])) [(.t 3), (.t 9)], none, true⟩,
  ⟨none, .st 4 (.t 2) (.t 10), none, true⟩]
@[reducible] def v68_2 : VC := (.seq (.ops o68_1) .ret)
def ir68 : FC := ⟨1, 11, [.cell 2 false 4], (.seq (.ops o68_0) v68_2)⟩
@[reducible] def o73_0 : List Ins := [⟨(some 2), .box 4 (.t 0), none, true⟩,
  ⟨(some 4), .alloc [(.c (.raw (.pointer none))), (.c (.int .i64 0)), (.c (.int .i64 0)), (.c (.int .i64 0))], none, true⟩,
  ⟨(some 5), .mv (.k (.c (.int .i64 0))), none, true⟩,
  ⟨(some 6), .mv (.k (.c (.bool false))), none, true⟩]
@[reducible] def o73_1 : List Ins := [⟨(some 8), .ld false 4 (.t 2), none, true⟩,
  ⟨(some 9), .mv (.t 1), none, true⟩,
  ⟨(some 10), .call (.k (.fn 77 [])) [(.t 8), (.t 9)], none, true⟩,
  ⟨none, .st 4 (.t 2) (.t 10), none, true⟩]
@[reducible] def o73_2 : List Ins := [⟨(some 11), .fa 0 (.t 2), none, true⟩,
  ⟨(some 12), .ld true 1 (.t 11), none, true⟩,
  ⟨(some 13), .nilc (.t 12), none, true⟩,
  ⟨(some 14), .fa 0 (.t 13), none, true⟩,
  ⟨(some 15), .ld true 1 (.t 14), none, true⟩,
  ⟨(some 16), .mv (.t 1), none, true⟩,
  ⟨(some 17), .ia 4 (.t 15) (.t 16), none, true⟩,
  ⟨(some 18), .ld false 4 (.t 17), none, true⟩,
  ⟨(some 7), .alloc [(.c (.int .i64 0)), (.c (.int .i64 0)), (.c (.int .i64 0)), (.c (.int .i64 0))], none, true⟩,
  ⟨none, .st 4 (.t 7) (.t 18), none, true⟩]
@[reducible] def o73_3 : List Ins := [⟨(some 19), .fa 2 (.t 2), none, true⟩,
  ⟨(some 20), .ld true 1 (.t 19), none, true⟩,
  ⟨(some 21), .fa 1 (.t 7), none, true⟩,
  ⟨(some 22), .ld true 1 (.t 21), none, true⟩,
  ⟨(some 23), .bin .gtr (.t 20) (.t 22), none, true⟩]
@[reducible] def o73_4 : List Ins := [⟨(some 24), .ld false 4 (.t 2), none, true⟩,
  ⟨none, .st 4 (.t 4) (.t 24), none, true⟩,
  ⟨(some 5), .mv (.k (.c (.int .i64 0))), none, true⟩,
  ⟨(some 6), .mv (.k (.c (.bool false))), none, true⟩]
@[reducible] def v73_5 : VC := (.seq (.ops o73_4) .ret)
@[reducible] def v73_6 : VC := (.cond (.t 23) v73_5 .skip)
@[reducible] def o73_7 : List Ins := [⟨(some 25), .fa 2 (.t 2), none, true⟩,
  ⟨(some 26), .ld true 1 (.t 25), none, true⟩,
  ⟨(some 27), .fa 0 (.t 7), none, true⟩,
  ⟨(some 28), .ld true 1 (.t 27), none, true⟩,
  ⟨(some 29), .mm true (.t 26) (.t 28), none, true⟩,
  ⟨(some 5), .mv (.t 29), none, true⟩]
@[reducible] def o73_8 : List Ins := [⟨(some 30), .mv (.t 5), none, true⟩,
  ⟨(some 31), .fa 2 (.t 7), none, true⟩,
  ⟨(some 32), .ld true 1 (.t 31), none, true⟩,
  ⟨(some 33), .bin .add (.t 30) (.t 32), none, true⟩,
  ⟨(some 34), .fa 2 (.t 2), none, true⟩,
  ⟨none, .st 1 (.t 34) (.t 33), none, true⟩]
@[reducible] def o73_9 : List Ins := [⟨(some 35), .ld false 4 (.t 2), none, true⟩,
  ⟨(some 36), .mv (.t 5), none, true⟩,
  ⟨none, .st 4 (.t 4) (.t 35), none, true⟩,
  ⟨(some 5), .mv (.t 36), none, true⟩,
  ⟨(some 6), .mv (.k (.c (.bool true))), none, true⟩]
@[reducible] def v73_10 : VC := (.seq (.ops o73_9) .ret)
@[reducible] def v73_11 : VC := (.seq (.ops o73_8) v73_10)
@[reducible] def v73_12 : VC := (.seq (.ops o73_7) v73_11)
@[reducible] def v73_13 : VC := (.seq (.seq (.ops o73_3) v73_6) v73_12)
@[reducible] def v73_14 : VC := (.seq (.ops o73_2) v73_13)
@[reducible] def v73_15 : VC := (.seq (.ops o73_1) v73_14)
def ir73 : FC := ⟨2, 37, [.cell 4 false 4, .t 5, .t 6], (.seq (.ops o73_0) v73_15)⟩
theorem c72 : compM Try.prog [] 72 = some ir72 := by kernel_rfl
theorem c77 : compM Try.prog [] 77 = some ir77 := by kernel_rfl
theorem c68 : compM Try.prog [] 68 = some ir68 := by kernel_rfl
theorem c73 : compM Try.prog [] 73 = some ir73 := by kernel_rfl



theorem leave72 (r : Route) : FSpec Try.prog 72 [.c (.pt r.cds)] (vanv r (leave r)) := by
  refine FSpec_of c72 (Nat.le_refl _) (by decide) fun C hP hN hC hL => ?_
  simp only [ir72, Route.cds, vanv, leave]
  (refine WV_seq_ (WV_ops ?_); simp only [go_sem, init_env', Nat.reduceEqDiff, Nat.reduceAdd, Nat.reduceMul, reduceIte, Nat.reduceLeDiff, Nat.reduceLT, Nat.reduceBEq, reduceCtorEq, hP, ]; (repeat (refine And.intro (by first | omega | (intros; simp_all; done) | (intros; simp_all; omega)) ?_)))
  (refine WV_seq_ (WV_ops ?_); simp only [go_sem, init_env', Nat.reduceEqDiff, Nat.reduceAdd, Nat.reduceMul, reduceIte, Nat.reduceLeDiff, Nat.reduceLT, Nat.reduceBEq, reduceCtorEq, hP, stopsC]; (repeat (refine And.intro (by first | omega | (intros; simp_all; done) | (intros; simp_all; omega)) ?_)))
  (refine WV_ret ?_; simp only [thenQ, inQ, RetQ, RetOk, resAll, resA]; simp only [go_sem, init_env', Nat.reduceEqDiff, Nat.reduceAdd, Nat.reduceMul, reduceIte, Nat.reduceLeDiff, Nat.reduceLT, Nat.reduceBEq, reduceCtorEq, tupA, AV.port, AV.portL, exists_eq_left', ]; (first | exact AVle.of rfl | refine AVle.of ?_ | skip))

set_option maxHeartbeats 1000000 in
theorem drive77 {r : Route} (h : RouteOk r) {v : Van} {i to : Nat} (hv : VanOk r v i) (hi : i ≤ 100) (ht : to < r.n + 1) : FSpec Try.prog 77 [vanv r v, iv to] (vanv r (drv r v to)) := by
  refine FSpec_of c77 (Nat.le_refl _) (by decide) fun C hP hN hC hL => ?_
  have h1 := hv.now
  have h2 := hv.long
  have hat := hv.at_
  have hc := h.cell v.at_ to hat ht
  have hd1 : v.at_ < r.drive.length := by rw [h.dl]; exact hat
  have hrow := h.row v.at_ hat
  have e1 : r.drive.getD v.at_ [] = r.drive[v.at_] := by simp [hd1]
  rw [e1] at hrow
  have hd2 : to < r.drive[v.at_].length := by omega
  have e2 : r.drive[v.at_][to] = r.d v.at_ to := by simp [Route.d, hd1, hd2]
  simp only [ir77, vanv]
  (refine WV_seq_ (WV_ops ?_); simp only [go_sem, init_env', Nat.reduceEqDiff, Nat.reduceAdd, Nat.reduceMul, reduceIte, Nat.reduceLeDiff, Nat.reduceLT, Nat.reduceBEq, reduceCtorEq, hP, ]; (repeat (refine And.intro (by first | omega | (intros; simp_all; done) | (intros; simp_all; omega)) ?_)))
  (refine WV_seq_ (WV_ops ?_); simp only [go_sem, init_env', Nat.reduceEqDiff, Nat.reduceAdd, Nat.reduceMul, reduceIte, Nat.reduceLeDiff, Nat.reduceLT, Nat.reduceBEq, reduceCtorEq, hP, Route.cds, driveC, ints, Int.toNat_natCast, map_getD hd1, map_getD hd2, e2, Int.ofNat_lt, hd1, hd2, Int.natCast_nonneg]; (repeat (refine And.intro (by first | omega | (intros; simp_all; done) | (intros; simp_all; omega)) ?_)))
  (refine WV_seq_ (WV_ops ?_); simp only [go_sem, init_env', Nat.reduceEqDiff, Nat.reduceAdd, Nat.reduceMul, reduceIte, Nat.reduceLeDiff, Nat.reduceLT, Nat.reduceBEq, reduceCtorEq, hP, ]; (repeat (refine And.intro (by first | omega | (intros; simp_all; done) | (intros; simp_all; omega)) ?_)))
  rw [w64 (n := v.now + r.d v.at_ to) (by omega) (by omega), w64 (by omega) (by omega)]
  (refine WV_seq_ (WV_ops ?_); simp only [go_sem, init_env', Nat.reduceEqDiff, Nat.reduceAdd, Nat.reduceMul, reduceIte, Nat.reduceLeDiff, Nat.reduceLT, Nat.reduceBEq, reduceCtorEq, hP, ]; (repeat (refine And.intro (by first | omega | (intros; simp_all; done) | (intros; simp_all; omega)) ?_)))
  (refine WV_ret ?_; simp only [thenQ, inQ, RetQ, RetOk, resAll, resA]; simp only [go_sem, init_env', Nat.reduceEqDiff, Nat.reduceAdd, Nat.reduceMul, reduceIte, Nat.reduceLeDiff, Nat.reduceLT, Nat.reduceBEq, reduceCtorEq, tupA, AV.port, AV.portL, exists_eq_left', ]; (first | exact AVle.of rfl | refine AVle.of ?_ | skip))

set_option maxHeartbeats 1000000 in
theorem home68 {r : Route} (h : RouteOk r) {v : Van} {i : Nat} (hv : VanOk r v i) (hi : i ≤ 100) : FSpec Try.prog 68 [vanv r v] (vanv r (drv r v r.n)) := by
  refine FSpec_of c68 (Nat.le_refl _) (by decide) fun C hP hN hC hL => ?_
  simp only [ir68, vanv]
  (refine WV_seq_ (WV_ops ?_); simp only [go_sem, init_env', Nat.reduceEqDiff, Nat.reduceAdd, Nat.reduceMul, reduceIte, Nat.reduceLeDiff, Nat.reduceLT, Nat.reduceBEq, reduceCtorEq, hP, ]; (repeat (refine And.intro (by first | omega | (intros; simp_all; done) | (intros; simp_all; omega)) ?_)))
  refine WV_seq_ (WV_ops ?_)
  simp only [go_sem, init_env', Nat.reduceEqDiff, Nat.reduceAdd, Nat.reduceMul, reduceIte, Nat.reduceLeDiff, Nat.reduceLT, Nat.reduceBEq, reduceCtorEq, hP, Route.cds, stopsC]
  refine AS_pure (drive77 h hv hi (to := r.n) (by omega)) rfl rfl rfl rfl rfl ?_
  simp only [go_sem, init_env', Nat.reduceEqDiff, Nat.reduceAdd, Nat.reduceMul, reduceIte, Nat.reduceLeDiff, Nat.reduceLT, Nat.reduceBEq, reduceCtorEq, hP, vanv]
  (refine WV_ret ?_; simp only [thenQ, inQ, RetQ, RetOk, resAll, resA]; simp only [go_sem, init_env', Nat.reduceEqDiff, Nat.reduceAdd, Nat.reduceMul, reduceIte, Nat.reduceLeDiff, Nat.reduceLT, Nat.reduceBEq, reduceCtorEq, tupA, AV.port, AV.portL, exists_eq_left', ]; (first | exact AVle.of rfl | refine AVle.of ?_ | skip))

set_option maxHeartbeats 2000000 in
theorem visit73 {r : Route} (h : RouteOk r) {v : Van} {i k : Nat} (hv : VanOk r v i) (hi : i ≤ 100) (hk : k < r.n) :
    FSpec Try.prog 73 [vanv r v, iv k] (.tup [vanv r (visit r v k).1, iv (visit r v k).2.1, .c (.bool (visit r v k).2.2)]) := by
  refine FSpec_of c73 (Nat.le_refl _) (by decide) fun C hP hN hC hL => ?_
  have h1 := hv.now
  have h2 := hv.long
  have hc := h.cell v.at_ k hv.at_ (by omega)
  have hs := h.stop k hk
  have hd1 : k < r.stops.length := hk
  have e1 : r.stops[k] = r.s k := by simp [Route.s, hd1]
  simp only [ir73, vanv]
  (refine WV_seq_ (WV_ops ?_); simp only [go_sem, init_env', Nat.reduceEqDiff, Nat.reduceAdd, Nat.reduceMul, reduceIte, Nat.reduceLeDiff, Nat.reduceLT, Nat.reduceBEq, reduceCtorEq, hP, ]; (repeat (refine And.intro (by first | omega | (intros; simp_all; done) | (intros; simp_all; omega)) ?_)))
  refine WV_seq_ (WV_ops ?_)
  simp only [go_sem, init_env', Nat.reduceEqDiff, Nat.reduceAdd, Nat.reduceMul, reduceIte, Nat.reduceLeDiff, Nat.reduceLT, Nat.reduceBEq, reduceCtorEq, hP]
  refine AS_pure (drive77 h hv hi (to := k) (by omega)) rfl rfl rfl rfl rfl ?_
  simp only [go_sem, init_env', Nat.reduceEqDiff, Nat.reduceAdd, Nat.reduceMul, reduceIte, Nat.reduceLeDiff, Nat.reduceLT, Nat.reduceBEq, reduceCtorEq, hP, vanv]
  refine WV_seq_ (WV_ops ?_)
  simp only [go_sem, init_env', Nat.reduceEqDiff, Nat.reduceAdd, Nat.reduceMul, reduceIte, Nat.reduceLeDiff, Nat.reduceLT, Nat.reduceBEq, reduceCtorEq, hP, Route.cds, stopsC, Int.toNat_natCast, map_getD hd1, e1, Int.ofNat_lt, hd1, Int.natCast_nonneg, Stop.cds]
  refine WV_seq_ ?_
  (refine WV_seq_ (WV_ops ?_); simp only [go_sem, init_env', Nat.reduceEqDiff, Nat.reduceAdd, Nat.reduceMul, reduceIte, Nat.reduceLeDiff, Nat.reduceLT, Nat.reduceBEq, reduceCtorEq, hP, ]; (repeat (refine And.intro (by first | omega | (intros; simp_all; done) | (intros; simp_all; omega)) ?_)))
  (refine WV_cond rfl (fun h => ?_) (fun h => ?_))
  · simp only [decide_eq_true_eq] at h
    have ev : visit r v k = (drv r v k, 0, false) := by unfold visit; rw [if_pos h]
    rw [ev]
    (refine WV_seq_ (WV_ops ?_); simp only [go_sem, init_env', Nat.reduceEqDiff, Nat.reduceAdd, Nat.reduceMul, reduceIte, Nat.reduceLeDiff, Nat.reduceLT, Nat.reduceBEq, reduceCtorEq, hP, ]; (repeat (refine And.intro (by first | omega | (intros; simp_all; done) | (intros; simp_all; omega)) ?_)))
    (refine WV_ret ?_; simp only [thenQ, inQ, RetQ, RetOk, resAll, resA]; simp only [go_sem, init_env', Nat.reduceEqDiff, Nat.reduceAdd, Nat.reduceMul, reduceIte, Nat.reduceLeDiff, Nat.reduceLT, Nat.reduceBEq, reduceCtorEq, tupA, AV.port, AV.portL, exists_eq_left', ]; (first | exact AVle.of rfl | refine AVle.of ?_ | skip))
  · simp only [decide_eq_false_iff_not] at h
    have ev : visit r v k = ({ drv r v k with now := max (drv r v k).now (r.s k).op + (r.s k).st }, max (drv r v k).now (r.s k).op, true) := by unfold visit; rw [if_neg h]
    rw [ev]
    simp only [drv] at h ⊢
    (refine WV_skip ?_; simp only [go_sem, init_env', Nat.reduceEqDiff, Nat.reduceAdd, Nat.reduceMul, reduceIte, Nat.reduceLeDiff, Nat.reduceLT, Nat.reduceBEq, reduceCtorEq])
    (refine WV_seq_ (WV_ops ?_); simp only [go_sem, init_env', Nat.reduceEqDiff, Nat.reduceAdd, Nat.reduceMul, reduceIte, Nat.reduceLeDiff, Nat.reduceLT, Nat.reduceBEq, reduceCtorEq, hP, ]; (repeat (refine And.intro (by first | omega | (intros; simp_all; done) | (intros; simp_all; omega)) ?_)))
    (refine WV_seq_ (WV_ops ?_); simp only [go_sem, init_env', Nat.reduceEqDiff, Nat.reduceAdd, Nat.reduceMul, reduceIte, Nat.reduceLeDiff, Nat.reduceLT, Nat.reduceBEq, reduceCtorEq, hP, ]; (repeat (refine And.intro (by first | omega | (intros; simp_all; done) | (intros; simp_all; omega)) ?_)))
    rw [w64 (by omega) (by omega)]
    (refine WV_seq_ (WV_ops ?_); simp only [go_sem, init_env', Nat.reduceEqDiff, Nat.reduceAdd, Nat.reduceMul, reduceIte, Nat.reduceLeDiff, Nat.reduceLT, Nat.reduceBEq, reduceCtorEq, hP, ]; (repeat (refine And.intro (by first | omega | (intros; simp_all; done) | (intros; simp_all; omega)) ?_)))
    (refine WV_ret ?_; simp only [thenQ, inQ, RetQ, RetOk, resAll, resA]; simp only [go_sem, init_env', Nat.reduceEqDiff, Nat.reduceAdd, Nat.reduceMul, reduceIte, Nat.reduceLeDiff, Nat.reduceLT, Nat.reduceBEq, reduceCtorEq, tupA, AV.port, AV.portL, exists_eq_left', ]; (first | exact AVle.of rfl | refine AVle.of ?_ | skip))
end Go.Proofs.Ytbejgfpaokcnpaa

namespace Go.Proofs.Ytbejgfpaokcnpaa
open Go Go.V
@[reducible] def o76_0 : List Ins := [⟨(some 4), .mv (.k (.c (.bool false))), none, true⟩]
@[reducible] def o76_1 : List Ins := [⟨(some 5), .mv (.t 0), none, true⟩,
  ⟨(some 6), .mv (.t 1), none, true⟩,
  ⟨(some 7), .call (.k (.fn 78 [])) [(.t 5), (.t 6)], none, true⟩,
  ⟨(some 8), .bin .geq (.t 7) (.k (.c (.int .i64 0))), none, true⟩,
  ⟨(some 4), .mv (.t 8), none, true⟩]
@[reducible] def v76_2 : VC := (.seq (.ops o76_1) .ret)
def ir76 : FC := ⟨2, 9, [.t 4], (.seq (.ops o76_0) v76_2)⟩
@[reducible] def o78_0 : List Ins := [⟨(some 4), .mv (.k (.c (.int .i64 0))), none, true⟩]
@[reducible] def o78_1 : List Ins := [⟨(some 6), .mv (.t 0), none, true⟩,
  ⟨(some 7), .len (.t 6), none, true⟩,
  ⟨(some 8), .mv (.k (.c (.int .i64 0))), none, true⟩]
@[reducible] def o78_2 : List Ins := [⟨(some 9), .bin .lss (.t 8) (.t 7), none, true⟩]
@[reducible] def o78_3 : List Ins := [⟨(some 10), .mv (.t 8), none, true⟩,
  ⟨(some 5), .mv (.t 10), none, true⟩]
@[reducible] def o78_4 : List Ins := [⟨(some 11), .mv (.t 1), none, true⟩,
  ⟨(some 12), .mv (.t 0), none, true⟩,
  ⟨(some 13), .mv (.t 5), none, true⟩,
  ⟨(some 14), .ia 1 (.t 12) (.t 13), none, true⟩,
  ⟨(some 15), .ld true 1 (.t 14), none, true⟩,
  ⟨(some 16), .bin .eql (.t 11) (.t 15), none, true⟩]
@[reducible] def o78_5 : List Ins := [⟨(some 17), .mv (.t 5), none, true⟩,
  ⟨(some 4), .mv (.t 17), none, true⟩]
@[reducible] def v78_6 : VC := (.seq (.ops o78_5) .ret)
@[reducible] def v78_7 : VC := (.cond (.t 16) v78_6 .skip)
@[reducible] def v78_8 : VC := (.seq (.ops o78_4) v78_7)
@[reducible] def v78_9 : VC := (.seq (.ops o78_3) v78_8)
@[reducible] def o78_10 : List Ins := [⟨(some 18), .bin .add (.t 8) (.k (.c (.int .i64 1))), none, true⟩,
  ⟨(some 8), .mv (.t 18), none, true⟩]
@[reducible] def v78_11 : VC := (.seq (.block 1 v78_9) (.ops o78_10))
@[reducible] def v78_12 : VC := (.seq (.cond (.t 9) .skip (.exit 0)) v78_11)
@[reducible] def v78_13 : VC := (.seq (.ops o78_2) v78_12)
-- K78_1: changed and kept: [8]
@[reducible] def K78_1 : List Nat := [0, 1, 7]
@[reducible] def v78_14 : VC := (.loop v78_13)
@[reducible] def v78_15 : VC := (.block 0 v78_14)
@[reducible] def o78_16 : List Ins := [⟨(some 4), .mv (.k (.c (.int .i64 (-1)))), none, true⟩]
@[reducible] def v78_17 : VC := (.seq (.ops o78_16) .ret)
@[reducible] def v78_18 : VC := (.seq (.seq (.ops o78_1) v78_15) v78_17)
def ir78 : FC := ⟨2, 19, [.t 4], (.seq (.ops o78_0) v78_18)⟩
@[reducible] def o70_0 : List Ins := [⟨(some 2), .mv (.k (.c (.raw (.slice none 0 0)))), none, true⟩]
@[reducible] def o70_1 : List Ins := [⟨(some 3), .mv (.t 0), none, true⟩,
  ⟨(some 4), .nils false (.t 3), none, true⟩]
@[reducible] def o70_2 : List Ins := [⟨(some 2), .mv (.k (.c (.raw (.slice none 0 0)))), none, true⟩]
@[reducible] def v70_3 : VC := (.seq (.ops o70_2) .ret)
@[reducible] def v70_4 : VC := (.cond (.t 4) v70_3 .skip)
@[reducible] def o70_5 : List Ins := [⟨(some 5), .bsl 3 1 [], none, true⟩,
  ⟨(some 6), .mv (.t 0), none, true⟩,
  ⟨(some 7), .app 3 1 8 (.t 5) (.t 6), none, true⟩,
  ⟨(some 2), .mv (.t 7), none, true⟩]
@[reducible] def v70_6 : VC := (.seq (.ops o70_5) .ret)
@[reducible] def v70_7 : VC := (.seq (.seq (.ops o70_1) v70_4) v70_6)
def ir70 : FC := ⟨1, 8, [.t 2], (.seq (.ops o70_0) v70_7)⟩
theorem c76 : compM Try.prog [] 76 = some ir76 := by kernel_rfl
theorem c78 : compM Try.prog [] 78 = some ir78 := by kernel_rfl
theorem c70 : compM Try.prog [] 70 = some ir70 := by kernel_rfl



theorem index78 (l : List Int) (n : Int) : ∃ k : Int, (k < 0 ↔ n ∉ l) ∧ FSpec Try.prog 78 [.c (ints l), iv n] (iv k) := by
  refine ⟨(match l.findIdx? (· == n) with | some k => (k : Int) | none => -1), ?_, ?_⟩
  · cases h : l.findIdx? (· == n) with
    | none => simp only [List.findIdx?_eq_none_iff] at h; simp; intro hn; have := h n hn; simp at this
    | some k =>
      simp only [List.findIdx?_eq_some_iff_getElem] at h
      obtain ⟨hk, h1, _⟩ := h
      simp only [beq_iff_eq] at h1
      simp
      constructor
      · intro; omega
      · intro hc; exact (hc (h1 ▸ List.getElem_mem hk)).elim
  · refine FSpec_of c78 (Nat.le_refl _) (by decide) fun C hP hN hC hL => ?_
    have hl : l.length ≤ 9223372036854775807 := by simp only [AV.lensL, AV.lens] at hL; exact ints_lens hL.1
    simp only [ir78]
    (repeat ((first | refine WV_seq_ ?_ | refine WV_block ?_ | refine WV_ops ?_ | refine WV_skip ?_ | refine WV_exit ?_); (try simp only [go_sem, init_env', Nat.reduceEqDiff, Nat.reduceAdd, Nat.reduceMul, reduceIte, Nat.reduceLeDiff, Nat.reduceLT, Nat.reduceBEq, reduceCtorEq, hP, ints]); (repeat (refine And.intro (by first | omega | (intros; simp_all; done) | (intros; simp_all; omega)) ?_))))
    (refine WV_loopK K78_1 [] (fun k : Nat => k ≤ l.length ∧ ∀ j (hj : j < l.length), j < k → l[j] ≠ n) (fun k => l.length - k) (fun k => [(8, iv k)]) (fun _ => []) 0 ⟨Nat.zero_le _, by omega⟩ ?_ ?_)
    · (refine Sub_of (by simp only [go_sem, init_env', Nat.reduceEqDiff, Nat.reduceAdd, Nat.reduceMul, reduceIte, Nat.reduceLeDiff, Nat.reduceLT, Nat.reduceBEq, reduceCtorEq]; ((repeat' (first | exact EnvLe_e0 _ _ | refine EnvLe_upd ?_ ?_)) <;> ((try simp only [upd_app, e0_app, o0_app, Nat.reduceEqDiff, reduceIte]); first | exact AWk.refl _ _ | exact AWk.int (by omega) | exact AWk.int (by rw [w64 (by omega) (by omega)]; omega) | exact AWk.grow rfl | exact AWk.nil _ | exact AWk.of (by simp)))) (by simp only [go_sem, init_env', Nat.reduceEqDiff, Nat.reduceAdd, Nat.reduceMul, reduceIte, Nat.reduceLeDiff, Nat.reduceLT, Nat.reduceBEq, reduceCtorEq]; (first | ((repeat' (first | exact ObjLe_o0 _ | exact ObjLe.rfl' _ | refine ObjLe_same ?_ | refine ObjLe_upd ?_ ?_ | refine ObjLe_new rfl ?_)) <;> rfl) | (refine ObjLe_X ?_; (repeat' (first | exact ObjLeX_o0 _ _ | refine ObjLeX_skip rfl ?_ | refine ObjLeX_upd ?_ ?_)) <;> rfl))))
    · intro k ⟨hk, hn⟩
      simp only [go_sem, init_env', Nat.reduceEqDiff, Nat.reduceAdd, Nat.reduceMul, reduceIte, Nat.reduceLeDiff, Nat.reduceLT, Nat.reduceBEq, reduceCtorEq]
      (repeat ((first | refine WV_seq_ ?_ | refine WV_block ?_ | refine WV_ops ?_ | refine WV_skip ?_ | refine WV_exit ?_); (try simp only [go_sem, init_env', Nat.reduceEqDiff, Nat.reduceAdd, Nat.reduceMul, reduceIte, Nat.reduceLeDiff, Nat.reduceLT, Nat.reduceBEq, reduceCtorEq, hP, ]); (repeat (refine And.intro (by first | omega | (intros; simp_all; done) | (intros; simp_all; omega)) ?_))))
      (refine WV_cond rfl (fun h => ?_) (fun h => ?_))
      · simp only [decide_eq_true_eq, Int.ofNat_lt] at h
        (repeat ((first | refine WV_seq_ ?_ | refine WV_block ?_ | refine WV_ops ?_ | refine WV_skip ?_ | refine WV_exit ?_); (try simp only [go_sem, init_env', Nat.reduceEqDiff, Nat.reduceAdd, Nat.reduceMul, reduceIte, Nat.reduceLeDiff, Nat.reduceLT, Nat.reduceBEq, reduceCtorEq, hP, Int.toNat_natCast, map_getD h, Int.ofNat_lt, h, Int.natCast_nonneg]); (repeat (refine And.intro (by first | omega | (intros; simp_all; done) | (intros; simp_all; omega)) ?_))))
        refine WV_cond rfl (fun h2 => ?_) (fun h2 => ?_)
        · simp only [beq_iff_eq] at h2
          have e : l.findIdx? (· == n) = some k := by
            rw [List.findIdx?_eq_some_iff_getElem]
            exact ⟨h, by simp [h2], fun j hj => by have := hn j (by omega) hj; simpa using this⟩
          (repeat ((first | refine WV_seq_ ?_ | refine WV_block ?_ | refine WV_ops ?_ | refine WV_skip ?_ | refine WV_exit ?_); (try simp only [go_sem, init_env', Nat.reduceEqDiff, Nat.reduceAdd, Nat.reduceMul, reduceIte, Nat.reduceLeDiff, Nat.reduceLT, Nat.reduceBEq, reduceCtorEq, hP, ]); (repeat (refine And.intro (by first | omega | (intros; simp_all; done) | (intros; simp_all; omega)) ?_))))
          (refine WV_ret ?_; simp only [thenQ, inQ, RetQ, RetOk, resAll, resA]; simp only [go_sem, init_env', Nat.reduceEqDiff, Nat.reduceAdd, Nat.reduceMul, reduceIte, Nat.reduceLeDiff, Nat.reduceLT, Nat.reduceBEq, reduceCtorEq, tupA, AV.port, AV.portL, exists_eq_left', ]; (first | exact AVle.of rfl | refine AVle.of ?_ | skip))
          rw [e]
        · simp only [beq_eq_false_iff_ne, ne_eq] at h2
          (repeat ((first | refine WV_seq_ ?_ | refine WV_block ?_ | refine WV_ops ?_ | refine WV_skip ?_ | refine WV_exit ?_); (try simp only [go_sem, init_env', Nat.reduceEqDiff, Nat.reduceAdd, Nat.reduceMul, reduceIte, Nat.reduceLeDiff, Nat.reduceLT, Nat.reduceBEq, reduceCtorEq, hP, ]); (repeat (refine And.intro (by first | omega | (intros; simp_all; done) | (intros; simp_all; omega)) ?_))))
          refine ⟨k + 1, ⟨by omega, fun j hj hjk => ?_⟩, by omega, ?_⟩
          · rcases Nat.lt_or_ge j k with h1 | h1
            · exact hn j hj h1
            · have : j = k := by omega
              subst this
              exact fun e => h2 e.symm
          · (refine Sub_of (by simp only [go_sem, init_env', Nat.reduceEqDiff, Nat.reduceAdd, Nat.reduceMul, reduceIte, Nat.reduceLeDiff, Nat.reduceLT, Nat.reduceBEq, reduceCtorEq]; ((repeat' (first | exact EnvLe_e0 _ _ | refine EnvLe_upd ?_ ?_)) <;> ((try simp only [upd_app, e0_app, o0_app, Nat.reduceEqDiff, reduceIte]); first | exact AWk.refl _ _ | exact AWk.int (by omega) | exact AWk.int (by rw [w64 (by omega) (by omega)]; omega) | exact AWk.grow rfl | exact AWk.nil _ | exact AWk.of (by simp)))) (by simp only [go_sem, init_env', Nat.reduceEqDiff, Nat.reduceAdd, Nat.reduceMul, reduceIte, Nat.reduceLeDiff, Nat.reduceLT, Nat.reduceBEq, reduceCtorEq]; (first | ((repeat' (first | exact ObjLe_o0 _ | exact ObjLe.rfl' _ | refine ObjLe_same ?_ | refine ObjLe_upd ?_ ?_ | refine ObjLe_new rfl ?_)) <;> rfl) | (refine ObjLe_X ?_; (repeat' (first | exact ObjLeX_o0 _ _ | refine ObjLeX_skip rfl ?_ | refine ObjLeX_upd ?_ ?_)) <;> rfl))))
      · simp only [decide_eq_false_iff_not, Int.ofNat_lt] at h
        have e : l.findIdx? (· == n) = none := by
          rw [List.findIdx?_eq_none_iff]
          intro x hx
          obtain ⟨j, hj, rfl⟩ := List.mem_iff_getElem.1 hx
          simpa using hn j hj (by omega)
        (repeat ((first | refine WV_seq_ ?_ | refine WV_block ?_ | refine WV_ops ?_ | refine WV_skip ?_ | refine WV_exit ?_); (try simp only [go_sem, init_env', Nat.reduceEqDiff, Nat.reduceAdd, Nat.reduceMul, reduceIte, Nat.reduceLeDiff, Nat.reduceLT, Nat.reduceBEq, reduceCtorEq, hP, ]); (repeat (refine And.intro (by first | omega | (intros; simp_all; done) | (intros; simp_all; omega)) ?_))))
        (refine WV_ret ?_; simp only [thenQ, inQ, RetQ, RetOk, resAll, resA]; simp only [go_sem, init_env', Nat.reduceEqDiff, Nat.reduceAdd, Nat.reduceMul, reduceIte, Nat.reduceLeDiff, Nat.reduceLT, Nat.reduceBEq, reduceCtorEq, tupA, AV.port, AV.portL, exists_eq_left', ]; (first | exact AVle.of rfl | refine AVle.of ?_ | skip))
        rw [e]

theorem contains76 (l : List Int) (n : Int) : FSpec Try.prog 76 [.c (ints l), iv n] (.c (.bool (decide (n ∈ l)))) := by
  obtain ⟨k, hk, hs⟩ := index78 l n
  refine FSpec_of c76 (Nat.le_refl _) (by decide) fun C hP hN hC hL => ?_
  simp only [ir76]
  (repeat ((first | refine WV_seq_ ?_ | refine WV_block ?_ | refine WV_ops ?_ | refine WV_skip ?_ | refine WV_exit ?_); (try simp only [go_sem, init_env', Nat.reduceEqDiff, Nat.reduceAdd, Nat.reduceMul, reduceIte, Nat.reduceLeDiff, Nat.reduceLT, Nat.reduceBEq, reduceCtorEq, hP, ]); (repeat (refine And.intro (by first | omega | (intros; simp_all; done) | (intros; simp_all; omega)) ?_))))
  (refine AS_pure (hs) rfl rfl rfl rfl rfl ?_; simp only [go_sem, init_env', Nat.reduceEqDiff, Nat.reduceAdd, Nat.reduceMul, reduceIte, Nat.reduceLeDiff, Nat.reduceLT, Nat.reduceBEq, reduceCtorEq, hP, ]; (repeat (refine And.intro (by first | omega | (intros; simp_all; done) | (intros; simp_all; omega)) ?_)); (repeat ((first | refine WV_seq_ ?_ | refine WV_block ?_ | refine WV_ops ?_ | refine WV_skip ?_ | refine WV_exit ?_); (try simp only [go_sem, init_env', Nat.reduceEqDiff, Nat.reduceAdd, Nat.reduceMul, reduceIte, Nat.reduceLeDiff, Nat.reduceLT, Nat.reduceBEq, reduceCtorEq, hP, ]); (repeat (refine And.intro (by first | omega | (intros; simp_all; done) | (intros; simp_all; omega)) ?_)))))
  (refine WV_ret ?_; simp only [thenQ, inQ, RetQ, RetOk, resAll, resA]; simp only [go_sem, init_env', Nat.reduceEqDiff, Nat.reduceAdd, Nat.reduceMul, reduceIte, Nat.reduceLeDiff, Nat.reduceLT, Nat.reduceBEq, reduceCtorEq, tupA, AV.port, AV.portL, exists_eq_left', ]; (first | exact AVle.of rfl | refine AVle.of ?_ | skip))
  simp only [AV.c.injEq, CD.bool.injEq, decide_eq_decide]
  by_cases h : n ∈ l <;> simp [h] at hk ⊢ <;> omega

theorem clone70 (l : List Int) (hlen : l.length ≤ 1000) : FSpecF Try.prog 70 [.c (ints l)] (.c (ints l)) := by
  refine FSpecF_of c70 (Nat.le_refl _) (by decide) fun C hP hN hC hL => ?_
  have hmax : maxLen = 9223372036854775807 := rfl
  simp only [ir70, ints]
  cases l with
  | nil =>
    (repeat ((first | refine WV_seq_ ?_ | refine WV_block ?_ | refine WV_ops ?_ | refine WV_skip ?_ | refine WV_exit ?_); (try simp only [go_sem, init_env', Nat.reduceEqDiff, Nat.reduceAdd, Nat.reduceMul, reduceIte, Nat.reduceLeDiff, Nat.reduceLT, Nat.reduceBEq, reduceCtorEq, hP, ]); (repeat (refine And.intro (by first | omega | (intros; simp_all; done) | (intros; simp_all; omega)) ?_))))
    intro b
    (repeat ((first | refine WV_seq_ ?_ | refine WV_block ?_ | refine WV_ops ?_ | refine WV_skip ?_ | refine WV_exit ?_); (try simp only [go_sem, init_env', Nat.reduceEqDiff, Nat.reduceAdd, Nat.reduceMul, reduceIte, Nat.reduceLeDiff, Nat.reduceLT, Nat.reduceBEq, reduceCtorEq, hP, ]); (repeat (refine And.intro (by first | omega | (intros; simp_all; done) | (intros; simp_all; omega)) ?_))))
    (refine WV_cond rfl (fun h => ?_) (fun h => ?_))
    · (repeat ((first | refine WV_seq_ ?_ | refine WV_block ?_ | refine WV_ops ?_ | refine WV_skip ?_ | refine WV_exit ?_); (try simp only [go_sem, init_env', Nat.reduceEqDiff, Nat.reduceAdd, Nat.reduceMul, reduceIte, Nat.reduceLeDiff, Nat.reduceLT, Nat.reduceBEq, reduceCtorEq, hP, ]); (repeat (refine And.intro (by first | omega | (intros; simp_all; done) | (intros; simp_all; omega)) ?_))))
      (refine WV_ret ?_; simp only [thenQ, inQ, RetQF, RetOkF, resAll, resA]; simp only [go_sem, init_env', Nat.reduceEqDiff, Nat.reduceAdd, Nat.reduceMul, reduceIte, Nat.reduceLeDiff, Nat.reduceLT, Nat.reduceBEq, reduceCtorEq, tupA, AV.fport, AV.fportL, CD.scal, exists_eq_left', ]; refine And.intro (by ((repeat' (first | exact NoWin_o0 | refine NoWin_upd (fun cs h => by cases h) ?_)))) ?_)
      exact AVle.nil 1
    · (repeat ((first | refine WV_seq_ ?_ | refine WV_block ?_ | refine WV_ops ?_ | refine WV_skip ?_ | refine WV_exit ?_); (try simp only [go_sem, init_env', Nat.reduceEqDiff, Nat.reduceAdd, Nat.reduceMul, reduceIte, Nat.reduceLeDiff, Nat.reduceLT, Nat.reduceBEq, reduceCtorEq, hP, ]); (repeat (refine And.intro (by first | omega | (intros; simp_all; done) | (intros; simp_all; omega)) ?_))))
      (refine WV_ret ?_; simp only [thenQ, inQ, RetQF, RetOkF, resAll, resA]; simp only [go_sem, init_env', Nat.reduceEqDiff, Nat.reduceAdd, Nat.reduceMul, reduceIte, Nat.reduceLeDiff, Nat.reduceLT, Nat.reduceBEq, reduceCtorEq, tupA, AV.fport, AV.fportL, CD.scal, exists_eq_left', ]; refine And.intro (by ((repeat' (first | exact NoWin_o0 | refine NoWin_upd (fun cs h => by cases h) ?_)))) ?_; (first | exact AVle.of rfl | refine AVle.of ?_ | skip))
  | cons a l =>
    simp only [List.length_cons] at hlen
    (repeat ((first | refine WV_seq_ ?_ | refine WV_block ?_ | refine WV_ops ?_ | refine WV_skip ?_ | refine WV_exit ?_); (try simp only [go_sem, init_env', Nat.reduceEqDiff, Nat.reduceAdd, Nat.reduceMul, reduceIte, Nat.reduceLeDiff, Nat.reduceLT, Nat.reduceBEq, reduceCtorEq, hP, ]); (repeat (refine And.intro (by first | omega | (intros; simp_all; done) | (intros; simp_all; omega)) ?_))))
    (refine WV_cond rfl (fun h => ?_) (fun h => ?_))
    · cases h
    · (repeat ((first | refine WV_seq_ ?_ | refine WV_block ?_ | refine WV_ops ?_ | refine WV_skip ?_ | refine WV_exit ?_); (try simp only [go_sem, init_env', Nat.reduceEqDiff, Nat.reduceAdd, Nat.reduceMul, reduceIte, Nat.reduceLeDiff, Nat.reduceLT, Nat.reduceBEq, reduceCtorEq, hP, ]); (repeat (refine And.intro (by first | omega | (intros; simp_all; done) | (intros; simp_all; omega)) ?_))))
      (refine WV_ret ?_; simp only [thenQ, inQ, RetQF, RetOkF, resAll, resA]; simp only [go_sem, init_env', Nat.reduceEqDiff, Nat.reduceAdd, Nat.reduceMul, reduceIte, Nat.reduceLeDiff, Nat.reduceLT, Nat.reduceBEq, reduceCtorEq, tupA, AV.fport, AV.fportL, CD.scal, exists_eq_left', ints_scal]; refine And.intro (by ((repeat' (first | exact NoWin_o0 | refine NoWin_upd (fun cs h => by cases h) ?_)))) ?_)
      exact AVle.refl _
end Go.Proofs.Ytbejgfpaokcnpaa

namespace Go.Proofs.Ytbejgfpaokcnpaa
open Go Go.V
@[reducible] def o75_0 : List Ins := [⟨(some 6), .box 4 (.t 1), none, true⟩,
  ⟨(some 7), .mv (.k (.c (.bool false))), none, true⟩]
@[reducible] def o75_1 : List Ins := [⟨(some 12), .ld true 1 (.t 2), none, true⟩,
  ⟨(some 13), .mv (.t 0), none, true⟩,
  ⟨(some 14), .ld false 4 (.t 6), none, true⟩,
  ⟨(some 15), .call (.t 12) [(.t 13), (.t 14)], none, true⟩,
  ⟨(some 16), .un .not (.t 15), none, true⟩]
@[reducible] def o75_2 : List Ins := [⟨(some 7), .mv (.k (.c (.bool false))), none, true⟩]
@[reducible] def v75_3 : VC := (.seq (.ops o75_2) .ret)
@[reducible] def v75_4 : VC := (.cond (.t 16) v75_3 .skip)
@[reducible] def o75_5 : List Ins := [⟨(some 17), .ld true 1 (.t 3), none, true⟩,
  ⟨(some 18), .nilc (.t 17), none, true⟩,
  ⟨(some 19), .fa 0 (.t 18), none, true⟩,
  ⟨(some 20), .ld true 1 (.t 19), none, true⟩,
  ⟨(some 21), .len (.t 20), none, true⟩,
  ⟨(some 22), .mv (.k (.c (.int .i64 0))), none, true⟩]
@[reducible] def o75_6 : List Ins := [⟨(some 23), .bin .lss (.t 22) (.t 21), none, true⟩]
@[reducible] def o75_7 : List Ins := [⟨(some 24), .mv (.t 22), none, true⟩,
  ⟨(some 8), .mv (.t 24), none, true⟩]
@[reducible] def o75_8 : List Ins := [⟨(some 25), .mv (.t 0), none, true⟩,
  ⟨(some 26), .mv (.t 8), none, true⟩,
  ⟨(some 27), .call (.k (.fn 76 [])) [(.t 25), (.t 26)], none, true⟩]
@[reducible] def v75_9 : VC := (.cond (.t 27) (.exit 1) .skip)
@[reducible] def o75_10 : List Ins := [⟨(some 29), .ld false 4 (.t 6), none, true⟩,
  ⟨(some 30), .mv (.t 8), none, true⟩,
  ⟨(some 31), .call (.k (.fn 73 [])) [(.t 29), (.t 30)], none, true⟩,
  ⟨(some 28), .mv (.t 31), none, true⟩,
  ⟨(some 32), .ext (.t 28) 0, none, true⟩,
  ⟨(some 33), .ext (.t 28) 1, none, true⟩,
  ⟨(some 34), .ext (.t 28) 2, none, true⟩,
  ⟨(some 9), .alloc [(.c (.raw (.pointer none))), (.c (.int .i64 0)), (.c (.int .i64 0)), (.c (.int .i64 0))], none, true⟩,
  ⟨none, .st 4 (.t 9) (.t 32), none, true⟩,
  ⟨(some 10), .mv (.t 33), none, true⟩,
  ⟨(some 11), .mv (.t 34), none, true⟩]
@[reducible] def t75_11 : OT := (.cons ⟨(some 35), .mv (.t 11), none, true⟩
  (.cons ⟨(some 36), .mv (.t 35), none, true⟩
  (.cons ⟨(some 38), .mv (.t 0), (some (36, true)), false⟩
  (.cons ⟨(some 39), .mv (.t 8), (some (36, true)), false⟩
  (.cons ⟨(some 40), .bsl 3 1 [(.t 39)], (some (36, true)), false⟩
  (.br [(.cons ⟨(some 37), .ld true 1 (.t 4), (some (36, true)), false⟩
    (.br [(.cons ⟨(some 41), .app 3 1 8 (.t 38) (.t 40), (some (36, true)), true⟩
      (.cons ⟨(some 42), .ld false 4 (.t 9), (some (36, true)), false⟩
      (.cons ⟨(some 43), .call (.t 37) [(.t 41), (.t 42)], (some (36, true)), true⟩
      (.cons ⟨(some 44), .un .not (.t 43), (some (36, true)), true⟩
      (.cons ⟨(some 45), .pick (.t 36) (.t 44) (.k (.c (.bool false))), none, true⟩
      .nil))))), (.cons ⟨(some 42), .ld false 4 (.t 9), (some (36, true)), false⟩
      (.cons ⟨(some 41), .app 3 1 8 (.t 38) (.t 40), (some (36, true)), true⟩
      (.cons ⟨(some 43), .call (.t 37) [(.t 41), (.t 42)], (some (36, true)), true⟩
      (.cons ⟨(some 44), .un .not (.t 43), (some (36, true)), true⟩
      (.cons ⟨(some 45), .pick (.t 36) (.t 44) (.k (.c (.bool false))), none, true⟩
      .nil)))))])), (.cons ⟨(some 41), .app 3 1 8 (.t 38) (.t 40), (some (36, true)), true⟩
    (.cons ⟨(some 37), .ld true 1 (.t 4), (some (36, true)), false⟩
    (.cons ⟨(some 42), .ld false 4 (.t 9), (some (36, true)), false⟩
    (.cons ⟨(some 43), .call (.t 37) [(.t 41), (.t 42)], (some (36, true)), true⟩
    (.cons ⟨(some 44), .un .not (.t 43), (some (36, true)), true⟩
    (.cons ⟨(some 45), .pick (.t 36) (.t 44) (.k (.c (.bool false))), none, true⟩
    .nil)))))), (.cons ⟨(some 42), .ld false 4 (.t 9), (some (36, true)), false⟩
    (.br [(.cons ⟨(some 37), .ld true 1 (.t 4), (some (36, true)), false⟩
      (.cons ⟨(some 41), .app 3 1 8 (.t 38) (.t 40), (some (36, true)), true⟩
      (.cons ⟨(some 43), .call (.t 37) [(.t 41), (.t 42)], (some (36, true)), true⟩
      (.cons ⟨(some 44), .un .not (.t 43), (some (36, true)), true⟩
      (.cons ⟨(some 45), .pick (.t 36) (.t 44) (.k (.c (.bool false))), none, true⟩
      .nil))))), (.cons ⟨(some 41), .app 3 1 8 (.t 38) (.t 40), (some (36, true)), true⟩
      (.cons ⟨(some 37), .ld true 1 (.t 4), (some (36, true)), false⟩
      (.cons ⟨(some 43), .call (.t 37) [(.t 41), (.t 42)], (some (36, true)), true⟩
      (.cons ⟨(some 44), .un .not (.t 43), (some (36, true)), true⟩
      (.cons ⟨(some 45), .pick (.t 36) (.t 44) (.k (.c (.bool false))), none, true⟩
      .nil)))))]))]))))))
@[reducible] def o75_12 : List Ins := [⟨(some 7), .mv (.k (.c (.bool false))), none, true⟩]
@[reducible] def v75_13 : VC := (.seq (.ops o75_12) .ret)
@[reducible] def v75_14 : VC := (.cond (.t 45) v75_13 .skip)
@[reducible] def v75_15 : VC := (.seq (.drw t75_11) v75_14)
@[reducible] def v75_16 : VC := (.seq (.ops o75_10) v75_15)
@[reducible] def v75_17 : VC := (.seq (.seq (.ops o75_8) v75_9) v75_16)
@[reducible] def v75_18 : VC := (.seq (.ops o75_7) v75_17)
@[reducible] def o75_19 : List Ins := [⟨(some 46), .bin .add (.t 22) (.k (.c (.int .i64 1))), none, true⟩,
  ⟨(some 22), .mv (.t 46), none, true⟩]
@[reducible] def v75_20 : VC := (.seq (.block 1 v75_18) (.ops o75_19))
@[reducible] def v75_21 : VC := (.seq (.cond (.t 23) .skip (.exit 0)) v75_20)
@[reducible] def v75_22 : VC := (.seq (.ops o75_6) v75_21)
-- K75_1: changed and kept: [22]
@[reducible] def K75_1 : List Nat := [0, 4, 6, 21]
@[reducible] def v75_23 : VC := (.loop v75_22)
@[reducible] def v75_24 : VC := (.block 0 v75_23)
@[reducible] def o75_25 : List Ins := [⟨(some 7), .mv (.k (.c (.bool true))), none, true⟩]
@[reducible] def v75_26 : VC := (.seq (.ops o75_25) .ret)
@[reducible] def v75_27 : VC := (.seq (.seq (.ops o75_5) v75_24) v75_26)
@[reducible] def v75_28 : VC := (.seq (.seq (.ops o75_1) v75_4) v75_27)
def ir75 : FC := ⟨5, 47, [.t 7], (.seq (.ops o75_0) v75_28)⟩
theorem c75 : compM Try.prog [41] 75 = some ir75 := by kernel_rfl



/-- The recursive function's own box. -/
def onB (r : Route) (g : Gst) : Ob := .box [.fn 75 [.c (.pt [.raw g.fv]), .c (.pt [.pt r.cds]), .bp 1002 0]]
def onArgs (r : Route) (g : Gst) (t : List Nat) (v : Van) : List AV := [.vw 1 1001 0 t.length r.n, vanv r v, .c (.pt [.raw g.fv]), .c (.pt [.pt r.cds]), .bp 1002 0]
def onPost (r : Route) (g : Gst) (t : List Nat) (rest : List Ent) (res : AV) (l' : List Ob) : Prop :=
  res = .c (.bool true) ∧ ∃ junk' : List AV, junk'.length + t.length = r.n ∧ AV.pureL junk' = true ∧ AV.isSolidL junk' = true ∧ l' = [.guest g rest, .box (cellsT t ++ junk'), onB r g]
/-- What is behind the first stop more. -/
def nexts (r : Route) (f : Nat) (t : List Nat) (v : Van) (k : Nat) : List (List Nat × Van) := if k ∈ t then [] else if (visit r v k).2.2 then ext r f (t ++ [k]) (visit r v k).1 else []

set_option maxHeartbeats 4000000 in
theorem on75 {r : Route} (hr : RouteOk r) (g : Gst) : ∀ (f : Nat) (t : List Nat) (v : Van) (junk : List AV) (rest : List Ent), t.length + f = r.n + 1 → t.Nodup → (∀ k ∈ t, k < r.n) → junk.length + t.length = r.n → AV.pureL junk = true → AV.isSolidL junk = true → VanOk r v t.length →
    FSpecL Try.prog 75 (onArgs r g t v) [.guest g ((ext r f t v).map (entT r) ++ rest), .box (cellsT t ++ junk), onB r g] [] (onPost r g t rest) := by
  intro f
  induction f with
  | zero =>
    intro t v junk rest hf hnd hlt
    have := tour_len hnd hlt
    omega
  | succ f ih =>
    intro t v junk rest hf hnd hlt hj hjp hjs hv
    have hn7 := hr.n7
    have hvp : ∀ k, k < r.n → (visit r v k).2.2 = true → VanOk r (visit r v k).1 (t.length + 1) := fun k hk h => visit_ok hr hv hk h
    have hprg : ∀ (d : Nat) (j : List AV), AV.pureL j = true → AV.prgL d (cellsT t ++ j) = cellsT t ++ j := fun d j h => prgL_pure d (pureL_append (cellsT_pure t) h)
    refine FSpecL_of c75 (by first | simp | exact Nat.le_of_ble_eq_true rfl) (Nat.le_refl _) (by decide) (by decide) fun C hP hN hC hL => ?_; rw [init_env', ownW_upd (by first | simp | exact Nat.le_of_ble_eq_true rfl)]; simp only [ir75, updL, updLo, List.map_nil, List.map_cons, Nat.reduceAdd, onArgs, vanv, onB]
    (repeat ((first | refine WV_seq_ ?_ | refine WV_block ?_ | refine WV_ops ?_ | refine WV_skip ?_ | refine WV_exit ?_); (try simp only [go_sem, init_env', Nat.reduceEqDiff, Nat.reduceAdd, Nat.reduceMul, reduceIte, Nat.reduceLeDiff, Nat.reduceLT, Nat.reduceBEq, reduceCtorEq, hP, hprg _ _ hjp]); (repeat (refine And.intro (by first | omega | (intros; simp_all; done) | (intros; simp_all; omega)) ?_))))
    refine AS_guest 1000 [1001] (g := g) (e := entT r (t, v)) (rem := ((List.range r.n).flatMap (nexts r f t v)).map (entT r) ++ rest) rfl rfl rfl rfl (by decide) rfl ?_ ?_
    · refine ⟨⟨⟨_, rfl, _, rfl⟩, cellsT_pure t⟩, trivial⟩
    · simp only [go_sem, init_env', Nat.reduceEqDiff, Nat.reduceAdd, Nat.reduceMul, reduceIte, Nat.reduceLeDiff, Nat.reduceLT, Nat.reduceBEq, reduceCtorEq, hP, entT, hprg _ _ hjp]
      (repeat ((first | refine WV_seq_ ?_ | refine WV_block ?_ | refine WV_ops ?_ | refine WV_skip ?_ | refine WV_exit ?_); (try simp only [go_sem, init_env', Nat.reduceEqDiff, Nat.reduceAdd, Nat.reduceMul, reduceIte, Nat.reduceLeDiff, Nat.reduceLT, Nat.reduceBEq, reduceCtorEq, hP, ]); (repeat (refine And.intro (by first | omega | (intros; simp_all; done) | (intros; simp_all; omega)) ?_))))
      (refine WV_cond rfl (fun h => ?_) (fun h => ?_))
      · simp at h
      · (repeat ((first | refine WV_seq_ ?_ | refine WV_block ?_ | refine WV_ops ?_ | refine WV_skip ?_ | refine WV_exit ?_); (try simp only [go_sem, init_env', Nat.reduceEqDiff, Nat.reduceAdd, Nat.reduceMul, reduceIte, Nat.reduceLeDiff, Nat.reduceLT, Nat.reduceBEq, reduceCtorEq, hP, Route.cds, stopsC]); (repeat (refine And.intro (by first | omega | (intros; simp_all; done) | (intros; simp_all; omega)) ?_))))
        refine WV_loopK K75_1 [1000, 1001] (fun i : Nat × List AV => i.1 ≤ r.n ∧ i.2.length + t.length = r.n ∧ AV.pureL i.2 = true ∧ AV.isSolidL i.2 = true) (fun i => r.n - i.1) (fun i => [(22, iv i.1)])
          (fun i => [(1000, .guest g ((((List.range r.n).drop i.1).flatMap (nexts r f t v)).map (entT r) ++ rest)), (1001, .box (cellsT t ++ i.2))]) (0, junk) ⟨Nat.zero_le _, hj, hjp, hjs⟩ ?_ ?_
        · (refine Sub_of (by simp only [go_sem, init_env', Nat.reduceEqDiff, Nat.reduceAdd, Nat.reduceMul, reduceIte, Nat.reduceLeDiff, Nat.reduceLT, Nat.reduceBEq, reduceCtorEq]; ((repeat' (first | exact EnvLe_e0 _ _ | refine EnvLe_upd ?_ ?_)) <;> ((try simp only [upd_app, e0_app, o0_app, Nat.reduceEqDiff, reduceIte]); first | exact AWk.refl _ _ | exact AWk.int (by omega) | exact AWk.int (by rw [w64 (by omega) (by omega)]; omega) | exact AWk.grow rfl | exact AWk.nil _ | exact AWk.of (by simp)))) (by simp only [go_sem, init_env', Nat.reduceEqDiff, Nat.reduceAdd, Nat.reduceMul, reduceIte, Nat.reduceLeDiff, Nat.reduceLT, Nat.reduceBEq, reduceCtorEq]; (first | ((repeat' (first | exact ObjLe_o0 _ | exact ObjLe.rfl' _ | refine ObjLe_same ?_ | refine ObjLe_upd ?_ ?_ | refine ObjLe_new rfl ?_)) <;> rfl) | (refine ObjLe_X ?_; (repeat' (first | exact ObjLeX_o0 _ _ | refine ObjLeX_skip rfl ?_ | refine ObjLeX_upd ?_ ?_)) <;> rfl))))
        · clear hj hjp hjs
          rintro ⟨k, junk⟩ ⟨hk, hj, hjp, hjs⟩
          have hsl : (r.stops.length : Int) = (r.n : Int) := rfl
          simp only at hk hj hjp hjs
          simp only [go_sem, init_env', Nat.reduceEqDiff, Nat.reduceAdd, Nat.reduceMul, reduceIte, Nat.reduceLeDiff, Nat.reduceLT, Nat.reduceBEq, reduceCtorEq, hprg _ _ hjp]
          (repeat ((first | refine WV_seq_ ?_ | refine WV_block ?_ | refine WV_ops ?_ | refine WV_skip ?_ | refine WV_exit ?_); (try simp only [go_sem, init_env', Nat.reduceEqDiff, Nat.reduceAdd, Nat.reduceMul, reduceIte, Nat.reduceLeDiff, Nat.reduceLT, Nat.reduceBEq, reduceCtorEq, hP, hprg _ _ hjp]); (repeat (refine And.intro (by first | omega | (intros; simp_all; done) | (intros; simp_all; omega)) ?_))))
          (refine WV_cond rfl (fun h => ?_) (fun h => ?_))
          · simp only [decide_eq_true_eq, Int.ofNat_lt] at h
            have h : k < r.n := h
            have hdrop : (List.range r.n).drop k = k :: (List.range r.n).drop (k + 1) := by
              rw [List.drop_eq_getElem_cons (by simpa using h), List.getElem_range]
            rw [hdrop, List.flatMap_cons]
            (repeat ((first | refine WV_seq_ ?_ | refine WV_block ?_ | refine WV_ops ?_ | refine WV_skip ?_ | refine WV_exit ?_); (try simp only [go_sem, init_env', Nat.reduceEqDiff, Nat.reduceAdd, Nat.reduceMul, reduceIte, Nat.reduceLeDiff, Nat.reduceLT, Nat.reduceBEq, reduceCtorEq, hP, ]); (repeat (refine And.intro (by first | omega | (intros; simp_all; done) | (intros; simp_all; omega)) ?_))))
            refine AS_vol (contains76 (t.map fun (k : Nat) => (k : Int)) k) rfl rfl rfl rfl ?_ rfl ?_
            · simp only [go_sem, init_env', Nat.reduceEqDiff, Nat.reduceAdd, Nat.reduceMul, reduceIte, Nat.reduceLeDiff, Nat.reduceLT, Nat.reduceBEq, reduceCtorEq, AV.vportL, AV.vport]
              rw [elemsV_T (t := t) (junk := junk) rfl rfl]
              rfl
            · rw [mem_cast]
              simp only [go_sem, init_env', Nat.reduceEqDiff, Nat.reduceAdd, Nat.reduceMul, reduceIte, Nat.reduceLeDiff, Nat.reduceLT, Nat.reduceBEq, reduceCtorEq, hP]
              (repeat ((first | refine WV_seq_ ?_ | refine WV_block ?_ | refine WV_ops ?_ | refine WV_skip ?_ | refine WV_exit ?_); (try simp only [go_sem, init_env', Nat.reduceEqDiff, Nat.reduceAdd, Nat.reduceMul, reduceIte, Nat.reduceLeDiff, Nat.reduceLT, Nat.reduceBEq, reduceCtorEq, hP, ]); (repeat (refine And.intro (by first | omega | (intros; simp_all; done) | (intros; simp_all; omega)) ?_))))
              (refine WV_cond rfl (fun h => ?_) (fun h => ?_))
              · simp only [decide_eq_true_eq] at h
                have e : nexts r f t v k = [] := by unfold nexts; rw [if_pos h]
                rw [e]
                (repeat ((first | refine WV_seq_ ?_ | refine WV_block ?_ | refine WV_ops ?_ | refine WV_skip ?_ | refine WV_exit ?_); (try simp only [go_sem, init_env', Nat.reduceEqDiff, Nat.reduceAdd, Nat.reduceMul, reduceIte, Nat.reduceLeDiff, Nat.reduceLT, Nat.reduceBEq, reduceCtorEq, hP, ]); (repeat (refine And.intro (by first | omega | (intros; simp_all; done) | (intros; simp_all; omega)) ?_))))
                refine ⟨(k + 1, junk), ⟨by omega, hj, hjp, hjs⟩, by simp only; omega, ?_⟩
                (refine Sub_of (by simp only [go_sem, init_env', Nat.reduceEqDiff, Nat.reduceAdd, Nat.reduceMul, reduceIte, Nat.reduceLeDiff, Nat.reduceLT, Nat.reduceBEq, reduceCtorEq]; ((repeat' (first | exact EnvLe_e0 _ _ | refine EnvLe_upd ?_ ?_)) <;> ((try simp only [upd_app, e0_app, o0_app, Nat.reduceEqDiff, reduceIte]); first | exact AWk.refl _ _ | exact AWk.int (by omega) | exact AWk.int (by rw [w64 (by omega) (by omega)]; omega) | exact AWk.grow rfl | exact AWk.nil _ | exact AWk.of (by simp)))) (by simp only [go_sem, init_env', Nat.reduceEqDiff, Nat.reduceAdd, Nat.reduceMul, reduceIte, Nat.reduceLeDiff, Nat.reduceLT, Nat.reduceBEq, reduceCtorEq]; (first | ((repeat' (first | exact ObjLe_o0 _ | exact ObjLe.rfl' _ | refine ObjLe_same ?_ | refine ObjLe_upd ?_ ?_ | refine ObjLe_new rfl ?_)) <;> rfl) | (refine ObjLe_X ?_; (repeat' (first | exact ObjLeX_o0 _ _ | refine ObjLeX_skip rfl ?_ | refine ObjLeX_upd ?_ ?_)) <;> rfl))))
              · simp only [decide_eq_false_iff_not] at h
                have hnk := h
                have hkn : k < r.n := by assumption
                have hnd' : (t ++ [k]).Nodup := by
                  rw [List.nodup_append]
                  exact ⟨hnd, by simp, fun a ha b hb => by simp at hb; subst hb; rintro rfl; exact hnk ha⟩
                have hlt' : ∀ j ∈ t ++ [k], j < r.n := by
                  intro j hj
                  rcases List.mem_append.1 hj with hj | hj
                  · exact hlt j hj
                  · simp at hj; omega
                have hle := tour_len hnd' hlt'
                simp only [List.length_append, List.length_cons, List.length_nil] at hle
                obtain ⟨ja, junk2, rfl⟩ : ∃ ja junk2, junk = ja :: junk2 := by
                  cases junk with
                  | nil => simp at hj; omega
                  | cons a b => exact ⟨a, b, rfl⟩
                simp only [AV.pureL, Bool.and_eq_true] at hjp
                simp only [AV.isSolidL, Bool.and_eq_true] at hjs
                simp only [List.length_cons] at hj
                have hpjk : AV.pureL (ja :: junk2) = true := by simp only [AV.pureL, Bool.and_eq_true]; exact hjp
                have hsjk : AV.isSolidL (ja :: junk2) = true := by simp only [AV.isSolidL, Bool.and_eq_true]; exact hjs
                (repeat ((first | refine WV_seq_ ?_ | refine WV_block ?_ | refine WV_ops ?_ | refine WV_skip ?_ | refine WV_exit ?_); (try simp only [go_sem, init_env', Nat.reduceEqDiff, Nat.reduceAdd, Nat.reduceMul, reduceIte, Nat.reduceLeDiff, Nat.reduceLT, Nat.reduceBEq, reduceCtorEq, hP, ]); (repeat (refine And.intro (by first | omega | (intros; simp_all; done) | (intros; simp_all; omega)) ?_))))
                (refine AS_pure (visit73 hr hv (by omega) hkn) rfl rfl rfl rfl rfl ?_; simp only [go_sem, init_env', Nat.reduceEqDiff, Nat.reduceAdd, Nat.reduceMul, reduceIte, Nat.reduceLeDiff, Nat.reduceLT, Nat.reduceBEq, reduceCtorEq, hP, vanv, hprg _ _ hpjk]; (repeat (refine And.intro (by first | omega | (intros; simp_all; done) | (intros; simp_all; omega)) ?_)); (repeat ((first | refine WV_seq_ ?_ | refine WV_block ?_ | refine WV_ops ?_ | refine WV_skip ?_ | refine WV_exit ?_); (try simp only [go_sem, init_env', Nat.reduceEqDiff, Nat.reduceAdd, Nat.reduceMul, reduceIte, Nat.reduceLeDiff, Nat.reduceLT, Nat.reduceBEq, reduceCtorEq, hP, vanv, hprg _ _ hpjk]); (repeat (refine And.intro (by first | omega | (intros; simp_all; done) | (intros; simp_all; omega)) ?_)))))
                by_cases hvis : (visit r v k).2.2 = true
                · have hnx : nexts r f t v k = ext r f (t ++ [k]) (visit r v k).1 := by unfold nexts; rw [if_neg hnk, if_pos hvis]
                  rw [hvis, hnx]
                  have hmax : maxLen = 9223372036854775807 := rfl
                  have hset := cellsT_set t ja junk2 k
                  have hprg2 : ∀ d, AV.prgL d (cellsT (t ++ [k]) ++ junk2) = cellsT (t ++ [k]) ++ junk2 := fun d => prgL_pure d (pureL_append (cellsT_pure _) hjp.2)
                  have hclen := cellsT_len t
                  have hv2 := hvp k hkn hvis
                  have hspec := ih (t ++ [k]) (visit r v k).1 junk2 (((List.range r.n).drop (k + 1)).flatMap (nexts r f t v) |>.map (entT r) |> (· ++ rest)) (by simp; omega) hnd' hlt' (by simp; omega) hjp.2 hjs.2 (by simpa using hv2)
                  simp only at hspec
                  have hll := fun (own : Nat → Ob) => lendL_pure (b := 1000) (L := [1000, 1001, 1002]) (own := own) (pureL_append (cellsT_pure (t ++ [k])) hjp.2) (solidL_append (cellsT_solid (t ++ [k])) hjs.2)
                  (refine WV_drw ?_; simp only [go_sem, init_env', Nat.reduceEqDiff, Nat.reduceAdd, Nat.reduceMul, reduceIte, Nat.reduceLeDiff, Nat.reduceLT, Nat.reduceBEq, reduceCtorEq, hP, hprg _ _ hpjk, hprg2, List.flatten_cons, List.flatten_nil, Nat.mul_one, hset]; (repeat' (refine And.intro ?_ ?_)))
                  all_goals first
                  | omega
                  | skip
                  all_goals
                    refine .inr (.inr (AS_lend [1000, 1001, 1002] hspec rfl rfl rfl (by decide) ?_ ?_ ?_))
                    · simp only [go_sem, init_env', Nat.reduceEqDiff, Nat.reduceAdd, Nat.reduceMul, reduceIte, Nat.reduceLeDiff, Nat.reduceLT, Nat.reduceBEq, reduceCtorEq, AV.lendL, AV.lend, onArgs, vanv]
                      rfl
                    · simp only [go_sem, init_env', Nat.reduceEqDiff, Nat.reduceAdd, Nat.reduceMul, reduceIte, Nat.reduceLeDiff, Nat.reduceLT, Nat.reduceBEq, reduceCtorEq, obsLend, Ob.lend, AV.lendL, AV.lend, hll, onB, Route.cds, stopsC, List.append_assoc]
                    · rintro res l' ⟨rfl, junk', hj', hp', hs', rfl⟩
                      have hbk := backs_pure (L := [1000, 1001, 1002]) (pureL_append (cellsT_pure (t ++ [k])) hp')
                      refine ⟨.c (.bool true), [.guest g (List.map (entT r) (List.flatMap (nexts r f t v) (List.drop (k + 1) (List.range r.n))) ++ rest), .box (cellsT (t ++ [k]) ++ junk'), onB r g], rfl, ?_, ?_⟩
                      · simp only [obsBack, Ob.back, hbk, onB]
                        rfl
                      · have hprg3 : ∀ d, AV.prgL d (cellsT t ++ (iv k :: junk')) = cellsT t ++ (iv k :: junk') := fun d => prgL_pure d (pureL_append (cellsT_pure _) (by simp only [AV.pureL, AV.pureB, Bool.true_and]; exact hp'))
                        have hcs : cellsT (t ++ [k]) ++ junk' = cellsT t ++ (iv k :: junk') := by simp [cellsT]
                        rw [hcs]
                        simp only [go_sem, init_env', Nat.reduceEqDiff, Nat.reduceAdd, Nat.reduceMul, reduceIte, Nat.reduceLeDiff, Nat.reduceLT, Nat.reduceBEq, reduceCtorEq, ownBack, hprg3, onB, Route.cds, stopsC]
                        (repeat ((first | refine WV_seq_ ?_ | refine WV_block ?_ | refine WV_ops ?_ | refine WV_skip ?_ | refine WV_exit ?_); (try simp only [go_sem, init_env', Nat.reduceEqDiff, Nat.reduceAdd, Nat.reduceMul, reduceIte, Nat.reduceLeDiff, Nat.reduceLT, Nat.reduceBEq, reduceCtorEq, hP, ]); (repeat (refine And.intro (by first | omega | (intros; simp_all; done) | (intros; simp_all; omega)) ?_))))
                        (refine WV_cond rfl (fun h => ?_) (fun h => ?_))
                        · simp at h
                        · (repeat ((first | refine WV_seq_ ?_ | refine WV_block ?_ | refine WV_ops ?_ | refine WV_skip ?_ | refine WV_exit ?_); (try simp only [go_sem, init_env', Nat.reduceEqDiff, Nat.reduceAdd, Nat.reduceMul, reduceIte, Nat.reduceLeDiff, Nat.reduceLT, Nat.reduceBEq, reduceCtorEq, hP, ]); (repeat (refine And.intro (by first | omega | (intros; simp_all; done) | (intros; simp_all; omega)) ?_))))
                          refine ⟨(k + 1, iv k :: junk'), ⟨by omega, by simp at hj' ⊢; omega, by simp only [AV.pureL, AV.pureB, Bool.true_and]; exact hp', by simp only [AV.isSolidL, AV.isSolid, Bool.true_and]; exact hs'⟩, by simp only; omega, ?_⟩
                          (refine Sub_of (by simp only [go_sem, init_env', Nat.reduceEqDiff, Nat.reduceAdd, Nat.reduceMul, reduceIte, Nat.reduceLeDiff, Nat.reduceLT, Nat.reduceBEq, reduceCtorEq]; ((repeat' (first | exact EnvLe_e0 _ _ | refine EnvLe_upd ?_ ?_)) <;> ((try simp only [upd_app, e0_app, o0_app, Nat.reduceEqDiff, reduceIte]); first | exact AWk.refl _ _ | exact AWk.int (by omega) | exact AWk.int (by rw [w64 (by omega) (by omega)]; omega) | exact AWk.grow rfl | exact AWk.nil _ | exact AWk.of (by simp)))) (by simp only [go_sem, init_env', Nat.reduceEqDiff, Nat.reduceAdd, Nat.reduceMul, reduceIte, Nat.reduceLeDiff, Nat.reduceLT, Nat.reduceBEq, reduceCtorEq]; (first | ((repeat' (first | exact ObjLe_o0 _ | exact ObjLe.rfl' _ | refine ObjLe_same ?_ | refine ObjLe_upd ?_ ?_ | refine ObjLe_new rfl ?_)) <;> rfl) | (refine ObjLe_X ?_; (repeat' (first | exact ObjLeX_o0 _ _ | refine ObjLeX_skip rfl ?_ | refine ObjLeX_upd ?_ ?_)) <;> rfl))))
                · have hvf : (visit r v k).2.2 = false := by simpa using hvis
                  have hnx : nexts r f t v k = [] := by unfold nexts; rw [if_neg hnk, if_neg hvis]
                  rw [hvf, hnx]
                  (refine WV_drw ?_; simp only [go_sem, init_env', Nat.reduceEqDiff, Nat.reduceAdd, Nat.reduceMul, reduceIte, Nat.reduceLeDiff, Nat.reduceLT, Nat.reduceBEq, reduceCtorEq, hP, hprg _ _ hpjk]; (repeat' (refine And.intro ?_ ?_)))
                  all_goals
                    refine .inr (.inr ?_)
                    (repeat ((first | refine WV_seq_ ?_ | refine WV_block ?_ | refine WV_ops ?_ | refine WV_skip ?_ | refine WV_exit ?_); (try simp only [go_sem, init_env', Nat.reduceEqDiff, Nat.reduceAdd, Nat.reduceMul, reduceIte, Nat.reduceLeDiff, Nat.reduceLT, Nat.reduceBEq, reduceCtorEq, hP, hprg _ _ hpjk]); (repeat (refine And.intro (by first | omega | (intros; simp_all; done) | (intros; simp_all; omega)) ?_))))
                    (refine WV_cond rfl (fun h => ?_) (fun h => ?_))
                    · simp at h
                    · (repeat ((first | refine WV_seq_ ?_ | refine WV_block ?_ | refine WV_ops ?_ | refine WV_skip ?_ | refine WV_exit ?_); (try simp only [go_sem, init_env', Nat.reduceEqDiff, Nat.reduceAdd, Nat.reduceMul, reduceIte, Nat.reduceLeDiff, Nat.reduceLT, Nat.reduceBEq, reduceCtorEq, hP, hprg _ _ hpjk]); (repeat (refine And.intro (by first | omega | (intros; simp_all; done) | (intros; simp_all; omega)) ?_))))
                      refine ⟨(k + 1, ja :: junk2), ⟨by omega, by simp; omega, hpjk, hsjk⟩, by simp only; omega, ?_⟩
                      (refine Sub_of (by simp only [go_sem, init_env', Nat.reduceEqDiff, Nat.reduceAdd, Nat.reduceMul, reduceIte, Nat.reduceLeDiff, Nat.reduceLT, Nat.reduceBEq, reduceCtorEq]; ((repeat' (first | exact EnvLe_e0 _ _ | refine EnvLe_upd ?_ ?_)) <;> ((try simp only [upd_app, e0_app, o0_app, Nat.reduceEqDiff, reduceIte]); first | exact AWk.refl _ _ | exact AWk.int (by omega) | exact AWk.int (by rw [w64 (by omega) (by omega)]; omega) | exact AWk.grow rfl | exact AWk.nil _ | exact AWk.of (by simp)))) (by simp only [go_sem, init_env', Nat.reduceEqDiff, Nat.reduceAdd, Nat.reduceMul, reduceIte, Nat.reduceLeDiff, Nat.reduceLT, Nat.reduceBEq, reduceCtorEq]; (first | ((repeat' (first | exact ObjLe_o0 _ | exact ObjLe.rfl' _ | refine ObjLe_same ?_ | refine ObjLe_upd ?_ ?_ | refine ObjLe_new rfl ?_)) <;> rfl) | (refine ObjLe_X ?_; (repeat' (first | exact ObjLeX_o0 _ _ | refine ObjLeX_skip rfl ?_ | refine ObjLeX_upd ?_ ?_)) <;> rfl))))
          · simp only [decide_eq_false_iff_not, Int.ofNat_lt] at h
            have hk' : k = r.n := by have h : ¬ k < r.n := h; omega
            subst hk'
            rw [List.drop_of_length_le (by simp)]
            (repeat ((first | refine WV_seq_ ?_ | refine WV_block ?_ | refine WV_ops ?_ | refine WV_skip ?_ | refine WV_exit ?_); (try simp only [go_sem, init_env', Nat.reduceEqDiff, Nat.reduceAdd, Nat.reduceMul, reduceIte, Nat.reduceLeDiff, Nat.reduceLT, Nat.reduceBEq, reduceCtorEq, hP, ]); (repeat (refine And.intro (by first | omega | (intros; simp_all; done) | (intros; simp_all; omega)) ?_))))
            (refine WV_ret ?_; simp only [thenQ, inQ, RetQL, RetOkL, resAll, resA]; simp only [go_sem, init_env', Nat.reduceEqDiff, Nat.reduceAdd, Nat.reduceMul, reduceIte, Nat.reduceLeDiff, Nat.reduceLT, Nat.reduceBEq, reduceCtorEq, tupA, AV.keepP, AV.keepPL]; refine ⟨_, [.guest g rest, .box (cellsT t ++ junk), onB r g], rfl, KeepL_mk rfl rfl ?_ ?_ rfl, ?_⟩)
            · simp only [go_sem, init_env', Nat.reduceEqDiff, Nat.reduceAdd, Nat.reduceMul, reduceIte, Nat.reduceLeDiff, Nat.reduceLT, Nat.reduceBEq, reduceCtorEq, keepAll, Ob.keepP, AV.keepP, AV.keepPL, keepPL_pure (pureL_append (cellsT_pure t) hjp) (solidL_append (cellsT_solid t) hjs), onB, List.flatMap_nil, Route.cds, stopsC]
            · trivial
            · exact ⟨rfl, junk, hj, hjp, hjs, rfl⟩
end Go.Proofs.Ytbejgfpaokcnpaa

namespace Go.Proofs.Ytbejgfpaokcnpaa
open Go Go.V
@[reducible] def o66_0 : List Ins := [⟨(some 1), .box 1 (.t 0), none, true⟩,
  ⟨(some 2), .mv (.k (.c (.raw .nilFunc))), none, true⟩]
@[reducible] def o66_1 : List Ins := [⟨(some 3), .mkfn 74 [(.t 1)], none, true⟩,
  ⟨(some 2), .mv (.t 3), none, true⟩]
@[reducible] def v66_2 : VC := (.seq (.ops o66_1) .ret)
def ir66 : FC := ⟨1, 4, [.t 2], (.seq (.ops o66_0) v66_2)⟩
@[reducible] def o74_0 : List Ins := [⟨(some 2), .box 1 (.t 0), none, true⟩]
@[reducible] def o74_1 : List Ins := [⟨(some 3), .alloc [(.c (.raw .nilFunc))], none, true⟩]
@[reducible] def o74_2 : List Ins := [⟨(some 4), .mkfn 75 [(.t 2), (.t 1), (.t 3)], none, true⟩,
  ⟨none, .st 1 (.t 3) (.t 4), none, true⟩]
@[reducible] def o74_3 : List Ins := [⟨(some 5), .ld true 1 (.t 3), none, false⟩,
  ⟨(some 6), .ld true 1 (.t 1), none, false⟩,
  ⟨(some 7), .nilc (.t 6), none, false⟩,
  ⟨(some 8), .fa 0 (.t 7), none, false⟩,
  ⟨(some 9), .ld true 1 (.t 8), none, false⟩,
  ⟨(some 10), .len (.t 9), none, false⟩,
  ⟨(some 11), .mks 3 1 8 [(.c (.int .i64 0))] (.k (.c (.int .i64 0))) (.t 10), none, false⟩,
  ⟨(some 12), .ld true 1 (.t 1), none, false⟩,
  ⟨(some 13), .call (.k (.fn 72 [])) [(.t 12)], none, false⟩,
  ⟨(some 14), .call (.t 5) [(.t 11), (.t 13)], none, true⟩]
@[reducible] def v74_4 : VC := (.seq (.ops o74_2) (.ops o74_3))
@[reducible] def v74_5 : VC := (.seq (.ops o74_1) v74_4)
def ir74 : FC := ⟨2, 15, [], (.seq (.ops o74_0) v74_5)⟩
theorem c66 : compM Try.prog [] 66 = some ir66 := by kernel_rfl
theorem c74 : compM Try.prog [] 74 = some ir74 := by kernel_rfl



theorem tours66 (r : Route) : FSpec Try.prog 66 [.c (.pt r.cds)] (.fn 74 [.c (.pt [.pt r.cds])]) := by
  refine FSpec_of c66 (Nat.le_refl _) (by decide) fun C hP hN hC hL => ?_
  simp only [ir66]
  (refine WV_seq_ (WV_ops ?_); simp only [go_sem, init_env', Nat.reduceEqDiff, Nat.reduceAdd, Nat.reduceMul, reduceIte, Nat.reduceLeDiff, Nat.reduceLT, Nat.reduceBEq, reduceCtorEq, hP, ]; (repeat (refine And.intro (by first | omega | (intros; simp_all; done) | (intros; simp_all; omega)) ?_)))
  refine WV_freeze 1 (ds := [.pt r.cds]) rfl rfl ?_
  simp only [go_sem, init_env', Nat.reduceEqDiff, Nat.reduceAdd, Nat.reduceMul, reduceIte, Nat.reduceLeDiff, Nat.reduceLT, Nat.reduceBEq, reduceCtorEq, List.drop_zero]
  (repeat ((first | refine WV_seq_ ?_ | refine WV_block ?_ | refine WV_ops ?_ | refine WV_skip ?_ | refine WV_exit ?_); (try simp only [go_sem, init_env', Nat.reduceEqDiff, Nat.reduceAdd, Nat.reduceMul, reduceIte, Nat.reduceLeDiff, Nat.reduceLT, Nat.reduceBEq, reduceCtorEq, hP, ]); (repeat (refine And.intro (by first | omega | (intros; simp_all; done) | (intros; simp_all; omega)) ?_))))
  (refine WV_ret ?_; simp only [thenQ, inQ, RetQ, RetOk, resAll, resA]; simp only [go_sem, init_env', Nat.reduceEqDiff, Nat.reduceAdd, Nat.reduceMul, reduceIte, Nat.reduceLeDiff, Nat.reduceLT, Nat.reduceBEq, reduceCtorEq, tupA, AV.port, AV.portL, exists_eq_left', ]; (first | exact AVle.of rfl | refine AVle.of ?_ | skip))

set_option maxHeartbeats 2000000 in
theorem tours74 {r : Route} (hr : RouteOk r) (g : Gst) : FSpecL Try.prog 74 [.c (.raw g.fv), .c (.pt [.pt r.cds])] [.guest g ((goods r).map (entT r))] [] (fun _ l' => l' = [.guest g []]) := by
  have hn7 := hr.n7
  refine FSpecL_of c74 (by first | simp | exact Nat.le_of_ble_eq_true rfl) (Nat.le_refl _) (by decide) (by decide) fun C hP hN hC hL => ?_; rw [init_env', ownW_upd (by first | simp | exact Nat.le_of_ble_eq_true rfl)]; simp only [ir74, updL, updLo, List.map_nil, List.map_cons, Nat.reduceAdd, ]
  (refine WV_seq_ (WV_ops ?_); simp only [go_sem, init_env', Nat.reduceEqDiff, Nat.reduceAdd, Nat.reduceMul, reduceIte, Nat.reduceLeDiff, Nat.reduceLT, Nat.reduceBEq, reduceCtorEq, hP, ]; (repeat (refine And.intro (by first | omega | (intros; simp_all; done) | (intros; simp_all; omega)) ?_)))
  refine WV_freeze 2 (ds := [.raw g.fv]) rfl rfl ?_
  simp only [go_sem, init_env', Nat.reduceEqDiff, Nat.reduceAdd, Nat.reduceMul, reduceIte, Nat.reduceLeDiff, Nat.reduceLT, Nat.reduceBEq, reduceCtorEq, List.drop_zero]
  (repeat ((first | refine WV_seq_ ?_ | refine WV_block ?_ | refine WV_ops ?_ | refine WV_skip ?_ | refine WV_exit ?_); (try simp only [go_sem, init_env', Nat.reduceEqDiff, Nat.reduceAdd, Nat.reduceMul, reduceIte, Nat.reduceLeDiff, Nat.reduceLT, Nat.reduceBEq, reduceCtorEq, hP, ]); (repeat (refine And.intro (by first | omega | (intros; simp_all; done) | (intros; simp_all; omega)) ?_))))
  have hst : (r.stops.length : Int) = (r.n : Int) := rfl
  have hmax : maxLen = 9223372036854775807 := rfl
  generalize hju : (List.replicate r.stops.length [iv 0]).flatten = junk
  have hju1 : junk.length = r.n := by rw [← hju]; simp [Route.n]
  have hju2 : AV.pureL junk = true ∧ AV.isSolidL junk = true := by
    rw [← hju]
    generalize r.stops.length = n
    induction n with
    | zero => exact ⟨rfl, rfl⟩
    | succ n ih => simp only [List.replicate_succ, List.flatten_cons, List.cons_append, List.nil_append, AV.pureL, AV.pureB, AV.isSolidL, AV.isSolid, Bool.true_and]; exact ih
  have hspec := on75 hr g (r.n + 1) [] (leave r) junk [] (by simp) List.nodup_nil (by simp) (by simpa using hju1) hju2.1 hju2.2 (leave_ok hr)
  have hc0 : cellsT [] ++ junk = junk := rfl
  rw [hc0, List.append_nil] at hspec
  have hpj : ∀ d, AV.prgL d junk = junk := fun d => prgL_pure d hju2.1
  have hll := fun (L : List Nat) (own : Nat → Ob) => lendL_pure (b := 1000) (L := L) (own := own) hju2.1 hju2.2
  simp only [go_sem, init_env', Nat.reduceEqDiff, Nat.reduceAdd, Nat.reduceMul, reduceIte, Nat.reduceLeDiff, Nat.reduceLT, Nat.reduceBEq, reduceCtorEq, hP, Route.cds, stopsC, Int.toNat_natCast, hju, hpj]
  (repeat (refine And.intro (by first | omega | (intros; simp_all; done) | (intros; simp_all; omega)) ?_))
  (repeat ((first | refine WV_seq_ ?_ | refine WV_block ?_ | refine WV_ops ?_ | refine WV_skip ?_ | refine WV_exit ?_); (try simp only [go_sem, init_env', Nat.reduceEqDiff, Nat.reduceAdd, Nat.reduceMul, reduceIte, Nat.reduceLeDiff, Nat.reduceLT, Nat.reduceBEq, reduceCtorEq, hP, Route.cds, stopsC, Int.toNat_natCast, hju, hpj]); (repeat (refine And.intro (by first | omega | (intros; simp_all; done) | (intros; simp_all; omega)) ?_))))
  · refine ACall_of (leave72 r) rfl rfl rfl rfl rfl ?_
    simp only [go_sem, init_env', Nat.reduceEqDiff, Nat.reduceAdd, Nat.reduceMul, reduceIte, Nat.reduceLeDiff, Nat.reduceLT, Nat.reduceBEq, reduceCtorEq, hP, vanv, Int.toNat_natCast, hju, hpj]
    refine AS_lend [1000, 11, 3] hspec rfl rfl rfl (by decide) ?_ ?_ ?_
    · simp only [go_sem, init_env', Nat.reduceEqDiff, Nat.reduceAdd, Nat.reduceMul, reduceIte, Nat.reduceLeDiff, Nat.reduceLT, Nat.reduceBEq, reduceCtorEq, AV.lendL, AV.lend, onArgs, vanv]
      rfl
    · simp only [go_sem, init_env', Nat.reduceEqDiff, Nat.reduceAdd, Nat.reduceMul, reduceIte, Nat.reduceLeDiff, Nat.reduceLT, Nat.reduceBEq, reduceCtorEq, obsLend, Ob.lend, AV.lendL, AV.lend, hll, onB, Route.cds, stopsC, goods]
    · rintro res l' ⟨rfl, junk', hj', hp', hs', rfl⟩
      have hbk := backs_pure (L := [1000, 11, 3]) hp'
      have hc1 : cellsT [] ++ junk' = junk' := rfl
      rw [hc1]
      refine ⟨.c (.bool true), [.guest g [], .box junk', .box [.fn 75 [.c (.pt [.raw g.fv]), .c (.pt [.pt r.cds]), .bp 3 0]]], rfl, ?_, ?_⟩
      · simp only [obsBack, Ob.back, hbk, onB]
        rfl
      · simp only [go_sem, init_env', Nat.reduceEqDiff, Nat.reduceAdd, Nat.reduceMul, reduceIte, Nat.reduceLeDiff, Nat.reduceLT, Nat.reduceBEq, reduceCtorEq, ownBack]
        ((try simp only [thenQ, inQ, RetQL, RetOkL, resAll, resA]); (try simp only [go_sem, init_env', Nat.reduceEqDiff, Nat.reduceAdd, Nat.reduceMul, reduceIte, Nat.reduceLeDiff, Nat.reduceLT, Nat.reduceBEq, reduceCtorEq, tupA, AV.keepP, AV.keepPL]); refine ⟨_, [.guest g []], rfl, KeepL_mk rfl rfl ?_ ?_ rfl, ?_⟩)
        · simp only [go_sem, init_env', Nat.reduceEqDiff, Nat.reduceAdd, Nat.reduceMul, reduceIte, Nat.reduceLeDiff, Nat.reduceLT, Nat.reduceBEq, reduceCtorEq, keepAll, Ob.keepP]
        · trivial
        · rfl
end Go.Proofs.Ytbejgfpaokcnpaa

namespace Go.Proofs.Ytbejgfpaokcnpaa
open Go Go.V
@[reducible] def o50_0 : List Ins := [⟨(some 2), .box 1 (.t 0), none, true⟩,
  ⟨(some 3), .box 1 (.t 1), none, true⟩,
  ⟨(some 4), .mv (.k (.c (.int .i64 0))), none, true⟩]
@[reducible] def o50_1 : List Ins := [⟨(some 5), .alloc [(.c (.int .i64 0))], none, true⟩,
  ⟨none, .st 1 (.t 5) (.k (.c (.int .i64 0))), none, true⟩]
@[reducible] def o50_2 : List Ins := [⟨(some 8), .ld true 1 (.t 2), none, true⟩,
  ⟨(some 9), .call (.k (.fn 66 [])) [(.t 8)], none, true⟩]
@[reducible] def o50_3 : List Ins := [⟨(some 12), .mv (.t 6), none, true⟩,
  ⟨(some 13), .len (.t 12), none, true⟩,
  ⟨(some 14), .ld true 1 (.t 2), none, true⟩,
  ⟨(some 15), .nilc (.t 14), none, true⟩,
  ⟨(some 16), .fa 0 (.t 15), none, true⟩,
  ⟨(some 17), .ld true 1 (.t 16), none, true⟩,
  ⟨(some 18), .len (.t 17), none, true⟩,
  ⟨(some 19), .bin .lss (.t 13) (.t 18), none, true⟩]
@[reducible] def v50_4 : VC := (.cond (.t 19) (.exit 1) .skip)
@[reducible] def o50_5 : List Ins := [⟨(some 20), .ld true 1 (.t 5), none, true⟩,
  ⟨(some 21), .bin .add (.t 20) (.k (.c (.int .i64 1))), none, true⟩,
  ⟨none, .st 1 (.t 5) (.t 21), none, true⟩]
@[reducible] def o50_6 : List Ins := [⟨(some 22), .mv (.t 6), none, true⟩,
  ⟨(some 23), .len (.t 22), none, true⟩,
  ⟨(some 24), .bin .gtr (.t 23) (.k (.c (.int .i64 0))), none, true⟩]
@[reducible] def o50_7 : List Ins := [⟨(some 25), .ld false 4 (.t 7), none, true⟩,
  ⟨(some 26), .call (.k (.fn 68 [])) [(.t 25)], none, true⟩,
  ⟨none, .st 4 (.t 7) (.t 26), none, true⟩]
@[reducible] def v50_8 : VC := (.cond (.t 24) (.ops o50_7) .skip)
@[reducible] def v50_9 : VC := (.seq (.ops o50_6) v50_8)
@[reducible] def o50_10 : List Ins := [⟨(some 27), .ld true 1 (.t 3), none, true⟩,
  ⟨(some 28), .mv (.t 6), none, true⟩,
  ⟨(some 29), .ld false 4 (.t 7), none, true⟩,
  ⟨(some 30), .call (.t 27) [(.t 28), (.t 29)], none, true⟩]
@[reducible] def v50_11 : VC := (.seq (.seq (.ops o50_5) v50_9) (.ops o50_10))
@[reducible] def v50_12 : VC := (.seq (.seq (.ops o50_3) v50_4) v50_11)
@[reducible] def v50_13 : VC := (.block 1 v50_12)
@[reducible] def o50_14 : List Ins := [⟨(some 6), .mv (.t 10), none, true⟩]
@[reducible] def o50_15 : List Ins := [⟨(some 7), .alloc [(.c (.raw (.pointer none))), (.c (.int .i64 0)), (.c (.int .i64 0)), (.c (.int .i64 0))], none, true⟩,
  ⟨none, .st 4 (.t 7) (.t 11), none, true⟩]
@[reducible] def v50_16 : VC := (.seq (.ops o50_14) (.ops o50_15))
@[reducible] def K50_1 : List Nat := [2, 3, 5, 9]
@[reducible] def v50_17 : VC := (.rng (.t 9) [10, 11] v50_16 v50_13)
@[reducible] def v50_18 : VC := (.block 0 v50_17)
@[reducible] def o50_19 : List Ins := [⟨(some 31), .ld true 1 (.t 5), none, true⟩,
  ⟨(some 4), .mv (.t 31), none, true⟩]
@[reducible] def v50_20 : VC := (.seq (.ops o50_19) .ret)
@[reducible] def v50_21 : VC := (.seq (.seq (.ops o50_2) v50_18) v50_20)
@[reducible] def v50_22 : VC := (.seq (.ops o50_1) v50_21)
def ir50 : FC := ⟨2, 32, [.t 4], (.seq (.ops o50_0) v50_22)⟩
theorem c50 : compM Try.prog [] 50 = some ir50 := by kernel_rfl



/-- What is kept behind the first ones. -/
def wholeF (r : Route) (g : Gst) (pre : List (List Nat × Van)) : List Ob := [.box [iv ((pre.filter (isW r)).length : Int)], .guest g ((((goods r).drop pre.length).filter (isW r)).map (entW r))]

set_option maxHeartbeats 2000000 in
theorem whole50 {r : Route} (hr : RouteOk r) (g : Gst) : FSpecL Try.prog 50 [.c (.pt r.cds), .c (.raw g.fv)] [.guest g ((wholes r).map (entW r))] [] (fun res l' => res = iv ((wholes r).length : Int) ∧ l' = [.guest g []]) := by
  have hn7 := hr.n7
  have hst : (r.stops.length : Int) = (r.n : Int) := rfl
  have hcount := goods_count hn7
  refine FSpecL_of c50 (by first | simp | exact Nat.le_of_ble_eq_true rfl) (Nat.le_refl _) (by decide) (by decide) fun C hP hN hC hL => ?_; rw [init_env', ownW_upd (by first | simp | exact Nat.le_of_ble_eq_true rfl)]; simp only [ir50, updL, updLo, List.map_nil, List.map_cons, Nat.reduceAdd, ]
  (refine WV_seq_ (WV_ops ?_); simp only [go_sem, init_env', Nat.reduceEqDiff, Nat.reduceAdd, Nat.reduceMul, reduceIte, Nat.reduceLeDiff, Nat.reduceLT, Nat.reduceBEq, reduceCtorEq, hP, ]; (repeat (refine And.intro (by first | omega | (intros; simp_all; done) | (intros; simp_all; omega)) ?_)))
  refine WV_freeze 2 (ds := [.pt r.cds]) rfl rfl ?_
  refine WV_freeze 3 (ds := [.raw g.fv]) rfl rfl ?_
  simp only [go_sem, init_env', Nat.reduceEqDiff, Nat.reduceAdd, Nat.reduceMul, reduceIte, Nat.reduceLeDiff, Nat.reduceLT, Nat.reduceBEq, reduceCtorEq, List.drop_zero]
  (repeat ((first | refine WV_seq_ ?_ | refine WV_block ?_ | refine WV_ops ?_ | refine WV_skip ?_ | refine WV_exit ?_); (try simp only [go_sem, init_env', Nat.reduceEqDiff, Nat.reduceAdd, Nat.reduceMul, reduceIte, Nat.reduceLeDiff, Nat.reduceLT, Nat.reduceBEq, reduceCtorEq, hP, ]); (repeat (refine And.intro (by first | omega | (intros; simp_all; done) | (intros; simp_all; omega)) ?_))))
  (refine AS_pure (tours66 r) rfl rfl rfl rfl rfl ?_; simp only [go_sem, init_env', Nat.reduceEqDiff, Nat.reduceAdd, Nat.reduceMul, reduceIte, Nat.reduceLeDiff, Nat.reduceLT, Nat.reduceBEq, reduceCtorEq, hP, ]; (repeat (refine And.intro (by first | omega | (intros; simp_all; done) | (intros; simp_all; omega)) ?_)); (repeat ((first | refine WV_seq_ ?_ | refine WV_block ?_ | refine WV_ops ?_ | refine WV_skip ?_ | refine WV_exit ?_); (try simp only [go_sem, init_env', Nat.reduceEqDiff, Nat.reduceAdd, Nat.reduceMul, reduceIte, Nat.reduceLeDiff, Nat.reduceLT, Nat.reduceBEq, reduceCtorEq, hP, ]); (repeat (refine And.intro (by first | omega | (intros; simp_all; done) | (intros; simp_all; omega)) ?_)))))
  refine WV_keep K50_1 ?_
  simp only [go_sem, init_env', Nat.reduceEqDiff, Nat.reduceAdd, Nat.reduceMul, reduceIte, Nat.reduceLeDiff, Nat.reduceLT, Nat.reduceBEq, reduceCtorEq]
  refine WV_rng hC (L := [5, 1000]) (l := wholeF r g []) (env' := lendF [5, 1000] _ _) (rem := (goods r).map (entT r)) (Fin := fun pend lf => pend = none ∧ lf = wholeF r g (goods r)) rfl rfl rfl (by decide) (by decide) ?_ (by rw [hN]; decide) (lendF_ok _ _ _) (fun g' => ?_) ?_ ?_
  · simp only [go_sem, init_env', Nat.reduceEqDiff, Nat.reduceAdd, Nat.reduceMul, reduceIte, Nat.reduceLeDiff, Nat.reduceLT, Nat.reduceBEq, reduceCtorEq, obsLend, Ob.lend, AV.lendL, AV.lend, wholeF, wholes, List.filter_nil]
    rfl
  · rw [hP]; exact ⟨_, tours74 hr g', fun _ _ h => h⟩
  · refine RunR_pre (entT r) (wholeF r g) (goods r) (fun p => rfl) (fun t _ => ⟨rfl, rfl⟩) (fun pre p post hts => ?_) (goods r) [] rfl
    have hdr : (goods r).drop pre.length = p :: post := by rw [hts]; simp
    have hdr2 : (goods r).drop (pre ++ [p]).length = post := by rw [hts]; simp
    have hpo := goods_ok hr p (by rw [hts]; simp)
    have hple := goods_len hr (p := p) (by rw [hts]; simp)
    have hpc : pre.length ≤ 16777215 := by rw [hts] at hcount; simp at hcount; omega
    have hfc : (pre.filter (isW r)).length ≤ 16777215 := Nat.le_trans (List.length_filter_le _ _) hpc
    have hprg : ∀ d, AV.prgL d (cellsT p.1) = cellsT p.1 := fun d => prgL_pure d (cellsT_pure _)
    have hF : wholeF r g pre = [.box [iv ((pre.filter (isW r)).length : Int)], .guest g (((p :: post).filter (isW r)).map (entW r))] := by rw [← hdr]; rfl
    have hF2 : wholeF r g (pre ++ [p]) = [.box [iv (((pre ++ [p]).filter (isW r)).length : Int)], .guest g ((post.filter (isW r)).map (entW r))] := by simp only [wholeF, hdr2]
    rw [hF, hF2]
    clear hF hF2 hdr hdr2
    intro C1 h1 h2 h3
    have hP0 := hP
    replace hP := h1.trans hP0
    rw [ownW_upd (by simp)]
    have hsl : (r.stops.length : Int) = (r.n : Int) := rfl
    generalize hN : (pre.filter (isW r)).length = N at hfc ⊢
    simp only [go_sem, init_env', Nat.reduceEqDiff, Nat.reduceAdd, Nat.reduceMul, reduceIte, Nat.reduceLeDiff, Nat.reduceLT, Nat.reduceBEq, reduceCtorEq, lendF_upd, lendF_e0, AV.lend, AV.lendL, Option.getD_some, Option.getD_none, List.zip_cons_cons, List.zip_nil_right, updLo, entT, vanv]
    (repeat ((first | refine WV_seq_ ?_ | refine WV_block ?_ | refine WV_ops ?_ | refine WV_skip ?_ | refine WV_exit ?_); (try simp only [go_sem, init_env', Nat.reduceEqDiff, Nat.reduceAdd, Nat.reduceMul, reduceIte, Nat.reduceLeDiff, Nat.reduceLT, Nat.reduceBEq, reduceCtorEq, hP, ]); (repeat (refine And.intro (by first | omega | (intros; simp_all; done) | (intros; simp_all; omega)) ?_))))
    intro C2 h1 h2 h3
    replace hP := h1.trans hP0
    (repeat ((first | refine WV_seq_ ?_ | refine WV_block ?_ | refine WV_ops ?_ | refine WV_skip ?_ | refine WV_exit ?_); (try simp only [go_sem, init_env', Nat.reduceEqDiff, Nat.reduceAdd, Nat.reduceMul, reduceIte, Nat.reduceLeDiff, Nat.reduceLT, Nat.reduceBEq, reduceCtorEq, hP, hprg, Route.cds, stopsC]); (repeat (refine And.intro (by first | omega | (intros; simp_all; done) | (intros; simp_all; omega)) ?_))))
    (refine WV_cond rfl (fun h => ?_) (fun h => ?_))
    · have hw : isW r p = false := by simp only [isW, hsl, decide_eq_true_eq, Int.ofNat_lt] at h ⊢; simp [h]
      rw [List.filter_cons, hw, if_neg (by simp), List.filter_append, List.filter_cons, hw]
      simp only [Bool.false_eq_true, if_false, List.filter_nil, List.append_nil, hN]
      (repeat ((first | refine WV_seq_ ?_ | refine WV_block ?_ | refine WV_ops ?_ | refine WV_skip ?_ | refine WV_exit ?_); (try simp only [go_sem, init_env', Nat.reduceEqDiff, Nat.reduceAdd, Nat.reduceMul, reduceIte, Nat.reduceLeDiff, Nat.reduceLT, Nat.reduceBEq, reduceCtorEq, hP, ]); (repeat (refine And.intro (by first | omega | (intros; simp_all; done) | (intros; simp_all; omega)) ?_))))
      refine ⟨none, _, rfl, ?_, rfl, rfl⟩; refine KeepL_mk rfl rfl ?_ ?_ rfl
      · simp only [go_sem, init_env', Nat.reduceEqDiff, Nat.reduceAdd, Nat.reduceMul, reduceIte, Nat.reduceLeDiff, Nat.reduceLT, Nat.reduceBEq, reduceCtorEq, keepAll, Ob.keepP, AV.keepP, AV.keepPL]
      · simp only [go_sem, init_env', Nat.reduceEqDiff, Nat.reduceAdd, Nat.reduceMul, reduceIte, Nat.reduceLeDiff, Nat.reduceLT, Nat.reduceBEq, reduceCtorEq, winAll]
    · have hw : isW r p = true := by simp only [isW, hsl, decide_eq_false_iff_not, Int.ofNat_lt] at h ⊢; simp [h]
      rw [List.filter_cons, hw, if_pos rfl, List.filter_append, List.filter_cons, hw]
      simp only [if_true, List.filter_nil, List.length_append, List.length_singleton, hN, List.map_cons]
      (repeat ((first | refine WV_seq_ ?_ | refine WV_block ?_ | refine WV_ops ?_ | refine WV_skip ?_ | refine WV_exit ?_); (try simp only [go_sem, init_env', Nat.reduceEqDiff, Nat.reduceAdd, Nat.reduceMul, reduceIte, Nat.reduceLeDiff, Nat.reduceLT, Nat.reduceBEq, reduceCtorEq, hP, ]); (repeat (refine And.intro (by first | omega | (intros; simp_all; done) | (intros; simp_all; omega)) ?_))))
      rw [w64 (by omega) (by omega)]
      (repeat ((first | refine WV_seq_ ?_ | refine WV_block ?_ | refine WV_ops ?_ | refine WV_skip ?_ | refine WV_exit ?_); (try simp only [go_sem, init_env', Nat.reduceEqDiff, Nat.reduceAdd, Nat.reduceMul, reduceIte, Nat.reduceLeDiff, Nat.reduceLT, Nat.reduceBEq, reduceCtorEq, hP, ]); (repeat (refine And.intro (by first | omega | (intros; simp_all; done) | (intros; simp_all; omega)) ?_))))
      (refine WV_cond rfl (fun h => ?_) (fun h => ?_))
      · have hne : p.1 ≠ [] := by rintro e; rw [e] at h; simp at h
        (repeat ((first | refine WV_seq_ ?_ | refine WV_block ?_ | refine WV_ops ?_ | refine WV_skip ?_ | refine WV_exit ?_); (try simp only [go_sem, init_env', Nat.reduceEqDiff, Nat.reduceAdd, Nat.reduceMul, reduceIte, Nat.reduceLeDiff, Nat.reduceLT, Nat.reduceBEq, reduceCtorEq, hP, ]); (repeat (refine And.intro (by first | omega | (intros; simp_all; done) | (intros; simp_all; omega)) ?_))))
        have hh := home68 hr hpo.2.2 (by omega)
        (refine AS_pure (hh) rfl rfl rfl rfl rfl ?_; simp only [go_sem, init_env', Nat.reduceEqDiff, Nat.reduceAdd, Nat.reduceMul, reduceIte, Nat.reduceLeDiff, Nat.reduceLT, Nat.reduceBEq, reduceCtorEq, hP, vanv, Route.cds, stopsC]; (repeat (refine And.intro (by first | omega | (intros; simp_all; done) | (intros; simp_all; omega)) ?_)); (repeat ((first | refine WV_seq_ ?_ | refine WV_block ?_ | refine WV_ops ?_ | refine WV_skip ?_ | refine WV_exit ?_); (try simp only [go_sem, init_env', Nat.reduceEqDiff, Nat.reduceAdd, Nat.reduceMul, reduceIte, Nat.reduceLeDiff, Nat.reduceLT, Nat.reduceBEq, reduceCtorEq, hP, vanv, Route.cds, stopsC]); (repeat (refine And.intro (by first | omega | (intros; simp_all; done) | (intros; simp_all; omega)) ?_)))))
        refine AS_guest 1001 [2000] (g := g) (e := entW r p) (rem := (post.filter (isW r)).map (entW r)) rfl rfl rfl rfl (by decide) ?_ ?_ ?_
        · simp only [go_sem, init_env', Nat.reduceEqDiff, Nat.reduceAdd, Nat.reduceMul, reduceIte, Nat.reduceLeDiff, Nat.reduceLT, Nat.reduceBEq, reduceCtorEq, AV.lendL, AV.lend, entW, vanv, atHome, home, hne, Route.cds, stopsC]
        · exact ⟨⟨⟨_, rfl, [], List.append_nil _⟩, cellsT_pure _⟩, trivial⟩
        · simp only [go_sem, init_env', Nat.reduceEqDiff, Nat.reduceAdd, Nat.reduceMul, reduceIte, Nat.reduceLeDiff, Nat.reduceLT, Nat.reduceBEq, reduceCtorEq, hP, entW, hprg]
          (repeat ((first | refine WV_seq_ ?_ | refine WV_block ?_ | refine WV_ops ?_ | refine WV_skip ?_ | refine WV_exit ?_); (try simp only [go_sem, init_env', Nat.reduceEqDiff, Nat.reduceAdd, Nat.reduceMul, reduceIte, Nat.reduceLeDiff, Nat.reduceLT, Nat.reduceBEq, reduceCtorEq, hP, ]); (repeat (refine And.intro (by first | omega | (intros; simp_all; done) | (intros; simp_all; omega)) ?_))))
          refine ⟨none, _, rfl, ?_, rfl, rfl⟩; refine KeepL_mk rfl rfl ?_ ?_ rfl
          · simp only [go_sem, init_env', Nat.reduceEqDiff, Nat.reduceAdd, Nat.reduceMul, reduceIte, Nat.reduceLeDiff, Nat.reduceLT, Nat.reduceBEq, reduceCtorEq, keepAll, Ob.keepP, AV.keepP, AV.keepPL, Int.natCast_add, Int.natCast_one]
          · simp only [go_sem, init_env', Nat.reduceEqDiff, Nat.reduceAdd, Nat.reduceMul, reduceIte, Nat.reduceLeDiff, Nat.reduceLT, Nat.reduceBEq, reduceCtorEq, winAll]
      · have hne : p.1 = [] := by simpa using h
        (repeat ((first | refine WV_seq_ ?_ | refine WV_block ?_ | refine WV_ops ?_ | refine WV_skip ?_ | refine WV_exit ?_); (try simp only [go_sem, init_env', Nat.reduceEqDiff, Nat.reduceAdd, Nat.reduceMul, reduceIte, Nat.reduceLeDiff, Nat.reduceLT, Nat.reduceBEq, reduceCtorEq, hP, ]); (repeat (refine And.intro (by first | omega | (intros; simp_all; done) | (intros; simp_all; omega)) ?_))))
        refine AS_guest 1001 [2000] (g := g) (e := entW r p) (rem := (post.filter (isW r)).map (entW r)) rfl rfl rfl rfl (by decide) ?_ ?_ ?_
        · simp only [go_sem, init_env', Nat.reduceEqDiff, Nat.reduceAdd, Nat.reduceMul, reduceIte, Nat.reduceLeDiff, Nat.reduceLT, Nat.reduceBEq, reduceCtorEq, AV.lendL, AV.lend, entW, vanv, atHome, home, hne, Route.cds, stopsC]
        · exact ⟨⟨⟨_, rfl, [], List.append_nil _⟩, cellsT_pure _⟩, trivial⟩
        · simp only [go_sem, init_env', Nat.reduceEqDiff, Nat.reduceAdd, Nat.reduceMul, reduceIte, Nat.reduceLeDiff, Nat.reduceLT, Nat.reduceBEq, reduceCtorEq, hP, entW, hprg]
          (repeat ((first | refine WV_seq_ ?_ | refine WV_block ?_ | refine WV_ops ?_ | refine WV_skip ?_ | refine WV_exit ?_); (try simp only [go_sem, init_env', Nat.reduceEqDiff, Nat.reduceAdd, Nat.reduceMul, reduceIte, Nat.reduceLeDiff, Nat.reduceLT, Nat.reduceBEq, reduceCtorEq, hP, ]); (repeat (refine And.intro (by first | omega | (intros; simp_all; done) | (intros; simp_all; omega)) ?_))))
          refine ⟨none, _, rfl, ?_, rfl, rfl⟩; refine KeepL_mk rfl rfl ?_ ?_ rfl
          · simp only [go_sem, init_env', Nat.reduceEqDiff, Nat.reduceAdd, Nat.reduceMul, reduceIte, Nat.reduceLeDiff, Nat.reduceLT, Nat.reduceBEq, reduceCtorEq, keepAll, Ob.keepP, AV.keepP, AV.keepPL, Int.natCast_add, Int.natCast_one]
          · simp only [go_sem, init_env', Nat.reduceEqDiff, Nat.reduceAdd, Nat.reduceMul, reduceIte, Nat.reduceLeDiff, Nat.reduceLT, Nat.reduceBEq, reduceCtorEq, winAll]
  · rintro _ _ ⟨rfl, rfl⟩
    refine ⟨_, rfl, rfl, ?_⟩
    simp only [go_sem, init_env', Nat.reduceEqDiff, Nat.reduceAdd, Nat.reduceMul, reduceIte, Nat.reduceLeDiff, Nat.reduceLT, Nat.reduceBEq, reduceCtorEq, exitOf, ownBack, wholeF, List.drop_length, List.filter_nil, wholes]
    (repeat ((first | refine WV_seq_ ?_ | refine WV_block ?_ | refine WV_ops ?_ | refine WV_skip ?_ | refine WV_exit ?_); (try simp only [go_sem, init_env', Nat.reduceEqDiff, Nat.reduceAdd, Nat.reduceMul, reduceIte, Nat.reduceLeDiff, Nat.reduceLT, Nat.reduceBEq, reduceCtorEq, hP, ]); (repeat (refine And.intro (by first | omega | (intros; simp_all; done) | (intros; simp_all; omega)) ?_))))
    (refine WV_ret ?_; simp only [thenQ, inQ, RetQL, RetOkL, resAll, resA]; simp only [go_sem, init_env', Nat.reduceEqDiff, Nat.reduceAdd, Nat.reduceMul, reduceIte, Nat.reduceLeDiff, Nat.reduceLT, Nat.reduceBEq, reduceCtorEq, tupA, AV.keepP, AV.keepPL]; refine ⟨_, [.guest g []], rfl, KeepL_mk rfl rfl ?_ ?_ rfl, ?_⟩)
    · simp only [go_sem, init_env', Nat.reduceEqDiff, Nat.reduceAdd, Nat.reduceMul, reduceIte, Nat.reduceLeDiff, Nat.reduceLT, Nat.reduceBEq, reduceCtorEq, keepAll, Ob.keepP]
    · trivial
    · exact ⟨rfl, rfl⟩
end Go.Proofs.Ytbejgfpaokcnpaa

namespace Go.Proofs.Ytbejgfpaokcnpaa
open Go Go.V
@[reducible] def o61_0 : List Ins := [⟨(some 2), .box 3 (.t 0), none, true⟩,
  ⟨(some 4), .mv (.k (.c (.int .i64 0))), none, true⟩]
@[reducible] def o61_1 : List Ins := [⟨(some 6), .ld false 3 (.t 2), none, true⟩,
  ⟨(some 7), .call (.k (.fn 26 [])) [(.t 6)], none, true⟩,
  ⟨(some 5), .mv (.t 7), none, true⟩]
@[reducible] def o61_2 : List Ins := [⟨(some 8), .mv (.t 5), none, true⟩,
  ⟨(some 9), .bin .neq (.t 8) (.k (.c (.int .i64 0))), none, true⟩]
@[reducible] def o61_3 : List Ins := [⟨(some 10), .mv (.t 5), none, true⟩,
  ⟨(some 4), .mv (.t 10), none, true⟩]
@[reducible] def v61_4 : VC := (.seq (.ops o61_3) .ret)
@[reducible] def v61_5 : VC := (.cond (.t 9) v61_4 .skip)
@[reducible] def v61_6 : VC := (.seq (.ops o61_2) v61_5)
@[reducible] def o61_7 : List Ins := [⟨(some 11), .mv (.t 1), none, true⟩,
  ⟨(some 12), .call (.k (.fn 50 [])) [(.t 2), (.t 11)], none, true⟩,
  ⟨(some 13), .bin .eql (.t 12) (.k (.c (.int .i64 0))), none, true⟩]
@[reducible] def o61_8 : List Ins := [⟨(some 4), .mv (.k (.c (.int .i64 3))), none, true⟩]
@[reducible] def v61_9 : VC := (.seq (.ops o61_8) .ret)
@[reducible] def v61_10 : VC := (.cond (.t 13) v61_9 .skip)
@[reducible] def o61_11 : List Ins := [⟨(some 4), .mv (.k (.c (.int .i64 0))), none, true⟩]
@[reducible] def v61_12 : VC := (.seq (.ops o61_11) .ret)
@[reducible] def v61_13 : VC := (.seq (.seq (.ops o61_7) v61_10) v61_12)
@[reducible] def v61_14 : VC := (.seq (.seq (.ops o61_1) v61_6) v61_13)
def ir61 : FC := ⟨2, 14, [.t 4], (.seq (.ops o61_0) v61_14)⟩
theorem c61 : compM Try.prog [] 61 = some ir61 := by kernel_rfl



def wholesOf (r : Route) : List (List Nat × Van) := if r.ok then wholes r else []
def someE (r : Route) : Int := if r.ok then (if wholes r = [] then 3 else 0) else 80

set_option maxHeartbeats 1000000 in
theorem some61 (r : Route) (g : Gst) : FSpecL Try.prog 61 [r.av, .c (.raw g.fv)] [.guest g ((wholesOf r).map (entW r))] [] (fun res l' => res = iv (someE r) ∧ l' = [.guest g []]) := by
  refine FSpecL_of c61 (by first | simp | exact Nat.le_of_ble_eq_true rfl) (Nat.le_refl _) (by decide) (by decide) fun C hP hN hC hL => ?_; rw [init_env', ownW_upd (by first | simp | exact Nat.le_of_ble_eq_true rfl)]; simp only [ir61, updL, updLo, List.map_nil, List.map_cons, Nat.reduceAdd, Route.av]
  (repeat ((first | refine WV_seq_ ?_ | refine WV_block ?_ | refine WV_ops ?_ | refine WV_skip ?_ | refine WV_exit ?_); (try simp only [go_sem, init_env', Nat.reduceEqDiff, Nat.reduceAdd, Nat.reduceMul, reduceIte, Nat.reduceLeDiff, Nat.reduceLT, Nat.reduceBEq, reduceCtorEq, hP, ]); (repeat (refine And.intro (by first | omega | (intros; simp_all; done) | (intros; simp_all; omega)) ?_))))
  (refine AS_pure (rcheck_spec r) rfl rfl rfl rfl rfl ?_; simp only [go_sem, init_env', Nat.reduceEqDiff, Nat.reduceAdd, Nat.reduceMul, reduceIte, Nat.reduceLeDiff, Nat.reduceLT, Nat.reduceBEq, reduceCtorEq, hP, Route.av]; (repeat (refine And.intro (by first | omega | (intros; simp_all; done) | (intros; simp_all; omega)) ?_)); (repeat ((first | refine WV_seq_ ?_ | refine WV_block ?_ | refine WV_ops ?_ | refine WV_skip ?_ | refine WV_exit ?_); (try simp only [go_sem, init_env', Nat.reduceEqDiff, Nat.reduceAdd, Nat.reduceMul, reduceIte, Nat.reduceLeDiff, Nat.reduceLT, Nat.reduceBEq, reduceCtorEq, hP, Route.av]); (repeat (refine And.intro (by first | omega | (intros; simp_all; done) | (intros; simp_all; omega)) ?_)))))
  by_cases hok : r.ok = true
  · have hr := Route.ok_spec hok
    rw [show wholesOf r = wholes r from if_pos hok]
    simp only [hok, if_true]
    (refine WV_cond rfl (fun h => ?_) (fun h => ?_))
    · simp at h
    · refine WV_freeze 2 (ds := r.cds) rfl rfl ?_
      (repeat ((first | refine WV_seq_ ?_ | refine WV_block ?_ | refine WV_ops ?_ | refine WV_skip ?_ | refine WV_exit ?_); (try simp only [go_sem, init_env', Nat.reduceEqDiff, Nat.reduceAdd, Nat.reduceMul, reduceIte, Nat.reduceLeDiff, Nat.reduceLT, Nat.reduceBEq, reduceCtorEq, hP, ]); (repeat (refine And.intro (by first | omega | (intros; simp_all; done) | (intros; simp_all; omega)) ?_))))
      refine AS_lend [1000] (whole50 hr g) rfl rfl rfl (by decide) ?_ ?_ ?_
      · simp only [go_sem, init_env', Nat.reduceEqDiff, Nat.reduceAdd, Nat.reduceMul, reduceIte, Nat.reduceLeDiff, Nat.reduceLT, Nat.reduceBEq, reduceCtorEq, AV.lendL, AV.lend, Route.cds]
      · simp only [go_sem, init_env', Nat.reduceEqDiff, Nat.reduceAdd, Nat.reduceMul, reduceIte, Nat.reduceLeDiff, Nat.reduceLT, Nat.reduceBEq, reduceCtorEq, obsLend, Ob.lend, AV.lendL, AV.lend]
      · rintro res l' ⟨rfl, rfl⟩
        refine ⟨_, _, rfl, rfl, ?_⟩
        simp only [go_sem, init_env', Nat.reduceEqDiff, Nat.reduceAdd, Nat.reduceMul, reduceIte, Nat.reduceLeDiff, Nat.reduceLT, Nat.reduceBEq, reduceCtorEq, ownBack]
        (repeat ((first | refine WV_seq_ ?_ | refine WV_block ?_ | refine WV_ops ?_ | refine WV_skip ?_ | refine WV_exit ?_); (try simp only [go_sem, init_env', Nat.reduceEqDiff, Nat.reduceAdd, Nat.reduceMul, reduceIte, Nat.reduceLeDiff, Nat.reduceLT, Nat.reduceBEq, reduceCtorEq, hP, ]); (repeat (refine And.intro (by first | omega | (intros; simp_all; done) | (intros; simp_all; omega)) ?_))))
        (refine WV_cond rfl (fun h => ?_) (fun h => ?_))
        · have hw : wholes r = [] := by simpa using h
          (repeat ((first | refine WV_seq_ ?_ | refine WV_block ?_ | refine WV_ops ?_ | refine WV_skip ?_ | refine WV_exit ?_); (try simp only [go_sem, init_env', Nat.reduceEqDiff, Nat.reduceAdd, Nat.reduceMul, reduceIte, Nat.reduceLeDiff, Nat.reduceLT, Nat.reduceBEq, reduceCtorEq, hP, ]); (repeat (refine And.intro (by first | omega | (intros; simp_all; done) | (intros; simp_all; omega)) ?_))))
          (refine WV_ret ?_; simp only [thenQ, inQ, RetQL, RetOkL, resAll, resA]; simp only [go_sem, init_env', Nat.reduceEqDiff, Nat.reduceAdd, Nat.reduceMul, reduceIte, Nat.reduceLeDiff, Nat.reduceLT, Nat.reduceBEq, reduceCtorEq, tupA, AV.keepP, AV.keepPL]; refine ⟨_, [.guest g []], rfl, KeepL_mk rfl rfl ?_ ?_ rfl, ?_⟩)
          · simp only [go_sem, init_env', Nat.reduceEqDiff, Nat.reduceAdd, Nat.reduceMul, reduceIte, Nat.reduceLeDiff, Nat.reduceLT, Nat.reduceBEq, reduceCtorEq, keepAll, Ob.keepP]
          · trivial
          · simp [someE, hok, hw]
        · have hw : wholes r ≠ [] := by intro e; rw [e] at h; simp at h
          (repeat ((first | refine WV_seq_ ?_ | refine WV_block ?_ | refine WV_ops ?_ | refine WV_skip ?_ | refine WV_exit ?_); (try simp only [go_sem, init_env', Nat.reduceEqDiff, Nat.reduceAdd, Nat.reduceMul, reduceIte, Nat.reduceLeDiff, Nat.reduceLT, Nat.reduceBEq, reduceCtorEq, hP, ]); (repeat (refine And.intro (by first | omega | (intros; simp_all; done) | (intros; simp_all; omega)) ?_))))
          (refine WV_ret ?_; simp only [thenQ, inQ, RetQL, RetOkL, resAll, resA]; simp only [go_sem, init_env', Nat.reduceEqDiff, Nat.reduceAdd, Nat.reduceMul, reduceIte, Nat.reduceLeDiff, Nat.reduceLT, Nat.reduceBEq, reduceCtorEq, tupA, AV.keepP, AV.keepPL]; refine ⟨_, [.guest g []], rfl, KeepL_mk rfl rfl ?_ ?_ rfl, ?_⟩)
          · simp only [go_sem, init_env', Nat.reduceEqDiff, Nat.reduceAdd, Nat.reduceMul, reduceIte, Nat.reduceLeDiff, Nat.reduceLT, Nat.reduceBEq, reduceCtorEq, keepAll, Ob.keepP]
          · trivial
          · simp [someE, hok, hw]
  · have hok : r.ok = false := by simpa using hok
    rw [show wholesOf r = [] from by simp [wholesOf, hok]]
    simp only [hok, Bool.false_eq_true, if_false]
    (refine WV_cond rfl (fun h => ?_) (fun h => ?_))
    · (repeat ((first | refine WV_seq_ ?_ | refine WV_block ?_ | refine WV_ops ?_ | refine WV_skip ?_ | refine WV_exit ?_); (try simp only [go_sem, init_env', Nat.reduceEqDiff, Nat.reduceAdd, Nat.reduceMul, reduceIte, Nat.reduceLeDiff, Nat.reduceLT, Nat.reduceBEq, reduceCtorEq, hP, ]); (repeat (refine And.intro (by first | omega | (intros; simp_all; done) | (intros; simp_all; omega)) ?_))))
      (refine WV_ret ?_; simp only [thenQ, inQ, RetQL, RetOkL, resAll, resA]; simp only [go_sem, init_env', Nat.reduceEqDiff, Nat.reduceAdd, Nat.reduceMul, reduceIte, Nat.reduceLeDiff, Nat.reduceLT, Nat.reduceBEq, reduceCtorEq, tupA, AV.keepP, AV.keepPL]; refine ⟨_, [.guest g []], rfl, KeepL_mk rfl rfl ?_ ?_ rfl, ?_⟩)
      · simp only [go_sem, init_env', Nat.reduceEqDiff, Nat.reduceAdd, Nat.reduceMul, reduceIte, Nat.reduceLeDiff, Nat.reduceLT, Nat.reduceBEq, reduceCtorEq, keepAll, Ob.keepP]
      · trivial
      · simp [someE, hok]
    · simp at h
end Go.Proofs.Ytbejgfpaokcnpaa

namespace Go.Proofs.Ytbejgfpaokcnpaa
open Go Go.V
@[reducible] def o62_0 : List Ins := [⟨(some 4), .box 4 (.t 1), none, true⟩]
@[reducible] def o62_1 : List Ins := [⟨(some 5), .ld true 1 (.t 2), none, true⟩,
  ⟨(some 6), .bin .lss (.t 5) (.k (.c (.int .i64 0))), none, true⟩,
  ⟨(some 7), .mv (.t 6), none, true⟩,
  ⟨(some 8), .fa 2 (.t 4), (some (7, false)), true⟩,
  ⟨(some 9), .ld true 1 (.t 8), (some (7, false)), true⟩,
  ⟨(some 10), .ld true 1 (.t 2), (some (7, false)), true⟩,
  ⟨(some 11), .bin .lss (.t 9) (.t 10), (some (7, false)), true⟩,
  ⟨(some 12), .pick (.t 7) (.k (.c (.bool true))) (.t 11), none, true⟩]
@[reducible] def o62_2 : List Ins := [⟨(some 13), .fa 2 (.t 4), none, true⟩,
  ⟨(some 14), .ld true 1 (.t 13), none, true⟩,
  ⟨none, .st 1 (.t 2) (.t 14), none, true⟩]
@[reducible] def v62_3 : VC := (.cond (.t 12) (.ops o62_2) .skip)
@[reducible] def v62_4 : VC := (.seq (.ops o62_1) v62_3)
def ir62 : FC := ⟨3, 15, [], (.seq (.ops o62_0) v62_4)⟩
@[reducible] def o35_0 : List Ins := [⟨(some 1), .box 3 (.t 0), none, true⟩,
  ⟨(some 2), .mv (.k (.c (.int .i64 0))), none, true⟩,
  ⟨(some 3), .mv (.k (.c (.int .i64 0))), none, true⟩]
@[reducible] def o35_1 : List Ins := [⟨(some 4), .alloc [(.c (.int .i64 0))], none, true⟩,
  ⟨none, .st 1 (.t 4) (.k (.c (.int .i64 (-1)))), none, true⟩]
@[reducible] def o35_2 : List Ins := [⟨(some 6), .ld false 3 (.t 1), none, true⟩,
  ⟨(some 7), .mkfn 62 [(.t 4)], none, true⟩,
  ⟨(some 8), .call (.k (.fn 61 [])) [(.t 6), (.t 7)], none, true⟩,
  ⟨(some 5), .mv (.t 8), none, true⟩]
@[reducible] def o35_3 : List Ins := [⟨(some 9), .mv (.t 5), none, true⟩,
  ⟨(some 10), .bin .neq (.t 9) (.k (.c (.int .i64 0))), none, true⟩]
@[reducible] def o35_4 : List Ins := [⟨(some 11), .mv (.t 5), none, true⟩,
  ⟨(some 2), .mv (.k (.c (.int .i64 0))), none, true⟩,
  ⟨(some 3), .mv (.t 11), none, true⟩]
@[reducible] def v35_5 : VC := (.seq (.ops o35_4) .ret)
@[reducible] def v35_6 : VC := (.cond (.t 10) v35_5 .skip)
@[reducible] def v35_7 : VC := (.seq (.ops o35_3) v35_6)
@[reducible] def o35_8 : List Ins := [⟨(some 12), .ld true 1 (.t 4), none, true⟩,
  ⟨(some 2), .mv (.t 12), none, true⟩,
  ⟨(some 3), .mv (.k (.c (.int .i64 0))), none, true⟩]
@[reducible] def v35_9 : VC := (.seq (.ops o35_8) .ret)
@[reducible] def v35_10 : VC := (.seq (.seq (.ops o35_2) v35_7) v35_9)
@[reducible] def v35_11 : VC := (.seq (.ops o35_1) v35_10)
def ir35 : FC := ⟨1, 13, [.t 2, .t 3], (.seq (.ops o35_0) v35_11)⟩
theorem c62 : compM Try.prog [] 62 = some ir62 := by kernel_rfl
theorem c35 : compM Try.prog [] 35 = some ir35 := by kernel_rfl



/-- The least so far; below 0: none. -/
def lessS (b n : Int) : Int := if b < 0 ∨ n < b then n else b
def leastS (l : List Int) : Int := l.foldl lessS (-1)
theorem leastS_snoc (l : List Int) (n : Int) : leastS (l ++ [n]) = lessS (leastS l) n := by simp [leastS]

set_option maxHeartbeats 1000000 in
theorem soon62 (r : Route) (v : Van) (b : Int) (t : List Nat) : FSpecL Try.prog 62 [.vw 1 2000 0 t.length r.n, vanv r v, .bp 1000 0] [.box [iv b]] [cellsT t] (fun res l' => res = .tup [] ∧ l' = [.box [iv (lessS b v.now)]]) := by
  have hprg : ∀ d, AV.prgL d (cellsT t) = cellsT t := fun d => prgL_pure d (cellsT_pure _)
  refine FSpecL_of c62 (by first | simp | exact Nat.le_of_ble_eq_true rfl) (Nat.le_refl _) (by decide) (by decide) fun C hP hN hC hL => ?_; rw [init_env', ownW_upd (by first | simp | exact Nat.le_of_ble_eq_true rfl)]; simp only [ir62, updL, updLo, List.map_nil, List.map_cons, Nat.reduceAdd, vanv]
  (repeat ((first | refine WV_seq_ ?_ | refine WV_block ?_ | refine WV_ops ?_ | refine WV_skip ?_ | refine WV_exit ?_); (try simp only [go_sem, init_env', Nat.reduceEqDiff, Nat.reduceAdd, Nat.reduceMul, reduceIte, Nat.reduceLeDiff, Nat.reduceLT, Nat.reduceBEq, reduceCtorEq, hP, hprg]); (repeat (refine And.intro (by first | omega | (intros; simp_all; done) | (intros; simp_all; omega)) ?_))))
  (refine WV_cond rfl (fun h => ?_) (fun h => ?_))
  · have h : b < 0 ∨ v.now < b := by simpa using h
    have e : lessS b v.now = v.now := if_pos h
    (repeat ((first | refine WV_seq_ ?_ | refine WV_block ?_ | refine WV_ops ?_ | refine WV_skip ?_ | refine WV_exit ?_); (try simp only [go_sem, init_env', Nat.reduceEqDiff, Nat.reduceAdd, Nat.reduceMul, reduceIte, Nat.reduceLeDiff, Nat.reduceLT, Nat.reduceBEq, reduceCtorEq, hP, hprg]); (repeat (refine And.intro (by first | omega | (intros; simp_all; done) | (intros; simp_all; omega)) ?_))))
    ((try simp only [thenQ, inQ, RetQL, RetOkL, resAll, resA]); (try simp only [go_sem, init_env', Nat.reduceEqDiff, Nat.reduceAdd, Nat.reduceMul, reduceIte, Nat.reduceLeDiff, Nat.reduceLT, Nat.reduceBEq, reduceCtorEq, tupA, AV.keepP, AV.keepPL]); refine ⟨_, [.box [iv (lessS b v.now)]], rfl, KeepL_mk rfl rfl ?_ ?_ rfl, ?_⟩)
    · simp only [go_sem, init_env', Nat.reduceEqDiff, Nat.reduceAdd, Nat.reduceMul, reduceIte, Nat.reduceLeDiff, Nat.reduceLT, Nat.reduceBEq, reduceCtorEq, keepAll, Ob.keepP, AV.keepP, AV.keepPL, e]
    · simp only [go_sem, init_env', Nat.reduceEqDiff, Nat.reduceAdd, Nat.reduceMul, reduceIte, Nat.reduceLeDiff, Nat.reduceLT, Nat.reduceBEq, reduceCtorEq, winAll]
    · exact ⟨rfl, rfl⟩
  · have h : ¬ (b < 0 ∨ v.now < b) := by simpa using h
    have e : lessS b v.now = b := if_neg h
    (repeat ((first | refine WV_seq_ ?_ | refine WV_block ?_ | refine WV_ops ?_ | refine WV_skip ?_ | refine WV_exit ?_); (try simp only [go_sem, init_env', Nat.reduceEqDiff, Nat.reduceAdd, Nat.reduceMul, reduceIte, Nat.reduceLeDiff, Nat.reduceLT, Nat.reduceBEq, reduceCtorEq, hP, hprg]); (repeat (refine And.intro (by first | omega | (intros; simp_all; done) | (intros; simp_all; omega)) ?_))))
    ((try simp only [thenQ, inQ, RetQL, RetOkL, resAll, resA]); (try simp only [go_sem, init_env', Nat.reduceEqDiff, Nat.reduceAdd, Nat.reduceMul, reduceIte, Nat.reduceLeDiff, Nat.reduceLT, Nat.reduceBEq, reduceCtorEq, tupA, AV.keepP, AV.keepPL]); refine ⟨_, [.box [iv (lessS b v.now)]], rfl, KeepL_mk rfl rfl ?_ ?_ rfl, ?_⟩)
    · simp only [go_sem, init_env', Nat.reduceEqDiff, Nat.reduceAdd, Nat.reduceMul, reduceIte, Nat.reduceLeDiff, Nat.reduceLT, Nat.reduceBEq, reduceCtorEq, keepAll, Ob.keepP, AV.keepP, AV.keepPL, e]
    · simp only [go_sem, init_env', Nat.reduceEqDiff, Nat.reduceAdd, Nat.reduceMul, reduceIte, Nat.reduceLeDiff, Nat.reduceLT, Nat.reduceBEq, reduceCtorEq, winAll]
    · exact ⟨rfl, rfl⟩

def soonS (r : Route) : Int × Int := if someE r = 0 then (leastS ((wholes r).map fun p => (atHome r p).now), 0) else (0, someE r)
def soonF (r : Route) (pre : List (List Nat × Van)) : List Ob := [.box [iv (leastS (pre.map fun p => (atHome r p).now))]]
theorem someE_ok {r : Route} (h : someE r = 0) : r.ok = true ∧ wholes r ≠ [] := by
  unfold someE at h
  cases hk : r.ok with
  | false => rw [hk] at h; simp at h
  | true => rw [hk] at h; refine ⟨rfl, fun e => ?_⟩; rw [e] at h; simp at h

set_option maxHeartbeats 1000000 in
theorem soon35 (r : Route) : FSpec Try.prog 35 [r.av] (.tup [iv (soonS r).1, iv (soonS r).2]) := by
  refine FSpec_of c35 (Nat.le_refl _) (by decide) fun C hP hN hC hL => ?_
  simp only [ir35, Route.av]
  (repeat ((first | refine WV_seq_ ?_ | refine WV_block ?_ | refine WV_ops ?_ | refine WV_skip ?_ | refine WV_exit ?_); (try simp only [go_sem, init_env', Nat.reduceEqDiff, Nat.reduceAdd, Nat.reduceMul, reduceIte, Nat.reduceLeDiff, Nat.reduceLT, Nat.reduceBEq, reduceCtorEq, hP, ]); (repeat (refine And.intro (by first | omega | (intros; simp_all; done) | (intros; simp_all; omega)) ?_))))
  · refine AS_clos [4] [r.av] [] (l := soonF r []) (lf := soonF r (wholesOf r)) (r := iv (someE r)) (some61 r) rfl rfl rfl (by decide) (by decide) rfl rfl rfl rfl ?_ (soon62 r (leave r) 0 []).1 ?_ rfl ?_
    · simp only [go_sem, init_env', Nat.reduceEqDiff, Nat.reduceAdd, Nat.reduceMul, reduceIte, Nat.reduceLeDiff, Nat.reduceLT, Nat.reduceBEq, reduceCtorEq, obsLend, Ob.lend, AV.lendL, AV.lend, soonF, leastS, List.foldl_nil]
    · refine Run_pre (entW r) (soonF r) (wholesOf r) (fun p => rfl) (fun t _ => rfl) (fun pre p post hts => ?_) _ [] rfl
      have := soon62 r (atHome r p) (leastS (pre.map fun p => (atHome r p).now)) p.1
      simp only [soonF, List.map_append, List.map_cons, List.map_nil, leastS_snoc]
      exact this
    · refine ⟨_, rfl, rfl, ?_⟩
      simp only [go_sem, init_env', Nat.reduceEqDiff, Nat.reduceAdd, Nat.reduceMul, reduceIte, Nat.reduceLeDiff, Nat.reduceLT, Nat.reduceBEq, reduceCtorEq, ownBack]
      (repeat ((first | refine WV_seq_ ?_ | refine WV_block ?_ | refine WV_ops ?_ | refine WV_skip ?_ | refine WV_exit ?_); (try simp only [go_sem, init_env', Nat.reduceEqDiff, Nat.reduceAdd, Nat.reduceMul, reduceIte, Nat.reduceLeDiff, Nat.reduceLT, Nat.reduceBEq, reduceCtorEq, hP, ]); (repeat (refine And.intro (by first | omega | (intros; simp_all; done) | (intros; simp_all; omega)) ?_))))
      (refine WV_cond rfl (fun h => ?_) (fun h => ?_))
      · have h : someE r ≠ 0 := by simpa using h
        (repeat ((first | refine WV_seq_ ?_ | refine WV_block ?_ | refine WV_ops ?_ | refine WV_skip ?_ | refine WV_exit ?_); (try simp only [go_sem, init_env', Nat.reduceEqDiff, Nat.reduceAdd, Nat.reduceMul, reduceIte, Nat.reduceLeDiff, Nat.reduceLT, Nat.reduceBEq, reduceCtorEq, hP, ]); (repeat (refine And.intro (by first | omega | (intros; simp_all; done) | (intros; simp_all; omega)) ?_))))
        (refine WV_ret ?_; simp only [thenQ, inQ, RetQ, RetOk, resAll, resA]; simp only [go_sem, init_env', Nat.reduceEqDiff, Nat.reduceAdd, Nat.reduceMul, reduceIte, Nat.reduceLeDiff, Nat.reduceLT, Nat.reduceBEq, reduceCtorEq, tupA, AV.port, AV.portL, exists_eq_left', ]; (first | exact AVle.of rfl | refine AVle.of ?_ | skip))
        simp [soonS, h]
      · have h : someE r = 0 := by simpa using h
        (repeat ((first | refine WV_seq_ ?_ | refine WV_block ?_ | refine WV_ops ?_ | refine WV_skip ?_ | refine WV_exit ?_); (try simp only [go_sem, init_env', Nat.reduceEqDiff, Nat.reduceAdd, Nat.reduceMul, reduceIte, Nat.reduceLeDiff, Nat.reduceLT, Nat.reduceBEq, reduceCtorEq, hP, ]); (repeat (refine And.intro (by first | omega | (intros; simp_all; done) | (intros; simp_all; omega)) ?_))))
        (refine WV_ret ?_; simp only [thenQ, inQ, RetQ, RetOk, resAll, resA]; simp only [go_sem, init_env', Nat.reduceEqDiff, Nat.reduceAdd, Nat.reduceMul, reduceIte, Nat.reduceLeDiff, Nat.reduceLT, Nat.reduceBEq, reduceCtorEq, tupA, AV.port, AV.portL, exists_eq_left', ]; (first | exact AVle.of rfl | refine AVle.of ?_ | skip))
        simp [soonS, h, wholesOf, (someE_ok h).1]
end Go.Proofs.Ytbejgfpaokcnpaa

namespace Go.Proofs.Ytbejgfpaokcnpaa
open Go Go.V
@[reducible] def o52_0 : List Ins := [⟨(some 4), .mv (.k (.c (.int .i64 0))), none, true⟩]
@[reducible] def o52_1 : List Ins := [⟨(some 5), .mv (.k (.c (.int .i64 1440))), none, true⟩]
@[reducible] def o52_2 : List Ins := [⟨(some 8), .mv (.t 1), none, true⟩,
  ⟨(some 9), .len (.t 8), none, true⟩,
  ⟨(some 10), .bin .sub (.t 9) (.k (.c (.int .i64 1))), none, true⟩,
  ⟨(some 6), .mv (.t 10), none, true⟩]
@[reducible] def o52_3 : List Ins := [⟨(some 11), .mv (.t 6), none, true⟩,
  ⟨(some 12), .bin .geq (.t 11) (.k (.c (.int .i64 0))), none, true⟩]
@[reducible] def v52_4 : VC := (.cond (.t 12) .skip (.exit 0))
@[reducible] def o52_5 : List Ins := [⟨(some 15), .mv (.t 0), none, false⟩,
  ⟨(some 16), .nilc (.t 15), none, false⟩,
  ⟨(some 17), .fa 0 (.t 16), none, false⟩,
  ⟨(some 18), .ld true 1 (.t 17), none, false⟩,
  ⟨(some 19), .mv (.t 1), none, false⟩,
  ⟨(some 20), .mv (.t 6), none, false⟩,
  ⟨(some 21), .ia 1 (.t 19) (.t 20), none, false⟩,
  ⟨(some 22), .ld true 1 (.t 21), none, false⟩,
  ⟨(some 23), .ia 4 (.t 18) (.t 22), none, false⟩,
  ⟨(some 24), .ld false 4 (.t 23), none, false⟩,
  ⟨(some 7), .alloc [(.c (.int .i64 0)), (.c (.int .i64 0)), (.c (.int .i64 0)), (.c (.int .i64 0))], none, false⟩,
  ⟨none, .st 4 (.t 7) (.t 24), none, true⟩]
@[reducible] def o52_6 : List Ins := [⟨(some 25), .mv (.t 6), none, true⟩,
  ⟨(some 26), .mv (.t 1), none, true⟩,
  ⟨(some 27), .len (.t 26), none, true⟩,
  ⟨(some 28), .bin .sub (.t 27) (.k (.c (.int .i64 1))), none, true⟩,
  ⟨(some 29), .bin .eql (.t 25) (.t 28), none, true⟩]
@[reducible] def o52_7 : List Ins := [⟨(some 30), .fa 1 (.t 7), none, true⟩,
  ⟨(some 31), .ld true 1 (.t 30), none, true⟩,
  ⟨(some 5), .mv (.t 31), none, true⟩]
@[reducible] def o52_8 : List Ins := [⟨(some 32), .fa 1 (.t 7), none, false⟩,
  ⟨(some 33), .ld true 1 (.t 32), none, false⟩,
  ⟨(some 34), .mv (.t 5), none, false⟩,
  ⟨(some 35), .mv (.t 0), none, false⟩,
  ⟨(some 36), .nilc (.t 35), none, false⟩,
  ⟨(some 37), .fa 1 (.t 36), none, false⟩,
  ⟨(some 38), .ld true 1 (.t 37), none, false⟩,
  ⟨(some 39), .mv (.t 1), none, false⟩,
  ⟨(some 40), .mv (.t 6), none, false⟩,
  ⟨(some 41), .ia 1 (.t 39) (.t 40), none, false⟩,
  ⟨(some 42), .ld true 1 (.t 41), none, false⟩,
  ⟨(some 43), .ia 1 (.t 38) (.t 42), none, false⟩,
  ⟨(some 44), .ld true 1 (.t 43), none, false⟩,
  ⟨(some 45), .mv (.t 1), none, false⟩,
  ⟨(some 46), .mv (.t 6), none, false⟩,
  ⟨(some 47), .bin .add (.t 46) (.k (.c (.int .i64 1))), none, false⟩,
  ⟨(some 48), .ia 1 (.t 45) (.t 47), none, false⟩,
  ⟨(some 49), .ld true 1 (.t 48), none, false⟩,
  ⟨(some 50), .ia 1 (.t 44) (.t 49), none, false⟩,
  ⟨(some 51), .ld true 1 (.t 50), none, false⟩,
  ⟨(some 52), .bin .sub (.t 34) (.t 51), none, false⟩,
  ⟨(some 53), .fa 2 (.t 7), none, false⟩,
  ⟨(some 54), .ld true 1 (.t 53), none, false⟩,
  ⟨(some 55), .bin .sub (.t 52) (.t 54), none, false⟩,
  ⟨(some 56), .mm false (.t 33) (.t 55), none, true⟩,
  ⟨(some 5), .mv (.t 56), none, true⟩]
@[reducible] def o52_9 : List Ins := [⟨(some 57), .mv (.t 5), none, true⟩,
  ⟨(some 58), .fa 0 (.t 7), none, true⟩,
  ⟨(some 59), .ld true 1 (.t 58), none, true⟩,
  ⟨(some 60), .bin .lss (.t 57) (.t 59), none, true⟩]
@[reducible] def o52_10 : List Ins := [⟨(some 4), .mv (.k (.c (.int .i64 (-1)))), none, true⟩]
@[reducible] def v52_11 : VC := (.seq (.ops o52_10) .ret)
@[reducible] def v52_12 : VC := (.cond (.t 60) v52_11 .skip)
@[reducible] def v52_13 : VC := (.seq (.ops o52_9) v52_12)
@[reducible] def v52_14 : VC := (.seq (.ops o52_8) v52_13)
@[reducible] def v52_15 : VC := (.cond (.t 29) (.ops o52_7) v52_14)
@[reducible] def v52_16 : VC := (.seq (.ops o52_6) v52_15)
@[reducible] def v52_17 : VC := (.seq (.ops o52_5) v52_16)
@[reducible] def o52_18 : List Ins := [⟨(some 13), .mv (.t 6), none, true⟩,
  ⟨(some 14), .bin .sub (.t 13) (.k (.c (.int .i64 1))), none, true⟩,
  ⟨(some 6), .mv (.t 14), none, true⟩]
@[reducible] def v52_19 : VC := (.seq (.block 1 v52_17) (.ops o52_18))
@[reducible] def v52_20 : VC := (.seq (.seq (.ops o52_3) v52_4) v52_19)
-- K52_1: changed and kept: [6, 5]
@[reducible] def K52_1 : List Nat := [0, 1]
@[reducible] def v52_21 : VC := (.loop v52_20)
@[reducible] def v52_22 : VC := (.block 0 v52_21)
@[reducible] def o52_23 : List Ins := [⟨(some 61), .mv (.t 1), none, true⟩,
  ⟨(some 62), .len (.t 61), none, true⟩,
  ⟨(some 63), .bin .gtr (.t 62) (.k (.c (.int .i64 0))), none, true⟩]
@[reducible] def o52_24 : List Ins := [⟨(some 64), .mv (.t 5), none, false⟩,
  ⟨(some 65), .mv (.t 0), none, false⟩,
  ⟨(some 66), .nilc (.t 65), none, false⟩,
  ⟨(some 67), .fa 1 (.t 66), none, false⟩,
  ⟨(some 68), .ld true 1 (.t 67), none, false⟩,
  ⟨(some 69), .mv (.t 0), none, false⟩,
  ⟨(some 70), .nilc (.t 69), none, false⟩,
  ⟨(some 71), .fa 0 (.t 70), none, false⟩,
  ⟨(some 72), .ld true 1 (.t 71), none, false⟩,
  ⟨(some 73), .len (.t 72), none, false⟩,
  ⟨(some 74), .ia 1 (.t 68) (.t 73), none, false⟩,
  ⟨(some 75), .ld true 1 (.t 74), none, false⟩,
  ⟨(some 76), .mv (.t 1), none, false⟩,
  ⟨(some 77), .ia 1 (.t 76) (.k (.c (.int .i64 0))), none, false⟩,
  ⟨(some 78), .ld true 1 (.t 77), none, false⟩,
  ⟨(some 79), .ia 1 (.t 75) (.t 78), none, false⟩,
  ⟨(some 80), .ld true 1 (.t 79), none, false⟩,
  ⟨(some 81), .bin .sub (.t 64) (.t 80), none, true⟩,
  ⟨(some 82), .mm false (.k (.c (.int .i64 1440))) (.t 81), none, true⟩,
  ⟨(some 5), .mv (.t 82), none, true⟩]
@[reducible] def v52_25 : VC := (.cond (.t 63) (.ops o52_24) .skip)
@[reducible] def o52_26 : List Ins := [⟨(some 83), .mv (.t 5), none, true⟩,
  ⟨(some 4), .mv (.t 83), none, true⟩]
@[reducible] def v52_27 : VC := (.seq (.ops o52_26) .ret)
@[reducible] def v52_28 : VC := (.seq (.seq (.ops o52_23) v52_25) v52_27)
@[reducible] def v52_29 : VC := (.seq (.seq (.ops o52_2) v52_22) v52_28)
@[reducible] def v52_30 : VC := (.seq (.ops o52_1) v52_29)
def ir52 : FC := ⟨2, 84, [.t 4], (.seq (.ops o52_0) v52_30)⟩
theorem c52 : compM Try.prog [] 52 = some ir52 := by kernel_rfl



/-- The latest minute in which the first visit can begin; none: there is none. -/
def backL (r : Route) : List Nat → Option Int
  | [] => some 1440
  | [k] => some (r.s k).cl
  | k :: k' :: ks => match backL r (k' :: ks) with
    | none => none
    | some b => if min (r.s k).cl (b - r.d k k' - (r.s k).st) < (r.s k).op then none else some (min (r.s k).cl (b - r.d k k' - (r.s k).st))
def leavesS (r : Route) (t : List Nat) : Int := match backL r t with
  | none => -1
  | some b => match t with
    | [] => b
    | k :: _ => min 1440 (b - r.d r.n k)
theorem backL_some {r : Route} (hr : RouteOk r) : ∀ (t : List Nat) (b : Int), (∀ k ∈ t, k < r.n) → backL r t = some b → 0 ≤ b ∧ b ≤ 1440
  | [], b, _, h => by simp [backL] at h; omega
  | [k], b, hk, h => by
    have := hr.stop k (hk k (by simp))
    simp [backL] at h; omega
  | k :: k' :: ks, b, hk, h => by
    have hs := hr.stop k (hk k (by simp))
    simp only [backL] at h
    split at h
    · cases h
    · split at h
      · cases h
      · simp only [Option.some.injEq] at h
        omega
theorem backL_none {r : Route} : ∀ (t u : List Nat), u ≠ [] → backL r u = none → backL r (t ++ u) = none
  | [], u, _, h => h
  | [k], u :: us, _, h => by simp [backL, h]
  | k :: k' :: ks, u, hu, h => by
    have := backL_none (k' :: ks) u hu h
    simp only [List.cons_append] at this ⊢
    simp only [backL, this]

set_option maxHeartbeats 4000000 in
theorem leaves52 {r : Route} (hr : RouteOk r) {t : List Nat} (ht : ∀ k ∈ t, k < r.n) (hlen : t.length ≤ 20) : FSpec Try.prog 52 [.c (.pt r.cds), .c (nats t)] (iv (leavesS r t)) := by
  refine FSpec_of c52 (Nat.le_refl _) (by decide) fun C hP hN hC hL => ?_
  have hn7 := hr.n7
  simp only [ir52, nats]
  (repeat ((first | refine WV_seq_ ?_ | refine WV_block ?_ | refine WV_ops ?_ | refine WV_skip ?_ | refine WV_exit ?_); (try simp only [go_sem, init_env', Nat.reduceEqDiff, Nat.reduceAdd, Nat.reduceMul, reduceIte, Nat.reduceLeDiff, Nat.reduceLT, Nat.reduceBEq, reduceCtorEq, hP, ints]); (repeat (refine And.intro (by first | omega | (intros; simp_all; done) | (intros; simp_all; omega)) ?_))))
  rw [w64 (by omega) (by omega)]
  (repeat ((first | refine WV_seq_ ?_ | refine WV_block ?_ | refine WV_ops ?_ | refine WV_skip ?_ | refine WV_exit ?_); (try simp only [go_sem, init_env', Nat.reduceEqDiff, Nat.reduceAdd, Nat.reduceMul, reduceIte, Nat.reduceLeDiff, Nat.reduceLT, Nat.reduceBEq, reduceCtorEq, hP, ]); (repeat (refine And.intro (by first | omega | (intros; simp_all; done) | (intros; simp_all; omega)) ?_))))
  refine WV_loopK K52_1 [] (fun s : Nat × Int => s.1 ≤ t.length ∧ backL r (t.drop s.1) = some s.2) (fun s => s.1) (fun s => [(6, iv ((s.1 : Int) - 1)), (5, iv s.2)]) (fun _ => []) (t.length, 1440) ⟨Nat.le_refl _, by simp [backL]⟩ ?_ ?_
  · (refine Sub_of (by simp only [go_sem, init_env', Nat.reduceEqDiff, Nat.reduceAdd, Nat.reduceMul, reduceIte, Nat.reduceLeDiff, Nat.reduceLT, Nat.reduceBEq, reduceCtorEq]; ((repeat' (first | exact EnvLe_e0 _ _ | refine EnvLe_upd ?_ ?_)) <;> ((try simp only [upd_app, e0_app, o0_app, Nat.reduceEqDiff, reduceIte]); first | exact AWk.refl _ _ | exact AWk.int (by omega) | exact AWk.int (by rw [w64 (by omega) (by omega)]; omega) | exact AWk.grow rfl | exact AWk.nil _ | exact AWk.of (by simp)))) (by simp only [go_sem, init_env', Nat.reduceEqDiff, Nat.reduceAdd, Nat.reduceMul, reduceIte, Nat.reduceLeDiff, Nat.reduceLT, Nat.reduceBEq, reduceCtorEq]; (first | ((repeat' (first | exact ObjLe_o0 _ | exact ObjLe.rfl' _ | refine ObjLe_same ?_ | refine ObjLe_upd ?_ ?_ | refine ObjLe_new rfl ?_)) <;> rfl) | (refine ObjLe_X ?_; (repeat' (first | exact ObjLeX_o0 _ _ | refine ObjLeX_skip rfl ?_ | refine ObjLeX_upd ?_ ?_)) <;> rfl))))
  · rintro ⟨m, b⟩ ⟨hm, hb⟩
    simp only at hm hb
    have hbd := backL_some hr _ _ (fun k hk => ht k (List.mem_of_mem_drop hk)) hb
    simp only [go_sem, init_env', Nat.reduceEqDiff, Nat.reduceAdd, Nat.reduceMul, reduceIte, Nat.reduceLeDiff, Nat.reduceLT, Nat.reduceBEq, reduceCtorEq]
    (repeat ((first | refine WV_seq_ ?_ | refine WV_block ?_ | refine WV_ops ?_ | refine WV_skip ?_ | refine WV_exit ?_); (try simp only [go_sem, init_env', Nat.reduceEqDiff, Nat.reduceAdd, Nat.reduceMul, reduceIte, Nat.reduceLeDiff, Nat.reduceLT, Nat.reduceBEq, reduceCtorEq, hP, ]); (repeat (refine And.intro (by first | omega | (intros; simp_all; done) | (intros; simp_all; omega)) ?_))))
    (refine WV_cond rfl (fun h => ?_) (fun h => ?_))
    · obtain ⟨k, rfl⟩ : ∃ k, m = k + 1 := by
        cases m with
        | zero => simp at h
        | succ k => exact ⟨k, rfl⟩
      have hkt : k < t.length := by omega
      have hkn : t[k] < r.n := ht _ (List.getElem_mem hkt)
      have hd1 : t[k] < r.stops.length := hkn
      have e1 : r.stops[t[k]] = r.s t[k] := by simp [Route.s, hd1]
      have hs := hr.stop _ hkn
      have ek : (((k + 1 : Nat) : Int) - 1) = (k : Int) := by omega
      rw [ek]
      clear h
      have hkl : k < (t.map fun (n : Nat) => (n : Int)).length := by simpa using hkt
      (repeat ((first | refine WV_seq_ ?_ | refine WV_block ?_ | refine WV_ops ?_ | refine WV_skip ?_ | refine WV_exit ?_); (try simp only [go_sem, init_env', Nat.reduceEqDiff, Nat.reduceAdd, Nat.reduceMul, reduceIte, Nat.reduceLeDiff, Nat.reduceLT, Nat.reduceBEq, reduceCtorEq, hP, Int.toNat_natCast, map_getD hkl, map_getD hd1, List.getElem_map, Route.cds, stopsC, Stop.cds, e1, Int.ofNat_lt, hkt, hd1, Int.natCast_nonneg]); (repeat (refine And.intro (by first | omega | (intros; simp_all; done) | (intros; simp_all; omega)) ?_))))
      rw [w64 (by omega) (by omega)]
      (repeat ((first | refine WV_seq_ ?_ | refine WV_block ?_ | refine WV_ops ?_ | refine WV_skip ?_ | refine WV_exit ?_); (try simp only [go_sem, init_env', Nat.reduceEqDiff, Nat.reduceAdd, Nat.reduceMul, reduceIte, Nat.reduceLeDiff, Nat.reduceLT, Nat.reduceBEq, reduceCtorEq, hP, ]); (repeat (refine And.intro (by first | omega | (intros; simp_all; done) | (intros; simp_all; omega)) ?_))))
      (refine WV_cond rfl (fun h => ?_) (fun h => ?_))
      · have h : k + 1 = t.length := by simp at h; omega
        have hd : t.drop k = [t[k]] := by rw [List.drop_eq_getElem_cons hkt, h, List.drop_length]
        (repeat ((first | refine WV_seq_ ?_ | refine WV_block ?_ | refine WV_ops ?_ | refine WV_skip ?_ | refine WV_exit ?_); (try simp only [go_sem, init_env', Nat.reduceEqDiff, Nat.reduceAdd, Nat.reduceMul, reduceIte, Nat.reduceLeDiff, Nat.reduceLT, Nat.reduceBEq, reduceCtorEq, hP, ]); (repeat (refine And.intro (by first | omega | (intros; simp_all; done) | (intros; simp_all; omega)) ?_))))
        rw [w64 (by omega) (by omega)]
        (repeat ((first | refine WV_seq_ ?_ | refine WV_block ?_ | refine WV_ops ?_ | refine WV_skip ?_ | refine WV_exit ?_); (try simp only [go_sem, init_env', Nat.reduceEqDiff, Nat.reduceAdd, Nat.reduceMul, reduceIte, Nat.reduceLeDiff, Nat.reduceLT, Nat.reduceBEq, reduceCtorEq, hP, ]); (repeat (refine And.intro (by first | omega | (intros; simp_all; done) | (intros; simp_all; omega)) ?_))))
        refine ⟨(k, (r.s t[k]).cl), ⟨by omega, by rw [hd]; rfl⟩, by simp only; omega, ?_⟩
        (refine Sub_of (by simp only [go_sem, init_env', Nat.reduceEqDiff, Nat.reduceAdd, Nat.reduceMul, reduceIte, Nat.reduceLeDiff, Nat.reduceLT, Nat.reduceBEq, reduceCtorEq]; ((repeat' (first | exact EnvLe_e0 _ _ | refine EnvLe_upd ?_ ?_)) <;> ((try simp only [upd_app, e0_app, o0_app, Nat.reduceEqDiff, reduceIte]); first | exact AWk.refl _ _ | exact AWk.int (by omega) | exact AWk.int (by rw [w64 (by omega) (by omega)]; omega) | exact AWk.grow rfl | exact AWk.nil _ | exact AWk.of (by simp)))) (by simp only [go_sem, init_env', Nat.reduceEqDiff, Nat.reduceAdd, Nat.reduceMul, reduceIte, Nat.reduceLeDiff, Nat.reduceLT, Nat.reduceBEq, reduceCtorEq]; (first | ((repeat' (first | exact ObjLe_o0 _ | exact ObjLe.rfl' _ | refine ObjLe_same ?_ | refine ObjLe_upd ?_ ?_ | refine ObjLe_new rfl ?_)) <;> rfl) | (refine ObjLe_X ?_; (repeat' (first | exact ObjLeX_o0 _ _ | refine ObjLeX_skip rfl ?_ | refine ObjLeX_upd ?_ ?_)) <;> rfl))))
      · have h : k + 1 < t.length := by simp at h; omega
        have hd : t.drop k = t[k] :: t[k + 1] :: t.drop (k + 2) := by rw [List.drop_eq_getElem_cons hkt, List.drop_eq_getElem_cons h]
        have hd' : t.drop (k + 1) = t[k + 1] :: t.drop (k + 2) := by rw [List.drop_eq_getElem_cons h]
        have hkn' : t[k + 1] < r.n := ht _ (List.getElem_mem h)
        have hc := hr.cell t[k] t[k + 1] (by omega) (by omega)
        have hkl' : k + 1 < (t.map fun (n : Nat) => (n : Int)).length := by simpa using h
        have hd2 : t[k] < r.drive.length := by rw [hr.dl]; omega
        have hrow := hr.row t[k] (by omega)
        have e2 : r.drive.getD t[k] [] = r.drive[t[k]] := by simp [hd2]
        rw [e2] at hrow
        have hd3 : t[k + 1] < r.drive[t[k]].length := by omega
        have e3 : r.drive[t[k]][t[k + 1]] = r.d t[k] t[k + 1] := by simp [Route.d, hd2, hd3]
        have hw1 : IntKind.i64.wrap ((k : Int) + 1) = ((k + 1 : Nat) : Int) := by rw [w64 (by omega) (by omega)]; omega
        have hw2 := w64 (n := b - r.d t[k] t[k + 1]) (by omega) (by omega)
        have hw3 := w64 (n := b - r.d t[k] t[k + 1] - (r.s t[k]).st) (by omega) (by omega)
        have hw4 := w64 (n := (k : Int) - 1) (by omega) (by omega)
        (repeat ((first | refine WV_seq_ ?_ | refine WV_block ?_ | refine WV_ops ?_ | refine WV_skip ?_ | refine WV_exit ?_); (try simp only [go_sem, init_env', Nat.reduceEqDiff, Nat.reduceAdd, Nat.reduceMul, reduceIte, Nat.reduceLeDiff, Nat.reduceLT, Nat.reduceBEq, reduceCtorEq, hP, hw1, hw2, hw3, Int.toNat_natCast, map_getD hkl, map_getD hkl', map_getD hd1, map_getD hd2, map_getD hd3, e3, ints, driveC, List.getElem_map, Route.cds, stopsC, Stop.cds, e1, Int.ofNat_lt, hkt, h, hd1, hd2, hd3, Int.natCast_nonneg]); (repeat (refine And.intro (by first | omega | (intros; simp_all; done) | (intros; simp_all; omega)) ?_))))
        (refine WV_cond rfl (fun h => ?_) (fun h => ?_))
        · have h' : min (r.s t[k]).cl (b - r.d t[k] t[k + 1] - (r.s t[k]).st) < (r.s t[k]).op := by simpa using h
          have hbn : backL r (t.drop k) = none := by rw [hd]; rw [hd'] at hb; simp only [backL, hb]; rw [if_pos h']
          have hbt : backL r t = none := by
            have := backL_none (t.take k) (t.drop k) (by intro e; rw [hd] at e; cases e) hbn
            rwa [List.take_append_drop] at this
          have e : leavesS r t = -1 := by simp only [leavesS, hbt]
          rw [e]
          (repeat ((first | refine WV_seq_ ?_ | refine WV_block ?_ | refine WV_ops ?_ | refine WV_skip ?_ | refine WV_exit ?_); (try simp only [go_sem, init_env', Nat.reduceEqDiff, Nat.reduceAdd, Nat.reduceMul, reduceIte, Nat.reduceLeDiff, Nat.reduceLT, Nat.reduceBEq, reduceCtorEq, hP, ]); (repeat (refine And.intro (by first | omega | (intros; simp_all; done) | (intros; simp_all; omega)) ?_))))
          (refine WV_ret ?_; simp only [thenQ, inQ, RetQ, RetOk, resAll, resA]; simp only [go_sem, init_env', Nat.reduceEqDiff, Nat.reduceAdd, Nat.reduceMul, reduceIte, Nat.reduceLeDiff, Nat.reduceLT, Nat.reduceBEq, reduceCtorEq, tupA, AV.port, AV.portL, exists_eq_left', ]; (first | exact AVle.of rfl | refine AVle.of ?_ | skip))
        · have h' : ¬ min (r.s t[k]).cl (b - r.d t[k] t[k + 1] - (r.s t[k]).st) < (r.s t[k]).op := by simpa using h
          have hbn : backL r (t.drop k) = some (min (r.s t[k]).cl (b - r.d t[k] t[k + 1] - (r.s t[k]).st)) := by rw [hd]; rw [hd'] at hb; simp only [backL, hb]; rw [if_neg h']
          (repeat ((first | refine WV_seq_ ?_ | refine WV_block ?_ | refine WV_ops ?_ | refine WV_skip ?_ | refine WV_exit ?_); (try simp only [go_sem, init_env', Nat.reduceEqDiff, Nat.reduceAdd, Nat.reduceMul, reduceIte, Nat.reduceLeDiff, Nat.reduceLT, Nat.reduceBEq, reduceCtorEq, hP, hw4]); (repeat (refine And.intro (by first | omega | (intros; simp_all; done) | (intros; simp_all; omega)) ?_))))
          refine ⟨(k, min (r.s t[k]).cl (b - r.d t[k] t[k + 1] - (r.s t[k]).st)), ⟨by omega, hbn⟩, by simp only; omega, ?_⟩
          (refine Sub_of (by simp only [go_sem, init_env', Nat.reduceEqDiff, Nat.reduceAdd, Nat.reduceMul, reduceIte, Nat.reduceLeDiff, Nat.reduceLT, Nat.reduceBEq, reduceCtorEq]; ((repeat' (first | exact EnvLe_e0 _ _ | refine EnvLe_upd ?_ ?_)) <;> ((try simp only [upd_app, e0_app, o0_app, Nat.reduceEqDiff, reduceIte]); first | exact AWk.refl _ _ | exact AWk.int (by omega) | exact AWk.int (by rw [w64 (by omega) (by omega)]; omega) | exact AWk.grow rfl | exact AWk.nil _ | exact AWk.of (by simp)))) (by simp only [go_sem, init_env', Nat.reduceEqDiff, Nat.reduceAdd, Nat.reduceMul, reduceIte, Nat.reduceLeDiff, Nat.reduceLT, Nat.reduceBEq, reduceCtorEq]; (first | ((repeat' (first | exact ObjLe_o0 _ | exact ObjLe.rfl' _ | refine ObjLe_same ?_ | refine ObjLe_upd ?_ ?_ | refine ObjLe_new rfl ?_)) <;> rfl) | (refine ObjLe_X ?_; (repeat' (first | exact ObjLeX_o0 _ _ | refine ObjLeX_skip rfl ?_ | refine ObjLeX_upd ?_ ?_)) <;> rfl))))
    · have h : m = 0 := by simp at h; omega
      subst h
      simp only [List.drop_zero] at hb
      (repeat ((first | refine WV_seq_ ?_ | refine WV_block ?_ | refine WV_ops ?_ | refine WV_skip ?_ | refine WV_exit ?_); (try simp only [go_sem, init_env', Nat.reduceEqDiff, Nat.reduceAdd, Nat.reduceMul, reduceIte, Nat.reduceLeDiff, Nat.reduceLT, Nat.reduceBEq, reduceCtorEq, hP, ]); (repeat (refine And.intro (by first | omega | (intros; simp_all; done) | (intros; simp_all; omega)) ?_))))
      (refine WV_cond rfl (fun h => ?_) (fun h => ?_))
      · cases t with
        | nil => simp at h
        | cons k ks =>
          have hkn : k < r.n := ht _ (by simp)
          have e : leavesS r (k :: ks) = min 1440 (b - r.d r.n k) := by simp only [leavesS, hb]
          have hc := hr.cell r.n k (by omega) (by omega)
          have hd2 : r.stops.length < r.drive.length := by rw [hr.dl]; exact Nat.lt_succ_self _
          have hrow := hr.row r.n (by omega)
          have e2 : r.drive.getD r.n [] = r.drive[r.stops.length] := by simp [Route.n, hd2]
          rw [e2] at hrow
          have hd3 : k < r.drive[r.stops.length].length := by omega
          have e3 : r.drive[r.stops.length][k] = r.d r.n k := by simp [Route.d, Route.n, hd2, hd3]
          have hw := w64 (n := b - r.d r.n k) (by omega) (by omega)
          rw [e]
          (repeat ((first | refine WV_seq_ ?_ | refine WV_block ?_ | refine WV_ops ?_ | refine WV_skip ?_ | refine WV_exit ?_); (try simp only [go_sem, init_env', Nat.reduceEqDiff, Nat.reduceAdd, Nat.reduceMul, reduceIte, Nat.reduceLeDiff, Nat.reduceLT, Nat.reduceBEq, reduceCtorEq, hP, hw, Int.toNat_natCast, map_getD hd2, map_getD hd3, e3, ints, driveC, Route.cds, stopsC, Int.ofNat_lt, hd2, hd3, Int.natCast_nonneg]); (repeat (refine And.intro (by first | omega | (intros; simp_all; done) | (intros; simp_all; omega)) ?_))))
          simp only [go_sem, init_env', Nat.reduceEqDiff, Nat.reduceAdd, Nat.reduceMul, reduceIte, Nat.reduceLeDiff, Nat.reduceLT, Nat.reduceBEq, reduceCtorEq, hw, Int.toNat_natCast, map_getD hd2, map_getD hd3, e3, ints, driveC, Route.cds, stopsC, Int.ofNat_lt, hd2, hd3, Int.natCast_nonneg]
          (repeat ((first | refine WV_seq_ ?_ | refine WV_block ?_ | refine WV_ops ?_ | refine WV_skip ?_ | refine WV_exit ?_); (try simp only [go_sem, init_env', Nat.reduceEqDiff, Nat.reduceAdd, Nat.reduceMul, reduceIte, Nat.reduceLeDiff, Nat.reduceLT, Nat.reduceBEq, reduceCtorEq, hP, ]); (repeat (refine And.intro (by first | omega | (intros; simp_all; done) | (intros; simp_all; omega)) ?_))))
          (refine WV_ret ?_; simp only [thenQ, inQ, RetQ, RetOk, resAll, resA]; simp only [go_sem, init_env', Nat.reduceEqDiff, Nat.reduceAdd, Nat.reduceMul, reduceIte, Nat.reduceLeDiff, Nat.reduceLT, Nat.reduceBEq, reduceCtorEq, tupA, AV.port, AV.portL, exists_eq_left', ]; (first | exact AVle.of rfl | refine AVle.of ?_ | skip))
      · have e : t = [] := by cases t with | nil => rfl | cons a l => simp at h
        subst e
        simp only [backL, Option.some.injEq] at hb
        subst hb
        (repeat ((first | refine WV_seq_ ?_ | refine WV_block ?_ | refine WV_ops ?_ | refine WV_skip ?_ | refine WV_exit ?_); (try simp only [go_sem, init_env', Nat.reduceEqDiff, Nat.reduceAdd, Nat.reduceMul, reduceIte, Nat.reduceLeDiff, Nat.reduceLT, Nat.reduceBEq, reduceCtorEq, hP, ]); (repeat (refine And.intro (by first | omega | (intros; simp_all; done) | (intros; simp_all; omega)) ?_))))
        (refine WV_ret ?_; simp only [thenQ, inQ, RetQ, RetOk, resAll, resA]; simp only [go_sem, init_env', Nat.reduceEqDiff, Nat.reduceAdd, Nat.reduceMul, reduceIte, Nat.reduceLeDiff, Nat.reduceLT, Nat.reduceBEq, reduceCtorEq, tupA, AV.port, AV.portL, exists_eq_left', ]; (first | exact AVle.of rfl | refine AVle.of ?_ | skip))
end Go.Proofs.Ytbejgfpaokcnpaa

namespace Go.Proofs.Ytbejgfpaokcnpaa
open Go Go.V
@[reducible] def o51_0 : List Ins := [⟨(some 5), .box 4 (.t 1), none, true⟩]
@[reducible] def t51_1 : OT := (.cons ⟨(some 7), .mv (.t 0), none, false⟩
  (.br [(.cons ⟨(some 6), .ld true 1 (.t 2), none, false⟩
    (.cons ⟨(some 8), .call (.k (.fn 52 [])) [(.t 3), (.t 7)], none, true⟩
    (.cons ⟨(some 9), .mm true (.t 6) (.t 8), none, true⟩
    (.cons ⟨none, .st 1 (.t 2) (.t 9), none, true⟩
    .nil)))), (.cons ⟨(some 8), .call (.k (.fn 52 [])) [(.t 3), (.t 7)], none, true⟩
    (.cons ⟨(some 6), .ld true 1 (.t 2), none, false⟩
    (.cons ⟨(some 9), .mm true (.t 6) (.t 8), none, true⟩
    (.cons ⟨none, .st 1 (.t 2) (.t 9), none, true⟩
    .nil))))]))
def ir51 : FC := ⟨4, 10, [], (.seq (.ops o51_0) (.drw t51_1))⟩
@[reducible] def o15_0 : List Ins := [⟨(some 1), .box 3 (.t 0), none, true⟩,
  ⟨(some 2), .mv (.k (.c (.int .i64 0))), none, true⟩,
  ⟨(some 3), .mv (.k (.c (.int .i64 0))), none, true⟩]
@[reducible] def o15_1 : List Ins := [⟨(some 7), .ld false 3 (.t 1), none, true⟩,
  ⟨(some 8), .call (.k (.fn 26 [])) [(.t 7)], none, true⟩,
  ⟨(some 4), .mv (.t 8), none, true⟩]
@[reducible] def o15_2 : List Ins := [⟨(some 9), .mv (.t 4), none, true⟩,
  ⟨(some 10), .bin .neq (.t 9) (.k (.c (.int .i64 0))), none, true⟩]
@[reducible] def o15_3 : List Ins := [⟨(some 11), .mv (.t 4), none, true⟩,
  ⟨(some 2), .mv (.k (.c (.int .i64 0))), none, true⟩,
  ⟨(some 3), .mv (.t 11), none, true⟩]
@[reducible] def v15_4 : VC := (.seq (.ops o15_3) .ret)
@[reducible] def v15_5 : VC := (.cond (.t 10) v15_4 .skip)
@[reducible] def v15_6 : VC := (.seq (.ops o15_2) v15_5)
@[reducible] def o15_7 : List Ins := [⟨(some 5), .alloc [(.c (.int .i64 0))], none, true⟩,
  ⟨none, .st 1 (.t 5) (.k (.c (.int .i64 (-1)))), none, true⟩]
@[reducible] def o15_8 : List Ins := [⟨(some 12), .ld false 3 (.t 1), none, true⟩,
  ⟨(some 6), .alloc [(.c (.raw (.slice none 0 0))), (.c (.raw (.slice none 0 0))), (.c (.int .i64 0))], none, true⟩,
  ⟨none, .st 3 (.t 6) (.t 12), none, true⟩]
@[reducible] def o15_9 : List Ins := [⟨(some 13), .fa 2 (.t 6), none, true⟩,
  ⟨none, .st 1 (.t 13) (.k (.c (.int .i64 0))), none, true⟩]
@[reducible] def o15_10 : List Ins := [⟨(some 14), .mkfn 51 [(.t 5), (.t 1)], none, true⟩,
  ⟨(some 15), .call (.k (.fn 50 [])) [(.t 6), (.t 14)], none, true⟩]
@[reducible] def o15_11 : List Ins := [⟨(some 16), .ld true 1 (.t 5), none, true⟩,
  ⟨(some 17), .bin .lss (.t 16) (.k (.c (.int .i64 0))), none, true⟩]
@[reducible] def o15_12 : List Ins := [⟨(some 2), .mv (.k (.c (.int .i64 0))), none, true⟩,
  ⟨(some 3), .mv (.k (.c (.int .i64 3))), none, true⟩]
@[reducible] def v15_13 : VC := (.seq (.ops o15_12) .ret)
@[reducible] def v15_14 : VC := (.cond (.t 17) v15_13 .skip)
@[reducible] def o15_15 : List Ins := [⟨(some 18), .ld true 1 (.t 5), none, true⟩,
  ⟨(some 2), .mv (.t 18), none, true⟩,
  ⟨(some 3), .mv (.k (.c (.int .i64 0))), none, true⟩]
@[reducible] def v15_16 : VC := (.seq (.ops o15_15) .ret)
@[reducible] def v15_17 : VC := (.seq (.seq (.ops o15_11) v15_14) v15_16)
@[reducible] def v15_18 : VC := (.seq (.ops o15_10) v15_17)
@[reducible] def v15_19 : VC := (.seq (.ops o15_9) v15_18)
@[reducible] def v15_20 : VC := (.seq (.ops o15_8) v15_19)
@[reducible] def v15_21 : VC := (.seq (.ops o15_7) v15_20)
@[reducible] def v15_22 : VC := (.seq (.seq (.ops o15_1) v15_6) v15_21)
def ir15 : FC := ⟨1, 19, [.t 2, .t 3], (.seq (.ops o15_0) v15_22)⟩
theorem c51 : compM Try.prog [8] 51 = some ir51 := by kernel_rfl
theorem c15 : compM Try.prog [] 15 = some ir15 := by kernel_rfl



def zero (r : Route) : Route := { r with start := 0 }
theorem zero_ok {r : Route} (hr : RouteOk r) : RouteOk (zero r) := ⟨hr.n7, hr.dl, by simp [zero], hr.stop, hr.row, hr.cell, hr.diag⟩

theorem elemsV_win {own : Nat → Ob} {n cap : Nat} {t : List Nat} (h : own n = .win (cellsT t)) : AV.elemsV own (.vw 1 n 0 t.length cap) = some (1, (t.map fun (k : Nat) => (k : Int)).map fun n => [CD.int .i64 n]) :=
  elemsV_T (t := t) (junk := []) (by rw [h]; simp [Ob.cellsR]) rfl

set_option maxHeartbeats 1000000 in
theorem late51 {r : Route} (hr : RouteOk r) (v : Van) (b : Int) {t : List Nat} (ht : ∀ k ∈ t, k < r.n) (hlen : t.length ≤ r.n) : FSpecL Try.prog 51 [.vw 1 2000 0 t.length r.n, vanv (zero r) v, .bp 1000 0, .c (.pt r.cds)] [.box [iv b]] [cellsT t] (fun res l' => res = .tup [] ∧ l' = [.box [iv (max b (leavesS r t))]]) := by
  have hprg : ∀ d, AV.prgL d (cellsT t) = cellsT t := fun d => prgL_pure d (cellsT_pure _)
  have hn7 := hr.n7
  refine FSpecL_of c51 (by first | simp | exact Nat.le_of_ble_eq_true rfl) (Nat.le_refl _) (by decide) (by decide) fun C hP hN hC hL => ?_; rw [init_env', ownW_upd (by first | simp | exact Nat.le_of_ble_eq_true rfl)]; simp only [ir51, updL, updLo, List.map_nil, List.map_cons, Nat.reduceAdd, vanv]
  (repeat ((first | refine WV_seq_ ?_ | refine WV_block ?_ | refine WV_ops ?_ | refine WV_skip ?_ | refine WV_exit ?_); (try simp only [go_sem, init_env', Nat.reduceEqDiff, Nat.reduceAdd, Nat.reduceMul, reduceIte, Nat.reduceLeDiff, Nat.reduceLT, Nat.reduceBEq, reduceCtorEq, hP, hprg]); (repeat (refine And.intro (by first | omega | (intros; simp_all; done) | (intros; simp_all; omega)) ?_))))
  (refine WV_drw ?_; simp only [go_sem, init_env', Nat.reduceEqDiff, Nat.reduceAdd, Nat.reduceMul, reduceIte, Nat.reduceLeDiff, Nat.reduceLT, Nat.reduceBEq, reduceCtorEq, hP, hprg]; (repeat' (refine And.intro ?_ ?_)))
  all_goals
    refine AS_vol (leaves52 hr ht (by omega)) rfl rfl rfl rfl ?_ rfl ?_
    · simp only [go_sem, init_env', Nat.reduceEqDiff, Nat.reduceAdd, Nat.reduceMul, reduceIte, Nat.reduceLeDiff, Nat.reduceLT, Nat.reduceBEq, reduceCtorEq, AV.vportL, AV.vport]
      rw [elemsV_win (t := t) rfl]
      rfl
    · simp only [go_sem, init_env', Nat.reduceEqDiff, Nat.reduceAdd, Nat.reduceMul, reduceIte, Nat.reduceLeDiff, Nat.reduceLT, Nat.reduceBEq, reduceCtorEq, hP, hprg]
      (repeat ((first | refine WV_seq_ ?_ | refine WV_block ?_ | refine WV_ops ?_ | refine WV_skip ?_ | refine WV_exit ?_); (try simp only [go_sem, init_env', Nat.reduceEqDiff, Nat.reduceAdd, Nat.reduceMul, reduceIte, Nat.reduceLeDiff, Nat.reduceLT, Nat.reduceBEq, reduceCtorEq, hP, hprg]); (repeat (refine And.intro (by first | omega | (intros; simp_all; done) | (intros; simp_all; omega)) ?_))))
      ((try simp only [thenQ, inQ, RetQL, RetOkL, resAll, resA]); (try simp only [go_sem, init_env', Nat.reduceEqDiff, Nat.reduceAdd, Nat.reduceMul, reduceIte, Nat.reduceLeDiff, Nat.reduceLT, Nat.reduceBEq, reduceCtorEq, tupA, AV.keepP, AV.keepPL]); refine ⟨_, [.box [iv (max b (leavesS r t))]], rfl, KeepL_mk rfl rfl ?_ ?_ rfl, ?_⟩)
      · simp only [go_sem, init_env', Nat.reduceEqDiff, Nat.reduceAdd, Nat.reduceMul, reduceIte, Nat.reduceLeDiff, Nat.reduceLT, Nat.reduceBEq, reduceCtorEq, keepAll, Ob.keepP, AV.keepP, AV.keepPL]
      · simp only [go_sem, init_env', Nat.reduceEqDiff, Nat.reduceAdd, Nat.reduceMul, reduceIte, Nat.reduceLeDiff, Nat.reduceLT, Nat.reduceBEq, reduceCtorEq, winAll]
      · exact ⟨rfl, rfl⟩

def latestB (r : Route) (l : List (List Nat × Van)) : Int := (l.map fun p => leavesS r p.1).foldl max (-1)
theorem latestB_snoc (r : Route) (l : List (List Nat × Van)) (p : List Nat × Van) : latestB r (l ++ [p]) = max (latestB r l) (leavesS r p.1) := by simp [latestB]
def latestS (r : Route) : Int × Int := if r.ok then (if latestB r (wholes (zero r)) < 0 then (0, 3) else (latestB r (wholes (zero r)), 0)) else (0, 80)

set_option maxHeartbeats 1000000 in
theorem latest15 (r : Route) : FSpec Try.prog 15 [r.av] (.tup [iv (latestS r).1, iv (latestS r).2]) := by
  refine FSpec_of c15 (Nat.le_refl _) (by decide) fun C hP hN hC hL => ?_
  simp only [ir15, Route.av]
  (repeat ((first | refine WV_seq_ ?_ | refine WV_block ?_ | refine WV_ops ?_ | refine WV_skip ?_ | refine WV_exit ?_); (try simp only [go_sem, init_env', Nat.reduceEqDiff, Nat.reduceAdd, Nat.reduceMul, reduceIte, Nat.reduceLeDiff, Nat.reduceLT, Nat.reduceBEq, reduceCtorEq, hP, ]); (repeat (refine And.intro (by first | omega | (intros; simp_all; done) | (intros; simp_all; omega)) ?_))))
  (refine AS_pure (rcheck_spec r) rfl rfl rfl rfl rfl ?_; simp only [go_sem, init_env', Nat.reduceEqDiff, Nat.reduceAdd, Nat.reduceMul, reduceIte, Nat.reduceLeDiff, Nat.reduceLT, Nat.reduceBEq, reduceCtorEq, hP, Route.av]; (repeat (refine And.intro (by first | omega | (intros; simp_all; done) | (intros; simp_all; omega)) ?_)); (repeat ((first | refine WV_seq_ ?_ | refine WV_block ?_ | refine WV_ops ?_ | refine WV_skip ?_ | refine WV_exit ?_); (try simp only [go_sem, init_env', Nat.reduceEqDiff, Nat.reduceAdd, Nat.reduceMul, reduceIte, Nat.reduceLeDiff, Nat.reduceLT, Nat.reduceBEq, reduceCtorEq, hP, Route.av]); (repeat (refine And.intro (by first | omega | (intros; simp_all; done) | (intros; simp_all; omega)) ?_)))))
  by_cases hok : r.ok = true
  · have hr := Route.ok_spec hok
    simp only [hok, if_true]
    (refine WV_cond rfl (fun h => ?_) (fun h => ?_))
    · simp at h
    · (refine WV_skip ?_; simp only [go_sem, init_env', Nat.reduceEqDiff, Nat.reduceAdd, Nat.reduceMul, reduceIte, Nat.reduceLeDiff, Nat.reduceLT, Nat.reduceBEq, reduceCtorEq])
      (refine WV_seq_ (WV_ops ?_); simp only [go_sem, init_env', Nat.reduceEqDiff, Nat.reduceAdd, Nat.reduceMul, reduceIte, Nat.reduceLeDiff, Nat.reduceLT, Nat.reduceBEq, reduceCtorEq, hP, ]; (repeat (refine And.intro (by first | omega | (intros; simp_all; done) | (intros; simp_all; omega)) ?_)))
      (refine WV_seq_ (WV_ops ?_); simp only [go_sem, init_env', Nat.reduceEqDiff, Nat.reduceAdd, Nat.reduceMul, reduceIte, Nat.reduceLeDiff, Nat.reduceLT, Nat.reduceBEq, reduceCtorEq, hP, ]; (repeat (refine And.intro (by first | omega | (intros; simp_all; done) | (intros; simp_all; omega)) ?_)))
      (refine WV_seq_ (WV_ops ?_); simp only [go_sem, init_env', Nat.reduceEqDiff, Nat.reduceAdd, Nat.reduceMul, reduceIte, Nat.reduceLeDiff, Nat.reduceLT, Nat.reduceBEq, reduceCtorEq, hP, ]; (repeat (refine And.intro (by first | omega | (intros; simp_all; done) | (intros; simp_all; omega)) ?_)))
      refine WV_freeze 1 (ds := r.cds) rfl rfl ?_
      simp only [go_sem, init_env', Nat.reduceEqDiff, Nat.reduceAdd, Nat.reduceMul, reduceIte, Nat.reduceLeDiff, Nat.reduceLT, Nat.reduceBEq, reduceCtorEq]
      refine WV_freeze 6 (ds := (zero r).cds) rfl rfl ?_
      simp only [go_sem, init_env', Nat.reduceEqDiff, Nat.reduceAdd, Nat.reduceMul, reduceIte, Nat.reduceLeDiff, Nat.reduceLT, Nat.reduceBEq, reduceCtorEq]
      (repeat ((first | refine WV_seq_ ?_ | refine WV_block ?_ | refine WV_ops ?_ | refine WV_skip ?_ | refine WV_exit ?_); (try simp only [go_sem, init_env', Nat.reduceEqDiff, Nat.reduceAdd, Nat.reduceMul, reduceIte, Nat.reduceLeDiff, Nat.reduceLT, Nat.reduceBEq, reduceCtorEq, hP, ]); (repeat (refine And.intro (by first | omega | (intros; simp_all; done) | (intros; simp_all; omega)) ?_))))
      refine AS_clos [5] [.c (.pt (zero r).cds)] [] (l := [.box [iv (latestB r [])]]) (lf := [.box [iv (latestB r (wholes (zero r)))]]) (r := iv ((wholes (zero r)).length : Int)) (whole50 (zero_ok hr)) rfl rfl rfl (by decide) (by decide) rfl rfl rfl rfl ?_ (late51 hr (leave r) 0 (t := []) (by simp) (by simp)).1 ?_ rfl ?_
      · simp only [go_sem, init_env', Nat.reduceEqDiff, Nat.reduceAdd, Nat.reduceMul, reduceIte, Nat.reduceLeDiff, Nat.reduceLT, Nat.reduceBEq, reduceCtorEq, obsLend, Ob.lend, AV.lendL, AV.lend, latestB, List.foldl_nil]
      · refine Run_pre (entW (zero r)) (fun pre => [.box [iv (latestB r pre)]]) (wholes (zero r)) (fun p => rfl) (fun t _ => rfl) (fun pre p post hts => ?_) _ [] rfl
        have hp : p ∈ goods (zero r) := by
          have : p ∈ wholes (zero r) := by rw [hts]; simp
          exact (List.mem_filter.1 this).1
        have hpo := goods_ok (zero_ok hr) p hp
        have hpl := goods_len (zero_ok hr) hp
        have := late51 hr (atHome (zero r) p) (latestB r pre) hpo.2.1 hpl
        simp only [latestB_snoc]
        exact this
      · refine ⟨_, rfl, rfl, ?_⟩
        simp only [go_sem, init_env', Nat.reduceEqDiff, Nat.reduceAdd, Nat.reduceMul, reduceIte, Nat.reduceLeDiff, Nat.reduceLT, Nat.reduceBEq, reduceCtorEq, ownBack]
        (repeat ((first | refine WV_seq_ ?_ | refine WV_block ?_ | refine WV_ops ?_ | refine WV_skip ?_ | refine WV_exit ?_); (try simp only [go_sem, init_env', Nat.reduceEqDiff, Nat.reduceAdd, Nat.reduceMul, reduceIte, Nat.reduceLeDiff, Nat.reduceLT, Nat.reduceBEq, reduceCtorEq, hP, ]); (repeat (refine And.intro (by first | omega | (intros; simp_all; done) | (intros; simp_all; omega)) ?_))))
        (refine WV_cond rfl (fun h => ?_) (fun h => ?_))
        · have h : latestB r (wholes (zero r)) < 0 := by simpa using h
          (repeat ((first | refine WV_seq_ ?_ | refine WV_block ?_ | refine WV_ops ?_ | refine WV_skip ?_ | refine WV_exit ?_); (try simp only [go_sem, init_env', Nat.reduceEqDiff, Nat.reduceAdd, Nat.reduceMul, reduceIte, Nat.reduceLeDiff, Nat.reduceLT, Nat.reduceBEq, reduceCtorEq, hP, ]); (repeat (refine And.intro (by first | omega | (intros; simp_all; done) | (intros; simp_all; omega)) ?_))))
          (refine WV_ret ?_; simp only [thenQ, inQ, RetQ, RetOk, resAll, resA]; simp only [go_sem, init_env', Nat.reduceEqDiff, Nat.reduceAdd, Nat.reduceMul, reduceIte, Nat.reduceLeDiff, Nat.reduceLT, Nat.reduceBEq, reduceCtorEq, tupA, AV.port, AV.portL, exists_eq_left', ]; (first | exact AVle.of rfl | refine AVle.of ?_ | skip))
          simp [latestS, hok, h]
        · have h : ¬ latestB r (wholes (zero r)) < 0 := by simpa using h
          (repeat ((first | refine WV_seq_ ?_ | refine WV_block ?_ | refine WV_ops ?_ | refine WV_skip ?_ | refine WV_exit ?_); (try simp only [go_sem, init_env', Nat.reduceEqDiff, Nat.reduceAdd, Nat.reduceMul, reduceIte, Nat.reduceLeDiff, Nat.reduceLT, Nat.reduceBEq, reduceCtorEq, hP, ]); (repeat (refine And.intro (by first | omega | (intros; simp_all; done) | (intros; simp_all; omega)) ?_))))
          (refine WV_ret ?_; simp only [thenQ, inQ, RetQ, RetOk, resAll, resA]; simp only [go_sem, init_env', Nat.reduceEqDiff, Nat.reduceAdd, Nat.reduceMul, reduceIte, Nat.reduceLeDiff, Nat.reduceLT, Nat.reduceBEq, reduceCtorEq, tupA, AV.port, AV.portL, exists_eq_left', ]; (first | exact AVle.of rfl | refine AVle.of ?_ | skip))
          simp [latestS, hok, h]
  · have hok : r.ok = false := by simpa using hok
    simp only [hok, Bool.false_eq_true, if_false]
    (refine WV_cond rfl (fun h => ?_) (fun h => ?_))
    · (repeat ((first | refine WV_seq_ ?_ | refine WV_block ?_ | refine WV_ops ?_ | refine WV_skip ?_ | refine WV_exit ?_); (try simp only [go_sem, init_env', Nat.reduceEqDiff, Nat.reduceAdd, Nat.reduceMul, reduceIte, Nat.reduceLeDiff, Nat.reduceLT, Nat.reduceBEq, reduceCtorEq, hP, ]); (repeat (refine And.intro (by first | omega | (intros; simp_all; done) | (intros; simp_all; omega)) ?_))))
      (refine WV_ret ?_; simp only [thenQ, inQ, RetQ, RetOk, resAll, resA]; simp only [go_sem, init_env', Nat.reduceEqDiff, Nat.reduceAdd, Nat.reduceMul, reduceIte, Nat.reduceLeDiff, Nat.reduceLT, Nat.reduceBEq, reduceCtorEq, tupA, AV.port, AV.portL, exists_eq_left', ]; (first | exact AVle.of rfl | refine AVle.of ?_ | skip))
      simp [latestS, hok]
    · simp at h
end Go.Proofs.Ytbejgfpaokcnpaa

namespace Go.Proofs.Ytbejgfpaokcnpaa
open Go Go.V
@[reducible] def o69_0 : List Ins := [⟨(some 5), .box 4 (.t 1), none, true⟩]
@[reducible] def o69_1 : List Ins := [⟨(some 6), .ld true 1 (.t 2), none, true⟩,
  ⟨(some 7), .bin .lss (.t 6) (.k (.c (.int .i64 0))), none, true⟩,
  ⟨(some 8), .mv (.t 7), none, true⟩,
  ⟨(some 9), .fa 3 (.t 5), (some (8, false)), true⟩,
  ⟨(some 10), .ld true 1 (.t 9), (some (8, false)), true⟩,
  ⟨(some 11), .ld true 1 (.t 2), (some (8, false)), true⟩,
  ⟨(some 12), .bin .lss (.t 10) (.t 11), (some (8, false)), true⟩,
  ⟨(some 13), .pick (.t 8) (.k (.c (.bool true))) (.t 12), none, true⟩]
@[reducible] def t69_2 : OT := (.cons ⟨(some 14), .mv (.t 0), none, false⟩
  (.br [(.cons ⟨(some 15), .call (.k (.fn 70 [])) [(.t 14)], none, true⟩
    (.cons ⟨(some 16), .fa 3 (.t 5), none, false⟩
    (.br [(.cons ⟨(some 17), .ld true 1 (.t 16), none, false⟩
      (.cons ⟨none, .st 1 (.t 3) (.t 15), none, false⟩
      (.cons ⟨none, .st 1 (.t 2) (.t 17), none, true⟩
      .nil))), (.cons ⟨none, .st 1 (.t 3) (.t 15), none, false⟩
      (.cons ⟨(some 17), .ld true 1 (.t 16), none, false⟩
      (.cons ⟨none, .st 1 (.t 2) (.t 17), none, true⟩
      .nil)))]))), (.cons ⟨(some 16), .fa 3 (.t 5), none, false⟩
    (.br [(.cons ⟨(some 15), .call (.k (.fn 70 [])) [(.t 14)], none, true⟩
      (.br [(.cons ⟨(some 17), .ld true 1 (.t 16), none, false⟩
        (.cons ⟨none, .st 1 (.t 3) (.t 15), none, false⟩
        (.cons ⟨none, .st 1 (.t 2) (.t 17), none, true⟩
        .nil))), (.cons ⟨none, .st 1 (.t 3) (.t 15), none, false⟩
        (.cons ⟨(some 17), .ld true 1 (.t 16), none, false⟩
        (.cons ⟨none, .st 1 (.t 2) (.t 17), none, true⟩
        .nil)))])), (.cons ⟨(some 17), .ld true 1 (.t 16), none, false⟩
      (.cons ⟨(some 15), .call (.k (.fn 70 [])) [(.t 14)], none, true⟩
      (.cons ⟨none, .st 1 (.t 3) (.t 15), none, false⟩
      (.cons ⟨none, .st 1 (.t 2) (.t 17), none, true⟩
      .nil))))]))]))
@[reducible] def v69_3 : VC := (.cond (.t 13) (.drw t69_2) .skip)
@[reducible] def v69_4 : VC := (.seq (.ops o69_1) v69_3)
def ir69 : FC := ⟨4, 18, [], (.seq (.ops o69_0) v69_4)⟩
@[reducible] def o53_0 : List Ins := [⟨(some 1), .box 3 (.t 0), none, true⟩,
  ⟨(some 2), .alloc [(.c (.raw (.slice none 0 0)))], none, true⟩,
  ⟨(some 3), .alloc [(.c (.int .i64 0))], none, true⟩,
  ⟨(some 4), .mv (.k (.c (.int .i64 0))), none, true⟩]
@[reducible] def o53_1 : List Ins := [⟨none, .st 1 (.t 3) (.k (.c (.int .i64 (-1)))), none, true⟩]
@[reducible] def o53_2 : List Ins := [⟨(some 5), .ld false 3 (.t 1), none, true⟩,
  ⟨(some 6), .mkfn 69 [(.t 3), (.t 2)], none, true⟩,
  ⟨(some 7), .call (.k (.fn 61 [])) [(.t 5), (.t 6)], none, true⟩,
  ⟨(some 4), .mv (.t 7), none, true⟩]
@[reducible] def t53_3 : OT := (.cons ⟨(some 8), .ld true 1 (.t 2), none, false⟩
  (.cons ⟨(some 10), .mv (.t 4), none, false⟩
  (.br [(.cons ⟨(some 9), .ld true 1 (.t 3), none, false⟩
    (.cons ⟨none, .st 1 (.t 2) (.t 8), none, false⟩
    (.cons ⟨none, .st 1 (.t 3) (.t 9), none, false⟩
    (.cons ⟨(some 4), .mv (.t 10), none, true⟩
    .nil)))), (.cons ⟨none, .st 1 (.t 2) (.t 8), none, false⟩
    (.cons ⟨(some 9), .ld true 1 (.t 3), none, false⟩
    (.cons ⟨none, .st 1 (.t 3) (.t 9), none, false⟩
    (.cons ⟨(some 4), .mv (.t 10), none, true⟩
    .nil))))])))
@[reducible] def v53_4 : VC := (.seq (.drw t53_3) .ret)
@[reducible] def v53_5 : VC := (.seq (.ops o53_2) v53_4)
@[reducible] def v53_6 : VC := (.seq (.ops o53_1) v53_5)
def ir53 : FC := ⟨1, 11, [.cell 2 true 1, .cell 3 true 1, .t 4], (.seq (.ops o53_0) v53_6)⟩
@[reducible] def o20_0 : List Ins := [⟨(some 1), .box 3 (.t 0), none, true⟩,
  ⟨(some 2), .mv (.k (.c (.int .i64 0))), none, true⟩,
  ⟨(some 3), .mv (.k (.c (.int .i64 0))), none, true⟩]
@[reducible] def o20_1 : List Ins := [⟨(some 8), .ld false 3 (.t 1), none, true⟩,
  ⟨(some 9), .call (.k (.fn 53 [])) [(.t 8)], none, true⟩,
  ⟨(some 7), .mv (.t 9), none, true⟩,
  ⟨(some 10), .ext (.t 7) 0, none, true⟩,
  ⟨(some 11), .ext (.t 7) 1, none, true⟩,
  ⟨(some 12), .ext (.t 7) 2, none, true⟩,
  ⟨(some 4), .mv (.t 10), none, true⟩,
  ⟨(some 5), .mv (.t 11), none, true⟩,
  ⟨(some 6), .mv (.t 12), none, true⟩]
@[reducible] def o20_2 : List Ins := [⟨(some 13), .mv (.t 6), none, true⟩,
  ⟨(some 14), .bin .neq (.t 13) (.k (.c (.int .i64 0))), none, true⟩]
@[reducible] def o20_3 : List Ins := [⟨(some 15), .mv (.t 6), none, true⟩,
  ⟨(some 2), .mv (.k (.c (.int .i64 0))), none, true⟩,
  ⟨(some 3), .mv (.t 15), none, true⟩]
@[reducible] def v20_4 : VC := (.seq (.ops o20_3) .ret)
@[reducible] def v20_5 : VC := (.cond (.t 14) v20_4 .skip)
@[reducible] def o20_6 : List Ins := [⟨(some 16), .mv (.t 5), none, true⟩,
  ⟨(some 2), .mv (.t 16), none, true⟩,
  ⟨(some 3), .mv (.k (.c (.int .i64 0))), none, true⟩]
@[reducible] def v20_7 : VC := (.seq (.ops o20_6) .ret)
@[reducible] def v20_8 : VC := (.seq (.seq (.ops o20_2) v20_5) v20_7)
@[reducible] def v20_9 : VC := (.seq (.ops o20_1) v20_8)
def ir20 : FC := ⟨1, 17, [.t 2, .t 3], (.seq (.ops o20_0) v20_9)⟩
theorem c69 : compM Try.prog [15] 69 = some ir69 := by kernel_rfl
theorem c53 : compM Try.prog [] 53 = some ir53 := by kernel_rfl
theorem c20 : compM Try.prog [] 20 = some ir20 := by kernel_rfl
def wayC : Option (List Nat) → CD
  | none => .raw (.slice none 0 0)
  | some t => nats t
def shortT (s : Int × Option (List Nat)) (n : Int) (t : List Nat) : Int × Option (List Nat) := if s.1 < 0 ∨ n < s.1 then (n, some t) else s
def shortB (r : Route) (l : List (List Nat × Van)) : Int × Option (List Nat) := l.foldl (fun s p => shortT s (atHome r p).long p.1) (-1, none)
theorem shortB_snoc (r : Route) (l : List (List Nat × Van)) (p : List Nat × Van) : shortB r (l ++ [p]) = shortT (shortB r l) (atHome r p).long p.1 := by simp [shortB]
def shortO (s : Int × Option (List Nat)) : List Ob := [.box [iv s.1], .box [.c (wayC s.2)]]

set_option maxHeartbeats 1000000 in
theorem short69 (r : Route) (v : Van) (s : Int × Option (List Nat)) {t : List Nat} (hlen : t.length ≤ 100) : FSpecL Try.prog 69 [.vw 1 2000 0 t.length r.n, vanv r v, .bp 1000 0, .bp 1001 0] [.box [iv s.1], .box [.c (wayC s.2)]] [cellsT t] (fun res l' => res = .tup [] ∧ l' = shortO (shortT s v.long t)) := by
  have hprg : ∀ d, AV.prgL d (cellsT t) = cellsT t := fun d => prgL_pure d (cellsT_pure _)
  refine FSpecL_of c69 (by first | simp | exact Nat.le_of_ble_eq_true rfl) (Nat.le_refl _) (by decide) (by decide) fun C hP hN hC hL => ?_; rw [init_env', ownW_upd (by first | simp | exact Nat.le_of_ble_eq_true rfl)]; simp only [ir69, updL, updLo, List.map_nil, List.map_cons, Nat.reduceAdd, vanv, shortO]
  (repeat ((first | refine WV_seq_ ?_ | refine WV_block ?_ | refine WV_ops ?_ | refine WV_skip ?_ | refine WV_exit ?_); (try simp only [go_sem, init_env', Nat.reduceEqDiff, Nat.reduceAdd, Nat.reduceMul, reduceIte, Nat.reduceLeDiff, Nat.reduceLT, Nat.reduceBEq, reduceCtorEq, hP, hprg]); (repeat (refine And.intro (by first | omega | (intros; simp_all; done) | (intros; simp_all; omega)) ?_))))
  (refine WV_cond rfl (fun h => ?_) (fun h => ?_))
  · have h : s.1 < 0 ∨ v.long < s.1 := by simpa using h
    have e : shortT s v.long t = (v.long, some t) := if_pos h
    rw [e]
    (refine WV_drw ?_; simp only [go_sem, init_env', Nat.reduceEqDiff, Nat.reduceAdd, Nat.reduceMul, reduceIte, Nat.reduceLeDiff, Nat.reduceLT, Nat.reduceBEq, reduceCtorEq, hP, hprg]; (repeat' (refine And.intro ?_ ?_)))
    all_goals
      refine AS_fresh (clone70 (t.map fun (k : Nat) => (k : Int)) (by simp; omega)) rfl rfl rfl ?_ rfl ?_
      · simp only [go_sem, init_env', Nat.reduceEqDiff, Nat.reduceAdd, Nat.reduceMul, reduceIte, Nat.reduceLeDiff, Nat.reduceLT, Nat.reduceBEq, reduceCtorEq, AV.vportL, AV.vport]
        rw [elemsV_win (t := t) rfl]
        rfl
      · simp only [go_sem, init_env', Nat.reduceEqDiff, Nat.reduceAdd, Nat.reduceMul, reduceIte, Nat.reduceLeDiff, Nat.reduceLT, Nat.reduceBEq, reduceCtorEq, hP, hprg]
        try refine ⟨trivial, ?_⟩
        ((try simp only [thenQ, inQ, RetQL, RetOkL, resAll, resA]); (try simp only [go_sem, init_env', Nat.reduceEqDiff, Nat.reduceAdd, Nat.reduceMul, reduceIte, Nat.reduceLeDiff, Nat.reduceLT, Nat.reduceBEq, reduceCtorEq, tupA, AV.keepP, AV.keepPL]); refine ⟨_, [.box [iv v.long], .box [.c (wayC (some t))]], rfl, KeepL_mk rfl rfl ?_ ?_ rfl, ?_⟩)
        · simp only [go_sem, init_env', Nat.reduceEqDiff, Nat.reduceAdd, Nat.reduceMul, reduceIte, Nat.reduceLeDiff, Nat.reduceLT, Nat.reduceBEq, reduceCtorEq, keepAll, Ob.keepP, AV.keepP, AV.keepPL, wayC, nats]
        · simp only [go_sem, init_env', Nat.reduceEqDiff, Nat.reduceAdd, Nat.reduceMul, reduceIte, Nat.reduceLeDiff, Nat.reduceLT, Nat.reduceBEq, reduceCtorEq, winAll]
        · exact ⟨rfl, rfl⟩
  · have h : ¬ (s.1 < 0 ∨ v.long < s.1) := by simpa using h
    have e : shortT s v.long t = s := if_neg h
    rw [e]
    (repeat ((first | refine WV_seq_ ?_ | refine WV_block ?_ | refine WV_ops ?_ | refine WV_skip ?_ | refine WV_exit ?_); (try simp only [go_sem, init_env', Nat.reduceEqDiff, Nat.reduceAdd, Nat.reduceMul, reduceIte, Nat.reduceLeDiff, Nat.reduceLT, Nat.reduceBEq, reduceCtorEq, hP, hprg]); (repeat (refine And.intro (by first | omega | (intros; simp_all; done) | (intros; simp_all; omega)) ?_))))
    ((try simp only [thenQ, inQ, RetQL, RetOkL, resAll, resA]); (try simp only [go_sem, init_env', Nat.reduceEqDiff, Nat.reduceAdd, Nat.reduceMul, reduceIte, Nat.reduceLeDiff, Nat.reduceLT, Nat.reduceBEq, reduceCtorEq, tupA, AV.keepP, AV.keepPL]); refine ⟨_, [.box [iv s.1], .box [.c (wayC s.2)]], rfl, KeepL_mk rfl rfl ?_ ?_ rfl, ?_⟩)
    · simp only [go_sem, init_env', Nat.reduceEqDiff, Nat.reduceAdd, Nat.reduceMul, reduceIte, Nat.reduceLeDiff, Nat.reduceLT, Nat.reduceBEq, reduceCtorEq, keepAll, Ob.keepP, AV.keepP, AV.keepPL, e]
    · simp only [go_sem, init_env', Nat.reduceEqDiff, Nat.reduceAdd, Nat.reduceMul, reduceIte, Nat.reduceLeDiff, Nat.reduceLT, Nat.reduceBEq, reduceCtorEq, winAll]
    · exact ⟨rfl, rfl⟩

set_option maxHeartbeats 1000000 in
theorem short53 (r : Route) : FSpec Try.prog 53 [r.av] (.tup [.c (wayC (shortB r (wholesOf r)).2), iv (shortB r (wholesOf r)).1, iv (someE r)]) := by
  refine FSpec_of c53 (Nat.le_refl _) (by decide) fun C hP hN hC hL => ?_
  simp only [ir53, Route.av]
  (repeat ((first | refine WV_seq_ ?_ | refine WV_block ?_ | refine WV_ops ?_ | refine WV_skip ?_ | refine WV_exit ?_); (try simp only [go_sem, init_env', Nat.reduceEqDiff, Nat.reduceAdd, Nat.reduceMul, reduceIte, Nat.reduceLeDiff, Nat.reduceLT, Nat.reduceBEq, reduceCtorEq, hP, ]); (repeat (refine And.intro (by first | omega | (intros; simp_all; done) | (intros; simp_all; omega)) ?_))))
  · refine AS_clos [3, 2] [r.av] [] (l := shortO (shortB r [])) (lf := shortO (shortB r (wholesOf r))) (r := iv (someE r)) (some61 r) rfl rfl rfl (by decide) (by decide) rfl rfl rfl rfl ?_ (short69 r (leave r) (0, none) (t := []) (by simp)).1 ?_ rfl ?_
    · simp only [go_sem, init_env', Nat.reduceEqDiff, Nat.reduceAdd, Nat.reduceMul, reduceIte, Nat.reduceLeDiff, Nat.reduceLT, Nat.reduceBEq, reduceCtorEq, obsLend, Ob.lend, AV.lendL, AV.lend, shortO, shortB, List.foldl_nil, wayC]
    · refine Run_pre (entW r) (fun pre => shortO (shortB r pre)) (wholesOf r) (fun p => rfl) (fun t _ => rfl) (fun pre p post hts => ?_) _ [] rfl
      have hp : p ∈ wholesOf r := by rw [hts]; simp
      have hl : p.1.length ≤ 100 := by
        unfold wholesOf at hp
        split at hp
        · rename_i hok
          have hr := Route.ok_spec hok
          have h7 := hr.n7
          have := goods_len hr (List.mem_filter.1 hp).1
          omega
        · cases hp
      have := short69 r (atHome r p) (shortB r pre) hl
      simp only [shortB_snoc]
      exact this
    · refine ⟨_, rfl, rfl, ?_⟩
      simp only [go_sem, init_env', Nat.reduceEqDiff, Nat.reduceAdd, Nat.reduceMul, reduceIte, Nat.reduceLeDiff, Nat.reduceLT, Nat.reduceBEq, reduceCtorEq, ownBack]
      (repeat ((first | refine WV_seq_ ?_ | refine WV_block ?_ | refine WV_ops ?_ | refine WV_skip ?_ | refine WV_exit ?_); (try simp only [go_sem, init_env', Nat.reduceEqDiff, Nat.reduceAdd, Nat.reduceMul, reduceIte, Nat.reduceLeDiff, Nat.reduceLT, Nat.reduceBEq, reduceCtorEq, hP, ]); (repeat (refine And.intro (by first | omega | (intros; simp_all; done) | (intros; simp_all; omega)) ?_))))
      (refine WV_drw ?_; simp only [go_sem, init_env', Nat.reduceEqDiff, Nat.reduceAdd, Nat.reduceMul, reduceIte, Nat.reduceLeDiff, Nat.reduceLT, Nat.reduceBEq, reduceCtorEq, hP, ]; (repeat' (refine And.intro ?_ ?_)))
      all_goals ((refine WV_ret ?_; simp only [thenQ, inQ, RetQ, RetOk, resAll, resA]; simp only [go_sem, init_env', Nat.reduceEqDiff, Nat.reduceAdd, Nat.reduceMul, reduceIte, Nat.reduceLeDiff, Nat.reduceLT, Nat.reduceBEq, reduceCtorEq, tupA, AV.port, AV.portL, exists_eq_left', ]; (first | exact AVle.of rfl | refine AVle.of ?_ | skip)))

def shortestS (r : Route) : Int × Int := if someE r = 0 then ((shortB r (wholes r)).1, 0) else (0, someE r)
theorem shortest20 (r : Route) : FSpec Try.prog 20 [r.av] (.tup [iv (shortestS r).1, iv (shortestS r).2]) := by
  refine FSpec_of c20 (Nat.le_refl _) (by decide) fun C hP hN hC hL => ?_
  simp only [ir20, Route.av]
  (repeat ((first | refine WV_seq_ ?_ | refine WV_block ?_ | refine WV_ops ?_ | refine WV_skip ?_ | refine WV_exit ?_); (try simp only [go_sem, init_env', Nat.reduceEqDiff, Nat.reduceAdd, Nat.reduceMul, reduceIte, Nat.reduceLeDiff, Nat.reduceLT, Nat.reduceBEq, reduceCtorEq, hP, ]); (repeat (refine And.intro (by first | omega | (intros; simp_all; done) | (intros; simp_all; omega)) ?_))))
  (refine AS_pure (short53 r) rfl rfl rfl rfl rfl ?_; simp only [go_sem, init_env', Nat.reduceEqDiff, Nat.reduceAdd, Nat.reduceMul, reduceIte, Nat.reduceLeDiff, Nat.reduceLT, Nat.reduceBEq, reduceCtorEq, hP, Route.av]; (repeat (refine And.intro (by first | omega | (intros; simp_all; done) | (intros; simp_all; omega)) ?_)); (repeat ((first | refine WV_seq_ ?_ | refine WV_block ?_ | refine WV_ops ?_ | refine WV_skip ?_ | refine WV_exit ?_); (try simp only [go_sem, init_env', Nat.reduceEqDiff, Nat.reduceAdd, Nat.reduceMul, reduceIte, Nat.reduceLeDiff, Nat.reduceLT, Nat.reduceBEq, reduceCtorEq, hP, Route.av]); (repeat (refine And.intro (by first | omega | (intros; simp_all; done) | (intros; simp_all; omega)) ?_)))))
  (refine WV_cond rfl (fun h => ?_) (fun h => ?_))
  · have h : someE r ≠ 0 := by simpa using h
    (repeat ((first | refine WV_seq_ ?_ | refine WV_block ?_ | refine WV_ops ?_ | refine WV_skip ?_ | refine WV_exit ?_); (try simp only [go_sem, init_env', Nat.reduceEqDiff, Nat.reduceAdd, Nat.reduceMul, reduceIte, Nat.reduceLeDiff, Nat.reduceLT, Nat.reduceBEq, reduceCtorEq, hP, ]); (repeat (refine And.intro (by first | omega | (intros; simp_all; done) | (intros; simp_all; omega)) ?_))))
    (refine WV_ret ?_; simp only [thenQ, inQ, RetQ, RetOk, resAll, resA]; simp only [go_sem, init_env', Nat.reduceEqDiff, Nat.reduceAdd, Nat.reduceMul, reduceIte, Nat.reduceLeDiff, Nat.reduceLT, Nat.reduceBEq, reduceCtorEq, tupA, AV.port, AV.portL, exists_eq_left', ]; (first | exact AVle.of rfl | refine AVle.of ?_ | skip))
    simp [shortestS, h]
  · have h : someE r = 0 := by simpa using h
    (repeat ((first | refine WV_seq_ ?_ | refine WV_block ?_ | refine WV_ops ?_ | refine WV_skip ?_ | refine WV_exit ?_); (try simp only [go_sem, init_env', Nat.reduceEqDiff, Nat.reduceAdd, Nat.reduceMul, reduceIte, Nat.reduceLeDiff, Nat.reduceLT, Nat.reduceBEq, reduceCtorEq, hP, ]); (repeat (refine And.intro (by first | omega | (intros; simp_all; done) | (intros; simp_all; omega)) ?_))))
    (refine WV_ret ?_; simp only [thenQ, inQ, RetQ, RetOk, resAll, resA]; simp only [go_sem, init_env', Nat.reduceEqDiff, Nat.reduceAdd, Nat.reduceMul, reduceIte, Nat.reduceLeDiff, Nat.reduceLT, Nat.reduceBEq, reduceCtorEq, tupA, AV.port, AV.portL, exists_eq_left', ]; (first | exact AVle.of rfl | refine AVle.of ?_ | skip))
    simp [shortestS, h, wholesOf, (someE_ok h).1]

end Go.Proofs.Ytbejgfpaokcnpaa

namespace Go.Proofs.Ytbejgfpaokcnpaa
open Go Go.V
@[reducible] def o41_0 : List Ins := [⟨(some 1), .box 3 (.t 0), none, true⟩,
  ⟨(some 2), .mv (.k (.c (.int .i64 0))), none, true⟩,
  ⟨(some 3), .mv (.k (.c (.int .i64 0))), none, true⟩]
@[reducible] def o41_1 : List Ins := [⟨(some 10), .ld false 3 (.t 1), none, true⟩,
  ⟨(some 11), .call (.k (.fn 26 [])) [(.t 10)], none, true⟩,
  ⟨(some 4), .mv (.t 11), none, true⟩]
@[reducible] def o41_2 : List Ins := [⟨(some 12), .mv (.t 4), none, true⟩,
  ⟨(some 13), .bin .neq (.t 12) (.k (.c (.int .i64 0))), none, true⟩]
@[reducible] def o41_3 : List Ins := [⟨(some 14), .mv (.t 4), none, true⟩,
  ⟨(some 2), .mv (.k (.c (.int .i64 0))), none, true⟩,
  ⟨(some 3), .mv (.t 14), none, true⟩]
@[reducible] def v41_4 : VC := (.seq (.ops o41_3) .ret)
@[reducible] def v41_5 : VC := (.cond (.t 13) v41_4 .skip)
@[reducible] def v41_6 : VC := (.seq (.ops o41_2) v41_5)
@[reducible] def o41_7 : List Ins := [⟨(some 5), .alloc [(.c (.int .i64 0))], none, true⟩,
  ⟨none, .st 1 (.t 5) (.k (.c (.int .i64 0))), none, true⟩]
@[reducible] def o41_8 : List Ins := [⟨(some 15), .call (.k (.fn 66 [])) [(.t 1)], none, true⟩]
@[reducible] def o41_9 : List Ins := [⟨(some 7), .mv (.k (.c (.int .i64 0))), none, true⟩]
@[reducible] def o41_10 : List Ins := [⟨(some 18), .mv (.t 6), none, true⟩,
  ⟨(some 19), .len (.t 18), none, true⟩,
  ⟨(some 20), .mv (.k (.c (.int .i64 0))), none, true⟩]
@[reducible] def o41_11 : List Ins := [⟨(some 21), .bin .lss (.t 20) (.t 19), none, true⟩]
@[reducible] def o41_12 : List Ins := [⟨(some 22), .ia 1 (.t 18) (.t 20), none, true⟩,
  ⟨(some 23), .ld true 1 (.t 22), none, true⟩,
  ⟨(some 9), .mv (.t 23), none, true⟩]
@[reducible] def o41_13 : List Ins := [⟨(some 24), .mv (.t 7), none, true⟩,
  ⟨(some 25), .fa 0 (.t 1), none, true⟩,
  ⟨(some 26), .ld true 1 (.t 25), none, true⟩,
  ⟨(some 27), .mv (.t 9), none, true⟩,
  ⟨(some 28), .ia 4 (.t 26) (.t 27), none, true⟩,
  ⟨(some 29), .fa 3 (.t 28), none, true⟩,
  ⟨(some 30), .ld true 1 (.t 29), none, true⟩,
  ⟨(some 31), .bin .add (.t 24) (.t 30), none, true⟩,
  ⟨(some 7), .mv (.t 31), none, true⟩]
@[reducible] def v41_14 : VC := (.seq (.ops o41_12) (.ops o41_13))
@[reducible] def o41_15 : List Ins := [⟨(some 32), .bin .add (.t 20) (.k (.c (.int .i64 1))), none, true⟩,
  ⟨(some 20), .mv (.t 32), none, true⟩]
@[reducible] def v41_16 : VC := (.seq (.block 3 v41_14) (.ops o41_15))
@[reducible] def v41_17 : VC := (.seq (.cond (.t 21) .skip (.exit 2)) v41_16)
@[reducible] def v41_18 : VC := (.seq (.ops o41_11) v41_17)
-- K41_2: changed and kept: [20, 7]
@[reducible] def K41_2 : List Nat := [1, 5, 18, 19]
@[reducible] def v41_19 : VC := (.loop v41_18)
@[reducible] def v41_20 : VC := (.block 2 v41_19)
@[reducible] def o41_21 : List Ins := [⟨(some 33), .ld true 1 (.t 5), none, true⟩,
  ⟨(some 34), .mv (.t 7), none, true⟩,
  ⟨(some 35), .mm true (.t 33) (.t 34), none, true⟩,
  ⟨none, .st 1 (.t 5) (.t 35), none, true⟩]
@[reducible] def v41_22 : VC := (.seq (.seq (.ops o41_10) v41_20) (.ops o41_21))
@[reducible] def v41_23 : VC := (.seq (.ops o41_9) v41_22)
@[reducible] def v41_24 : VC := (.block 1 v41_23)
@[reducible] def o41_25 : List Ins := [⟨(some 6), .mv (.t 16), none, true⟩]
@[reducible] def K41_1 : List Nat := [1, 5, 15]
@[reducible] def v41_26 : VC := (.rng (.t 15) [16, 17] (.ops o41_25) v41_24)
@[reducible] def v41_27 : VC := (.block 0 v41_26)
@[reducible] def o41_28 : List Ins := [⟨(some 36), .ld true 1 (.t 5), none, true⟩,
  ⟨(some 2), .mv (.t 36), none, true⟩,
  ⟨(some 3), .mv (.k (.c (.int .i64 0))), none, true⟩]
@[reducible] def v41_29 : VC := (.seq (.ops o41_28) .ret)
@[reducible] def v41_30 : VC := (.seq (.seq (.ops o41_8) v41_27) v41_29)
@[reducible] def v41_31 : VC := (.seq (.ops o41_7) v41_30)
@[reducible] def v41_32 : VC := (.seq (.seq (.ops o41_1) v41_6) v41_31)
def ir41 : FC := ⟨1, 37, [.t 2, .t 3], (.seq (.ops o41_0) v41_32)⟩
theorem c41 : compM Try.prog [] 41 = some ir41 := by kernel_rfl



def cashS (r : Route) (t : List Nat) : Int := (t.map fun k => (r.s k).ca).sum
theorem cashS_snoc (r : Route) (t : List Nat) (k : Nat) : cashS r (t ++ [k]) = cashS r t + (r.s k).ca := by simp [cashS]
theorem cashS_ok {r : Route} (hr : RouteOk r) : ∀ {t : List Nat}, (∀ k ∈ t, k < r.n) → 0 ≤ cashS r t ∧ cashS r t ≤ 99999 * t.length
  | [], _ => by simp [cashS]
  | k :: t, h => by
    have ih := cashS_ok hr (t := t) fun j hj => h j (by simp [hj])
    have hk := hr.stop k (h k (by simp))
    simp only [cashS, List.map_cons, List.sum_cons, List.length_cons] at ih ⊢
    omega
def mostB (r : Route) (l : List (List Nat × Van)) : Int := (l.map fun p => cashS r p.1).foldl max 0
theorem mostB_snoc (r : Route) (l : List (List Nat × Van)) (p : List Nat × Van) : mostB r (l ++ [p]) = max (mostB r l) (cashS r p.1) := by simp [mostB]
def mostS (r : Route) : Int × Int := if r.ok then (mostB r (goods r), 0) else (0, 80)
theorem cellsT_getD {t : List Nat} {k : Nat} (h : k < t.length) (d : AV) : (cellsT t).getD k d = iv (t[k] : Int) := by simp [cellsT, h]

set_option maxHeartbeats 4000000 in
theorem most41 (r : Route) : FSpec Try.prog 41 [r.av] (.tup [iv (mostS r).1, iv (mostS r).2]) := by
  refine FSpec_of c41 (Nat.le_refl _) (by decide) fun C hP hN hC hL => ?_
  simp only [ir41, Route.av]
  (repeat ((first | refine WV_seq_ ?_ | refine WV_block ?_ | refine WV_ops ?_ | refine WV_skip ?_ | refine WV_exit ?_); (try simp only [go_sem, init_env', Nat.reduceEqDiff, Nat.reduceAdd, Nat.reduceMul, reduceIte, Nat.reduceLeDiff, Nat.reduceLT, Nat.reduceBEq, reduceCtorEq, hP, ]); (repeat (refine And.intro (by first | omega | (intros; simp_all; done) | (intros; simp_all; omega)) ?_))))
  (refine AS_pure (rcheck_spec r) rfl rfl rfl rfl rfl ?_; simp only [go_sem, init_env', Nat.reduceEqDiff, Nat.reduceAdd, Nat.reduceMul, reduceIte, Nat.reduceLeDiff, Nat.reduceLT, Nat.reduceBEq, reduceCtorEq, hP, Route.av]; (repeat (refine And.intro (by first | omega | (intros; simp_all; done) | (intros; simp_all; omega)) ?_)); (repeat ((first | refine WV_seq_ ?_ | refine WV_block ?_ | refine WV_ops ?_ | refine WV_skip ?_ | refine WV_exit ?_); (try simp only [go_sem, init_env', Nat.reduceEqDiff, Nat.reduceAdd, Nat.reduceMul, reduceIte, Nat.reduceLeDiff, Nat.reduceLT, Nat.reduceBEq, reduceCtorEq, hP, Route.av]); (repeat (refine And.intro (by first | omega | (intros; simp_all; done) | (intros; simp_all; omega)) ?_)))))
  by_cases hok : r.ok = true
  · have hr := Route.ok_spec hok
    have hn7 := hr.n7
    simp only [hok, if_true]
    (refine WV_cond rfl (fun h => ?_) (fun h => ?_))
    · simp at h
    · clear h
      have hsl : (r.stops.length : Int) = (r.n : Int) := rfl
      refine WV_freeze 1 (ds := r.cds) rfl rfl ?_
      (repeat ((first | refine WV_seq_ ?_ | refine WV_block ?_ | refine WV_ops ?_ | refine WV_skip ?_ | refine WV_exit ?_); (try simp only [go_sem, init_env', Nat.reduceEqDiff, Nat.reduceAdd, Nat.reduceMul, reduceIte, Nat.reduceLeDiff, Nat.reduceLT, Nat.reduceBEq, reduceCtorEq, hP, ]); (repeat (refine And.intro (by first | omega | (intros; simp_all; done) | (intros; simp_all; omega)) ?_))))
      (refine AS_pure (tours66 r) rfl rfl rfl rfl rfl ?_; simp only [go_sem, init_env', Nat.reduceEqDiff, Nat.reduceAdd, Nat.reduceMul, reduceIte, Nat.reduceLeDiff, Nat.reduceLT, Nat.reduceBEq, reduceCtorEq, hP, ]; (repeat (refine And.intro (by first | omega | (intros; simp_all; done) | (intros; simp_all; omega)) ?_)); (repeat ((first | refine WV_seq_ ?_ | refine WV_block ?_ | refine WV_ops ?_ | refine WV_skip ?_ | refine WV_exit ?_); (try simp only [go_sem, init_env', Nat.reduceEqDiff, Nat.reduceAdd, Nat.reduceMul, reduceIte, Nat.reduceLeDiff, Nat.reduceLT, Nat.reduceBEq, reduceCtorEq, hP, ]); (repeat (refine And.intro (by first | omega | (intros; simp_all; done) | (intros; simp_all; omega)) ?_)))))
      refine WV_keep K41_1 ?_
      simp only [go_sem, init_env', Nat.reduceEqDiff, Nat.reduceAdd, Nat.reduceMul, reduceIte, Nat.reduceLeDiff, Nat.reduceLT, Nat.reduceBEq, reduceCtorEq]
      refine WV_rng hC (L := [5]) (l := [.box [iv (mostB r [])]]) (env' := lendF [5] _ _) (rem := (goods r).map (entT r)) (Fin := fun pend lf => pend = none ∧ lf = [.box [iv (mostB r (goods r))]]) rfl rfl rfl (by decide) (by decide) ?_ (by rw [hN]; decide) (lendF_ok _ _ _) (fun g' => ?_) ?_ ?_
      · simp only [go_sem, init_env', Nat.reduceEqDiff, Nat.reduceAdd, Nat.reduceMul, reduceIte, Nat.reduceLeDiff, Nat.reduceLT, Nat.reduceBEq, reduceCtorEq, obsLend, Ob.lend, AV.lendL, AV.lend, mostB, List.foldl_nil]
      · rw [hP]; exact ⟨_, tours74 hr g', fun _ _ h => h⟩
      · refine RunR_pre (entT r) (fun pre => [.box [iv (mostB r pre)]]) (goods r) (fun p => rfl) (fun t _ => ⟨rfl, rfl⟩) (fun pre p post hts => ?_) (goods r) [] rfl
        have hpo := goods_ok hr p (by rw [hts]; simp)
        have hple := goods_len hr (p := p) (by rw [hts]; simp)
        have hprg : ∀ d, AV.prgL d (cellsT p.1) = cellsT p.1 := fun d => prgL_pure d (cellsT_pure _)
        simp only [mostB_snoc]
        intro C1 h1 h2 h3
        have hP0 := hP
        replace hP := h1.trans hP0
        rw [ownW_upd (by simp)]
        generalize mostB r pre = b
        simp only [go_sem, init_env', Nat.reduceEqDiff, Nat.reduceAdd, Nat.reduceMul, reduceIte, Nat.reduceLeDiff, Nat.reduceLT, Nat.reduceBEq, reduceCtorEq, lendF_upd, lendF_e0, AV.lend, AV.lendL, Option.getD_some, Option.getD_none, List.zip_cons_cons, List.zip_nil_right, updLo, entT, vanv]
        (repeat ((first | refine WV_seq_ ?_ | refine WV_block ?_ | refine WV_ops ?_ | refine WV_skip ?_ | refine WV_exit ?_); (try simp only [go_sem, init_env', Nat.reduceEqDiff, Nat.reduceAdd, Nat.reduceMul, reduceIte, Nat.reduceLeDiff, Nat.reduceLT, Nat.reduceBEq, reduceCtorEq, hP, ]); (repeat (refine And.intro (by first | omega | (intros; simp_all; done) | (intros; simp_all; omega)) ?_))))
        intro C2 h1 h2 h3
        replace hP := h1.trans hP0
        (repeat ((first | refine WV_seq_ ?_ | refine WV_block ?_ | refine WV_ops ?_ | refine WV_skip ?_ | refine WV_exit ?_); (try simp only [go_sem, init_env', Nat.reduceEqDiff, Nat.reduceAdd, Nat.reduceMul, reduceIte, Nat.reduceLeDiff, Nat.reduceLT, Nat.reduceBEq, reduceCtorEq, hP, hprg, Route.cds, stopsC]); (repeat (refine And.intro (by first | omega | (intros; simp_all; done) | (intros; simp_all; omega)) ?_))))
        refine WV_loopK K41_2 [] (fun k : Nat => k ≤ p.1.length) (fun k => p.1.length - k) (fun k => [(20, iv k), (7, iv (cashS r (p.1.take k)))]) (fun _ => []) 0 (Nat.zero_le _) ?_ ?_
        · (refine Sub_of (by simp only [go_sem, init_env', Nat.reduceEqDiff, Nat.reduceAdd, Nat.reduceMul, reduceIte, Nat.reduceLeDiff, Nat.reduceLT, Nat.reduceBEq, reduceCtorEq]; ((repeat' (first | exact EnvLe_e0 _ _ | refine EnvLe_upd ?_ ?_)) <;> ((try simp only [upd_app, e0_app, o0_app, Nat.reduceEqDiff, reduceIte]); first | exact AWk.refl _ _ | exact AWk.int (by omega) | exact AWk.int (by rw [w64 (by omega) (by omega)]; omega) | exact AWk.grow rfl | exact AWk.nil _ | exact AWk.of (by simp)))) (by simp only [go_sem, init_env', Nat.reduceEqDiff, Nat.reduceAdd, Nat.reduceMul, reduceIte, Nat.reduceLeDiff, Nat.reduceLT, Nat.reduceBEq, reduceCtorEq]; (first | ((repeat' (first | exact ObjLe_o0 _ | exact ObjLe.rfl' _ | refine ObjLe_same ?_ | refine ObjLe_upd ?_ ?_ | refine ObjLe_new rfl ?_)) <;> rfl) | (refine ObjLe_X ?_; (repeat' (first | exact ObjLeX_o0 _ _ | refine ObjLeX_skip rfl ?_ | refine ObjLeX_upd ?_ ?_)) <;> rfl))))
        · intro k hk
          simp only [go_sem, init_env', Nat.reduceEqDiff, Nat.reduceAdd, Nat.reduceMul, reduceIte, Nat.reduceLeDiff, Nat.reduceLT, Nat.reduceBEq, reduceCtorEq]
          (repeat ((first | refine WV_seq_ ?_ | refine WV_block ?_ | refine WV_ops ?_ | refine WV_skip ?_ | refine WV_exit ?_); (try simp only [go_sem, init_env', Nat.reduceEqDiff, Nat.reduceAdd, Nat.reduceMul, reduceIte, Nat.reduceLeDiff, Nat.reduceLT, Nat.reduceBEq, reduceCtorEq, hP, ]); (repeat (refine And.intro (by first | omega | (intros; simp_all; done) | (intros; simp_all; omega)) ?_))))
          (refine WV_cond rfl (fun h => ?_) (fun h => ?_))
          · have h : k < p.1.length := by simpa using h
            have hkk := hpo.2.1 _ (List.getElem_mem h)
            have hd1 : p.1[k] < r.stops.length := hkk
            have e1 : r.stops[p.1[k]] = r.s p.1[k] := by simp [Route.s, hd1]
            have hcs := cashS_ok hr (t := p.1.take k) fun j hj => hpo.2.1 j (List.mem_of_mem_take hj)
            have htl : (p.1.take k).length ≤ 7 := by rw [List.length_take]; omega
            have hca := hr.stop _ hkk
            have hw := w64 (n := cashS r (p.1.take k) + (r.s p.1[k]).ca) (by omega) (by omega)
            have hw2 := w64 (n := (k : Int) + 1) (by omega) (by omega)
            (repeat ((first | refine WV_seq_ ?_ | refine WV_block ?_ | refine WV_ops ?_ | refine WV_skip ?_ | refine WV_exit ?_); (try simp only [go_sem, init_env', Nat.reduceEqDiff, Nat.reduceAdd, Nat.reduceMul, reduceIte, Nat.reduceLeDiff, Nat.reduceLT, Nat.reduceBEq, reduceCtorEq, hP, hprg, Route.cds, stopsC, cellsT_len, cellsT_getD h, Int.toNat_natCast, Nat.mul_one, map_getD hd1, e1, Stop.cds, Int.ofNat_lt, h, hd1, Int.natCast_nonneg, hw, hw2]); (repeat (refine And.intro (by first | omega | (intros; simp_all; done) | (intros; simp_all; omega)) ?_))))
            refine ⟨k + 1, by omega, by omega, ?_⟩
            rw [List.take_succ_eq_append_getElem (by assumption), cashS_snoc]
            (refine Sub_of (by simp only [go_sem, init_env', Nat.reduceEqDiff, Nat.reduceAdd, Nat.reduceMul, reduceIte, Nat.reduceLeDiff, Nat.reduceLT, Nat.reduceBEq, reduceCtorEq]; ((repeat' (first | exact EnvLe_e0 _ _ | refine EnvLe_upd ?_ ?_)) <;> ((try simp only [upd_app, e0_app, o0_app, Nat.reduceEqDiff, reduceIte]); first | exact AWk.refl _ _ | exact AWk.int (by omega) | exact AWk.int (by rw [w64 (by omega) (by omega)]; omega) | exact AWk.grow rfl | exact AWk.nil _ | exact AWk.of (by simp)))) (by simp only [go_sem, init_env', Nat.reduceEqDiff, Nat.reduceAdd, Nat.reduceMul, reduceIte, Nat.reduceLeDiff, Nat.reduceLT, Nat.reduceBEq, reduceCtorEq]; (first | ((repeat' (first | exact ObjLe_o0 _ | exact ObjLe.rfl' _ | refine ObjLe_same ?_ | refine ObjLe_upd ?_ ?_ | refine ObjLe_new rfl ?_)) <;> rfl) | (refine ObjLe_X ?_; (repeat' (first | exact ObjLeX_o0 _ _ | refine ObjLeX_skip rfl ?_ | refine ObjLeX_upd ?_ ?_)) <;> rfl))))
          · have h : k = p.1.length := by simp at h; omega
            subst h
            rw [List.take_length]
            (repeat ((first | refine WV_seq_ ?_ | refine WV_block ?_ | refine WV_ops ?_ | refine WV_skip ?_ | refine WV_exit ?_); (try simp only [go_sem, init_env', Nat.reduceEqDiff, Nat.reduceAdd, Nat.reduceMul, reduceIte, Nat.reduceLeDiff, Nat.reduceLT, Nat.reduceBEq, reduceCtorEq, hP, hprg]); (repeat (refine And.intro (by first | omega | (intros; simp_all; done) | (intros; simp_all; omega)) ?_))))
            refine ⟨none, _, rfl, ?_, rfl, rfl⟩
            refine KeepL_mk rfl rfl ?_ ?_ rfl
            · simp only [go_sem, init_env', Nat.reduceEqDiff, Nat.reduceAdd, Nat.reduceMul, reduceIte, Nat.reduceLeDiff, Nat.reduceLT, Nat.reduceBEq, reduceCtorEq, keepAll, Ob.keepP, AV.keepP, AV.keepPL]
            · simp only [go_sem, init_env', Nat.reduceEqDiff, Nat.reduceAdd, Nat.reduceMul, reduceIte, Nat.reduceLeDiff, Nat.reduceLT, Nat.reduceBEq, reduceCtorEq, winAll]
      · rintro _ _ ⟨rfl, rfl⟩
        refine ⟨_, rfl, rfl, ?_⟩
        simp only [go_sem, init_env', Nat.reduceEqDiff, Nat.reduceAdd, Nat.reduceMul, reduceIte, Nat.reduceLeDiff, Nat.reduceLT, Nat.reduceBEq, reduceCtorEq, exitOf, ownBack]
        (repeat ((first | refine WV_seq_ ?_ | refine WV_block ?_ | refine WV_ops ?_ | refine WV_skip ?_ | refine WV_exit ?_); (try simp only [go_sem, init_env', Nat.reduceEqDiff, Nat.reduceAdd, Nat.reduceMul, reduceIte, Nat.reduceLeDiff, Nat.reduceLT, Nat.reduceBEq, reduceCtorEq, hP, ]); (repeat (refine And.intro (by first | omega | (intros; simp_all; done) | (intros; simp_all; omega)) ?_))))
        (refine WV_ret ?_; simp only [thenQ, inQ, RetQ, RetOk, resAll, resA]; simp only [go_sem, init_env', Nat.reduceEqDiff, Nat.reduceAdd, Nat.reduceMul, reduceIte, Nat.reduceLeDiff, Nat.reduceLT, Nat.reduceBEq, reduceCtorEq, tupA, AV.port, AV.portL, exists_eq_left', ]; (first | exact AVle.of rfl | refine AVle.of ?_ | skip))
        simp [mostS, hok]
  · have hok : r.ok = false := by simpa using hok
    simp only [hok, Bool.false_eq_true, if_false]
    (refine WV_cond rfl (fun h => ?_) (fun h => ?_))
    · (repeat ((first | refine WV_seq_ ?_ | refine WV_block ?_ | refine WV_ops ?_ | refine WV_skip ?_ | refine WV_exit ?_); (try simp only [go_sem, init_env', Nat.reduceEqDiff, Nat.reduceAdd, Nat.reduceMul, reduceIte, Nat.reduceLeDiff, Nat.reduceLT, Nat.reduceBEq, reduceCtorEq, hP, ]); (repeat (refine And.intro (by first | omega | (intros; simp_all; done) | (intros; simp_all; omega)) ?_))))
      (refine WV_ret ?_; simp only [thenQ, inQ, RetQ, RetOk, resAll, resA]; simp only [go_sem, init_env', Nat.reduceEqDiff, Nat.reduceAdd, Nat.reduceMul, reduceIte, Nat.reduceLeDiff, Nat.reduceLT, Nat.reduceBEq, reduceCtorEq, tupA, AV.port, AV.portL, exists_eq_left', ]; (first | exact AVle.of rfl | refine AVle.of ?_ | skip))
      simp [mostS, hok]
    · simp at h
end Go.Proofs.Ytbejgfpaokcnpaa
