/-
  Contracts of the layer's functions, of the laws' helpers and of the law; conditions: as each theorem states.
-/
import Derived.Test.YtnmchaemhjnkgaaV2
import Derived.Test.YtnmchaemhjnkgaaChecked
set_option linter.unusedVariables false
set_option linter.unusedSimpArgs false
/-
  Royals as data, and what comes of them: plain.
-/
namespace Go.Proofs.Ytnmchaemhjnkgaa
open Go Go.V

abbrev iv (n : Int) : AV := .c (.int .i64 n)
def ints (l : List Int) : CD := .sl 1 (l.map fun n => [.int .i64 n])

structure Part where
  who : Int
  pc : Int
  deriving DecidableEq, Inhabited
structure Side where
  plays : Int
  parts : List Part
  deriving DecidableEq, Inhabited
structure Royal where
  pool : Int
  sides : List Side
  owed : List Int
  deriving DecidableEq, Inhabited

def Part.cds (p : Part) : List CD := [.int .i64 p.who, .int .i64 p.pc]
def partsC (l : List Part) : CD := .sl 2 (l.map Part.cds)
def Side.cds (s : Side) : List CD := [.int .i64 s.plays, partsC s.parts]
def sidesC (l : List Side) : CD := .sl 2 (l.map Side.cds)
def Royal.cds (r : Royal) : List CD := [.int .i64 r.pool, sidesC r.sides, ints r.owed]
def Royal.av (r : Royal) : AV := .agg [iv r.pool, .c (sidesC r.sides), .c (ints r.owed)]

def within (n lo hi : Int) : Bool := decide (lo ≤ n) && decide (n ≤ hi)
def partBad (w last : Int) (p : Part) : Bool := decide (p.who ≤ last) || decide (w ≤ p.who) || !within p.pc 1 100
/-- Parts are in order, each of a writer, and 100 hundredths together. -/
def sharedB (w : Int) : Int → Int → List Part → Bool
  | s, _, [] => s == 100
  | s, last, p :: l => if partBad w last p then false else sharedB w (s + p.pc) p.who l
def okSide (w : Int) (s : Side) : Bool := within s.plays 0 9999 && sharedB w 0 (-1) s.parts
def Royal.n (r : Royal) : Nat := r.owed.length
def Royal.ok (r : Royal) : Bool := within r.pool 0 9999 && decide (r.owed.length ≤ 6) && decide (r.sides.length ≤ 6) && r.owed.all (fun n => within n 0 9999) && r.sides.all (okSide r.owed.length)

theorem ints_lens {l : List Int} (h : (ints l).lens) : l.length ≤ 9223372036854775807 := by
  simp only [ints, CD.lens, List.length_map, maxLen] at h; omega
theorem partsC_lens {l : List Part} (h : (partsC l).lens) : l.length ≤ 9223372036854775807 := by
  simp only [partsC, CD.lens, List.length_map, maxLen] at h; omega
theorem sidesC_lens {l : List Side} (h : (sidesC l).lens) : l.length ≤ 9223372036854775807 ∧ ∀ s ∈ l, s.parts.length ≤ 9223372036854775807 := by
  simp only [sidesC, CD.lens, List.length_map, maxLen, CD.lensE_mem] at h
  exact ⟨by omega, fun s hs => partsC_lens (h.2 s.cds (List.mem_map.2 ⟨s, hs, rfl⟩) _ (by simp [Side.cds]))⟩
theorem Royal.lens {r : Royal} {xs : List AV} (h : AV.lensL (r.av :: xs)) : r.sides.length ≤ 9223372036854775807 ∧ r.owed.length ≤ 9223372036854775807 ∧ ∀ s ∈ r.sides, s.parts.length ≤ 9223372036854775807 := by
  simp only [AV.lensL, Royal.av, AV.lens] at h
  exact ⟨(sidesC_lens h.1.2.1).1, ints_lens h.1.2.2.1, (sidesC_lens h.1.2.1).2⟩

theorem map_getD {α β : Type} {l : List α} {f : α → β} {k : Nat} {d : β} (h : k < l.length) : (l.map f).getD k d = f l[k] := by
  simp [h]
theorem take_all {α : Type} {l : List α} {k : Nat} (p : α → Bool) (h : k < l.length) : (l.take (k + 1)).all p = ((l.take k).all p && p l[k]) := by
  rw [List.take_succ_eq_append_getElem h, List.all_append]; simp [List.all_cons]
theorem ibeq (a b : Nat) : ((a : Int) == (b : Int)) = (a == b) := by rw [Bool.eq_iff_iff]; simp; omega
theorem ibne (a b : Nat) : ((a : Int) != (b : Int)) = !(a == b) := by rw [bne, ibeq]

/-- Behind the first k parts. -/
def sumT (l : List Part) (k : Nat) : Int := ((l.take k).map Part.pc).sum
def lastT (l : List Part) (k : Nat) : Int := match (l.take k).getLast? with | some p => p.who | none => -1
theorem sumT_succ {l : List Part} {k : Nat} (h : k < l.length) : sumT l (k + 1) = sumT l k + l[k].pc := by
  unfold sumT; rw [List.take_succ_eq_append_getElem h, List.map_append, List.sum_append]; simp
theorem lastT_succ {l : List Part} {k : Nat} (h : k < l.length) : lastT l (k + 1) = l[k].who := by
  unfold lastT; rw [List.take_succ_eq_append_getElem h, List.getLast?_concat]
theorem sharedB_step {w s last : Int} {l : List Part} {k : Nat} (h : k < l.length) (hb : partBad w last l[k] = false) : sharedB w s last (l.drop k) = sharedB w (s + l[k].pc) l[k].who (l.drop (k + 1)) := by
  rw [List.drop_eq_getElem_cons h, sharedB, hb]; rfl
theorem sharedB_bad {w s last : Int} {l : List Part} {k : Nat} (h : k < l.length) (hb : partBad w last l[k] = true) : sharedB w s last (l.drop k) = false := by
  rw [List.drop_eq_getElem_cons h, sharedB, hb]; rfl
/-- What is true of parts that are shared. -/
theorem sharedB_spec (w : Int) : ∀ (l : List Part) (s last : Int), sharedB w s last l = true → s + (l.map Part.pc).sum = 100 ∧ (∀ p ∈ l, last < p.who ∧ p.who < w ∧ 1 ≤ p.pc ∧ p.pc ≤ 100) ∧ l.Pairwise (fun a b => a.who < b.who) ∧ (-1 ≤ last → last < w → (l.length : Int) ≤ w - 1 - last)
  | [], s, last, h => by simp only [sharedB, beq_iff_eq] at h; simp [h]; intros; omega
  | p :: l, s, last, h => by
    simp only [sharedB] at h
    split at h
    · cases h
    · rename_i hb
      have hb : partBad w last p = false := by simpa using hb
      simp only [partBad, within, Bool.or_eq_false_iff, decide_eq_false_iff_not, Bool.not_eq_false', Bool.and_eq_true, decide_eq_true_eq] at hb
      obtain ⟨⟨h1, h2⟩, h3⟩ := hb
      obtain ⟨i1, i2, i3, i4⟩ := sharedB_spec w l _ _ h
      refine ⟨by simp only [List.map_cons, List.sum_cons]; omega, fun q hq => ?_, List.pairwise_cons.2 ⟨fun q hq => (i2 q hq).1, i3⟩, fun hl hw => ?_⟩
      · rcases List.mem_cons.1 hq with rfl | hq
        · omega
        · have := i2 q hq; omega
      · have := i4 (by omega) (by omega)
        simp only [List.length_cons]; omega

structure RoyalOk (r : Royal) : Prop where
  pool : 0 ≤ r.pool ∧ r.pool ≤ 9999
  n6 : r.n ≤ 6
  s6 : r.sides.length ≤ 6
  owed : ∀ x ∈ r.owed, 0 ≤ x ∧ x ≤ 9999
  plays : ∀ s ∈ r.sides, 0 ≤ s.plays ∧ s.plays ≤ 9999
  sum : ∀ s ∈ r.sides, (s.parts.map Part.pc).sum = 100
  part : ∀ s ∈ r.sides, ∀ p ∈ s.parts, 0 ≤ p.who ∧ p.who < (r.n : Int) ∧ 1 ≤ p.pc ∧ p.pc ≤ 100
  asc : ∀ s ∈ r.sides, s.parts.Pairwise (fun a b => a.who < b.who)
  p6 : ∀ s ∈ r.sides, s.parts.length ≤ 6
theorem Royal.ok_spec {r : Royal} (h : r.ok = true) : RoyalOk r := by
  simp only [Royal.ok, Bool.and_eq_true, decide_eq_true_eq, List.all_eq_true, okSide, within] at h
  obtain ⟨⟨⟨⟨h1, h2⟩, h3⟩, h4⟩, h5⟩ := h
  have hs := fun s hs => sharedB_spec _ _ _ _ (h5 s hs).2
  refine ⟨h1, h2, h3, h4, fun s hs => (h5 s hs).1, fun s h => ?_, fun s h p hp => ?_, fun s h => (hs s h).2.2.1, fun s h => ?_⟩
  · have := (hs s h).1; omega
  · have := (hs s h).2.1 p hp; unfold Royal.n; omega
  · by_cases hn : r.owed.length = 0
    · cases hp : s.parts with
      | nil => simp
      | cons p l =>
        have := (hs s h).2.1 p (by rw [hp]; simp)
        omega
    · have := (hs s h).2.2.2 (by omega) (by omega)
      omega
end Go.Proofs.Ytnmchaemhjnkgaa

namespace Go.Proofs.Ytnmchaemhjnkgaa
open Go Go.V
@[reducible] def o49_0 : List Ins := [⟨(some 6), .mv (.k (.c (.bool false))), none, true⟩]
@[reducible] def o49_1 : List Ins := [⟨(some 7), .mv (.t 0), none, true⟩,
  ⟨(some 8), .mv (.t 1), none, true⟩,
  ⟨(some 9), .bin .geq (.t 7) (.t 8), none, true⟩,
  ⟨(some 10), .mv (.t 9), none, true⟩,
  ⟨(some 11), .mv (.t 0), (some (10, true)), true⟩,
  ⟨(some 12), .mv (.t 2), (some (10, true)), true⟩,
  ⟨(some 13), .bin .leq (.t 11) (.t 12), (some (10, true)), true⟩,
  ⟨(some 14), .pick (.t 10) (.t 13) (.k (.c (.bool false))), none, true⟩,
  ⟨(some 6), .mv (.t 14), none, true⟩]
@[reducible] def v49_2 : VC := (.seq (.ops o49_1) .ret)
def ir49 : FC := ⟨3, 15, [.t 6], (.seq (.ops o49_0) v49_2)⟩
@[reducible] def o53_0 : List Ins := [⟨(some 4), .mv (.k (.c (.bool false))), none, true⟩]
@[reducible] def o53_1 : List Ins := [⟨(some 5), .mv (.k (.c (.int .i64 0))), none, true⟩,
  ⟨(some 6), .mv (.k (.c (.int .i64 (-1)))), none, true⟩]
@[reducible] def o53_2 : List Ins := [⟨(some 9), .mv (.t 0), none, true⟩,
  ⟨(some 10), .len (.t 9), none, true⟩,
  ⟨(some 11), .mv (.k (.c (.int .i64 0))), none, true⟩]
@[reducible] def o53_3 : List Ins := [⟨(some 12), .bin .lss (.t 11) (.t 10), none, true⟩]
@[reducible] def o53_4 : List Ins := [⟨(some 13), .ia 2 (.t 9) (.t 11), none, true⟩,
  ⟨(some 14), .ld false 2 (.t 13), none, true⟩,
  ⟨(some 8), .alloc [(.c (.int .i64 0)), (.c (.int .i64 0))], none, true⟩,
  ⟨none, .st 2 (.t 8) (.t 14), none, true⟩]
@[reducible] def o53_5 : List Ins := [⟨(some 15), .fa 0 (.t 8), none, true⟩,
  ⟨(some 16), .ld true 1 (.t 15), none, true⟩,
  ⟨(some 17), .mv (.t 6), none, true⟩,
  ⟨(some 18), .bin .leq (.t 16) (.t 17), none, true⟩,
  ⟨(some 19), .mv (.t 18), none, true⟩,
  ⟨(some 20), .fa 0 (.t 8), (some (19, false)), true⟩,
  ⟨(some 21), .ld true 1 (.t 20), (some (19, false)), true⟩,
  ⟨(some 22), .mv (.t 1), (some (19, false)), true⟩,
  ⟨(some 23), .bin .geq (.t 21) (.t 22), (some (19, false)), true⟩,
  ⟨(some 24), .pick (.t 19) (.k (.c (.bool true))) (.t 23), none, true⟩,
  ⟨(some 25), .mv (.t 24), none, true⟩,
  ⟨(some 26), .fa 1 (.t 8), (some (25, false)), true⟩,
  ⟨(some 27), .ld true 1 (.t 26), (some (25, false)), true⟩,
  ⟨(some 28), .call (.k (.fn 49 [])) [(.t 27), (.k (.c (.int .i64 1))), (.k (.c (.int .i64 100)))], (some (25, false)), true⟩,
  ⟨(some 29), .un .not (.t 28), (some (25, false)), true⟩,
  ⟨(some 30), .pick (.t 25) (.k (.c (.bool true))) (.t 29), none, true⟩]
@[reducible] def o53_6 : List Ins := [⟨(some 4), .mv (.k (.c (.bool false))), none, true⟩]
@[reducible] def v53_7 : VC := (.seq (.ops o53_6) .ret)
@[reducible] def v53_8 : VC := (.cond (.t 30) v53_7 .skip)
@[reducible] def o53_9 : List Ins := [⟨(some 31), .mv (.t 5), none, false⟩,
  ⟨(some 32), .fa 1 (.t 8), none, false⟩,
  ⟨(some 33), .ld true 1 (.t 32), none, false⟩,
  ⟨(some 34), .bin .add (.t 31) (.t 33), none, false⟩,
  ⟨(some 35), .fa 0 (.t 8), none, false⟩,
  ⟨(some 36), .ld true 1 (.t 35), none, false⟩,
  ⟨(some 5), .mv (.t 34), none, false⟩,
  ⟨(some 6), .mv (.t 36), none, true⟩]
@[reducible] def v53_10 : VC := (.seq (.seq (.ops o53_5) v53_8) (.ops o53_9))
@[reducible] def v53_11 : VC := (.seq (.ops o53_4) v53_10)
@[reducible] def o53_12 : List Ins := [⟨(some 37), .bin .add (.t 11) (.k (.c (.int .i64 1))), none, true⟩,
  ⟨(some 11), .mv (.t 37), none, true⟩]
@[reducible] def v53_13 : VC := (.seq (.block 1 v53_11) (.ops o53_12))
@[reducible] def v53_14 : VC := (.seq (.cond (.t 12) .skip (.exit 0)) v53_13)
@[reducible] def v53_15 : VC := (.seq (.ops o53_3) v53_14)
-- K53_1: changed and kept: [11, 6, 5]
@[reducible] def K53_1 : List Nat := [1, 9, 10]
@[reducible] def v53_16 : VC := (.loop v53_15)
@[reducible] def v53_17 : VC := (.block 0 v53_16)
@[reducible] def o53_18 : List Ins := [⟨(some 38), .mv (.t 5), none, true⟩,
  ⟨(some 39), .bin .eql (.t 38) (.k (.c (.int .i64 100))), none, true⟩,
  ⟨(some 4), .mv (.t 39), none, true⟩]
@[reducible] def v53_19 : VC := (.seq (.ops o53_18) .ret)
@[reducible] def v53_20 : VC := (.seq (.seq (.ops o53_2) v53_17) v53_19)
@[reducible] def v53_21 : VC := (.seq (.ops o53_1) v53_20)
def ir53 : FC := ⟨2, 40, [.t 4], (.seq (.ops o53_0) v53_21)⟩
@[reducible] def o30_0 : List Ins := [⟨(some 1), .box 3 (.t 0), none, true⟩,
  ⟨(some 2), .mv (.k (.c (.int .i64 0))), none, true⟩]
@[reducible] def o30_1 : List Ins := [⟨(some 8), .fa 0 (.t 1), none, true⟩,
  ⟨(some 9), .ld true 1 (.t 8), none, true⟩,
  ⟨(some 10), .call (.k (.fn 49 [])) [(.t 9), (.k (.c (.int .i64 0))), (.k (.c (.int .i64 9999)))], none, true⟩,
  ⟨(some 11), .mv (.t 10), none, true⟩,
  ⟨(some 12), .fa 2 (.t 1), (some (11, true)), true⟩,
  ⟨(some 13), .ld true 1 (.t 12), (some (11, true)), true⟩,
  ⟨(some 14), .len (.t 13), (some (11, true)), true⟩,
  ⟨(some 15), .bin .leq (.t 14) (.k (.c (.int .i64 6))), (some (11, true)), true⟩,
  ⟨(some 16), .pick (.t 11) (.t 15) (.k (.c (.bool false))), none, true⟩,
  ⟨(some 17), .mv (.t 16), none, true⟩,
  ⟨(some 18), .fa 1 (.t 1), (some (17, true)), true⟩,
  ⟨(some 19), .ld true 1 (.t 18), (some (17, true)), true⟩,
  ⟨(some 20), .len (.t 19), (some (17, true)), true⟩,
  ⟨(some 21), .bin .leq (.t 20) (.k (.c (.int .i64 6))), (some (17, true)), true⟩,
  ⟨(some 22), .pick (.t 17) (.t 21) (.k (.c (.bool false))), none, true⟩,
  ⟨(some 3), .mv (.t 22), none, true⟩]
@[reducible] def o30_2 : List Ins := [⟨(some 23), .fa 2 (.t 1), none, true⟩,
  ⟨(some 24), .ld true 1 (.t 23), none, true⟩,
  ⟨(some 25), .len (.t 24), none, true⟩,
  ⟨(some 26), .mv (.k (.c (.int .i64 0))), none, true⟩]
@[reducible] def o30_3 : List Ins := [⟨(some 27), .bin .lss (.t 26) (.t 25), none, true⟩]
@[reducible] def o30_4 : List Ins := [⟨(some 28), .ia 1 (.t 24) (.t 26), none, true⟩,
  ⟨(some 29), .ld true 1 (.t 28), none, true⟩,
  ⟨(some 5), .mv (.t 29), none, true⟩]
@[reducible] def o30_5 : List Ins := [⟨(some 30), .mv (.t 3), none, true⟩,
  ⟨(some 31), .mv (.t 30), none, true⟩,
  ⟨(some 32), .mv (.t 5), (some (31, true)), true⟩,
  ⟨(some 33), .call (.k (.fn 49 [])) [(.t 32), (.k (.c (.int .i64 0))), (.k (.c (.int .i64 9999)))], (some (31, true)), true⟩,
  ⟨(some 34), .pick (.t 31) (.t 33) (.k (.c (.bool false))), none, true⟩,
  ⟨(some 3), .mv (.t 34), none, true⟩]
@[reducible] def v30_6 : VC := (.seq (.ops o30_4) (.ops o30_5))
@[reducible] def o30_7 : List Ins := [⟨(some 35), .bin .add (.t 26) (.k (.c (.int .i64 1))), none, true⟩,
  ⟨(some 26), .mv (.t 35), none, true⟩]
@[reducible] def v30_8 : VC := (.seq (.block 1 v30_6) (.ops o30_7))
@[reducible] def v30_9 : VC := (.seq (.cond (.t 27) .skip (.exit 0)) v30_8)
@[reducible] def v30_10 : VC := (.seq (.ops o30_3) v30_9)
-- K30_1: changed and kept: [26, 3]
@[reducible] def K30_1 : List Nat := [1, 24, 25]
@[reducible] def v30_11 : VC := (.loop v30_10)
@[reducible] def v30_12 : VC := (.block 0 v30_11)
@[reducible] def o30_13 : List Ins := [⟨(some 36), .fa 1 (.t 1), none, true⟩,
  ⟨(some 37), .ld true 1 (.t 36), none, true⟩,
  ⟨(some 38), .len (.t 37), none, true⟩,
  ⟨(some 39), .mv (.k (.c (.int .i64 0))), none, true⟩]
@[reducible] def o30_14 : List Ins := [⟨(some 40), .bin .lss (.t 39) (.t 38), none, true⟩]
@[reducible] def o30_15 : List Ins := [⟨(some 41), .ia 2 (.t 37) (.t 39), none, true⟩,
  ⟨(some 42), .ld false 2 (.t 41), none, true⟩,
  ⟨(some 7), .alloc [(.c (.int .i64 0)), (.c (.raw (.slice none 0 0)))], none, true⟩,
  ⟨none, .st 2 (.t 7) (.t 42), none, true⟩]
@[reducible] def o30_16 : List Ins := [⟨(some 43), .mv (.t 3), none, true⟩,
  ⟨(some 44), .mv (.t 43), none, true⟩,
  ⟨(some 45), .fa 0 (.t 7), (some (44, true)), true⟩,
  ⟨(some 46), .ld true 1 (.t 45), (some (44, true)), true⟩,
  ⟨(some 47), .call (.k (.fn 49 [])) [(.t 46), (.k (.c (.int .i64 0))), (.k (.c (.int .i64 9999)))], (some (44, true)), true⟩,
  ⟨(some 48), .pick (.t 44) (.t 47) (.k (.c (.bool false))), none, true⟩,
  ⟨(some 49), .mv (.t 48), none, true⟩,
  ⟨(some 50), .fa 1 (.t 7), (some (49, true)), true⟩,
  ⟨(some 51), .ld true 1 (.t 50), (some (49, true)), true⟩,
  ⟨(some 52), .fa 2 (.t 1), (some (49, true)), true⟩,
  ⟨(some 53), .ld true 1 (.t 52), (some (49, true)), true⟩,
  ⟨(some 54), .len (.t 53), (some (49, true)), true⟩,
  ⟨(some 55), .call (.k (.fn 53 [])) [(.t 51), (.t 54)], (some (49, true)), true⟩,
  ⟨(some 56), .pick (.t 49) (.t 55) (.k (.c (.bool false))), none, true⟩,
  ⟨(some 3), .mv (.t 56), none, true⟩]
@[reducible] def v30_17 : VC := (.seq (.ops o30_15) (.ops o30_16))
@[reducible] def o30_18 : List Ins := [⟨(some 57), .bin .add (.t 39) (.k (.c (.int .i64 1))), none, true⟩,
  ⟨(some 39), .mv (.t 57), none, true⟩]
@[reducible] def v30_19 : VC := (.seq (.block 3 v30_17) (.ops o30_18))
@[reducible] def v30_20 : VC := (.seq (.cond (.t 40) .skip (.exit 2)) v30_19)
@[reducible] def v30_21 : VC := (.seq (.ops o30_14) v30_20)
-- K30_2: changed and kept: [39, 3]
@[reducible] def K30_2 : List Nat := [1, 37, 38]
@[reducible] def v30_22 : VC := (.loop v30_21)
@[reducible] def v30_23 : VC := (.block 2 v30_22)
@[reducible] def o30_24 : List Ins := [⟨(some 58), .mv (.t 3), none, true⟩,
  ⟨(some 59), .un .not (.t 58), none, true⟩]
@[reducible] def o30_25 : List Ins := [⟨(some 2), .mv (.k (.c (.int .i64 100))), none, true⟩]
@[reducible] def v30_26 : VC := (.seq (.ops o30_25) .ret)
@[reducible] def v30_27 : VC := (.cond (.t 59) v30_26 .skip)
@[reducible] def o30_28 : List Ins := [⟨(some 2), .mv (.k (.c (.int .i64 0))), none, true⟩]
@[reducible] def v30_29 : VC := (.seq (.ops o30_28) .ret)
@[reducible] def v30_30 : VC := (.seq (.seq (.ops o30_24) v30_27) v30_29)
@[reducible] def v30_31 : VC := (.seq (.seq (.ops o30_13) v30_23) v30_30)
@[reducible] def v30_32 : VC := (.seq (.seq (.ops o30_2) v30_12) v30_31)
@[reducible] def v30_33 : VC := (.seq (.ops o30_1) v30_32)
def ir30 : FC := ⟨1, 60, [.t 2], (.seq (.ops o30_0) v30_33)⟩
@[reducible] def o48_0 : List Ins := [⟨(some 2), .box 3 (.t 0), none, true⟩,
  ⟨(some 4), .mv (.k (.c (.bool false))), none, true⟩]
@[reducible] def o48_1 : List Ins := [⟨(some 5), .mv (.t 1), none, true⟩,
  ⟨(some 6), .fa 2 (.t 2), none, true⟩,
  ⟨(some 7), .ld true 1 (.t 6), none, true⟩,
  ⟨(some 8), .len (.t 7), none, true⟩,
  ⟨(some 9), .bin .sub (.t 8) (.k (.c (.int .i64 1))), none, true⟩,
  ⟨(some 10), .call (.k (.fn 49 [])) [(.t 5), (.k (.c (.int .i64 0))), (.t 9)], none, true⟩,
  ⟨(some 4), .mv (.t 10), none, true⟩]
@[reducible] def v48_2 : VC := (.seq (.ops o48_1) .ret)
def ir48 : FC := ⟨2, 11, [.t 4], (.seq (.ops o48_0) v48_2)⟩
theorem c49 : compM Try.prog [] 49 = some ir49 := by kernel_rfl
theorem c53 : compM Try.prog [] 53 = some ir53 := by kernel_rfl
theorem c30 : compM Try.prog [] 30 = some ir30 := by kernel_rfl
theorem c48 : compM Try.prog [] 48 = some ir48 := by kernel_rfl



theorem wi49 (a b c : Int) : FSpec Try.prog 49 [iv a, iv b, iv c] (.c (.bool (within a b c))) := by
  refine FSpec_of c49 (Nat.le_refl _) (by decide) fun C hP hN hC hL => ?_
  simp only [ir49]
  (repeat ((first | refine WV_seq_ ?_ | refine WV_block ?_ | refine WV_ops ?_ | refine WV_skip ?_ | refine WV_exit ?_); (try simp only [go_sem, init_env', Nat.reduceEqDiff, Nat.reduceAdd, Nat.reduceMul, reduceIte, Nat.reduceLeDiff, Nat.reduceLT, Nat.reduceBEq, reduceCtorEq, hP, ]); (repeat (refine And.intro (by first | omega | (intros; simp_all; done) | (intros; simp_all; omega)) ?_))))
  (refine WV_ret ?_; simp only [thenQ, inQ, RetQ, RetOk, resAll, resA]; simp only [go_sem, init_env', Nat.reduceEqDiff, Nat.reduceAdd, Nat.reduceMul, reduceIte, Nat.reduceLeDiff, Nat.reduceLT, Nat.reduceBEq, reduceCtorEq, tupA, AV.port, AV.portL, exists_eq_left', ]; (first | exact AVle.of rfl | refine AVle.of ?_ | skip))

set_option maxHeartbeats 4000000 in
theorem shared53 (l : List Part) (w : Nat) (hw : w ≤ 6) : FSpec Try.prog 53 [.c (partsC l), iv w] (.c (.bool (sharedB w 0 (-1) l))) := by
  refine FSpec_of c53 (Nat.le_refl _) (by decide) fun C hP hN hC hL => ?_
  have hl : l.length ≤ 9223372036854775807 := by simp only [AV.lensL, AV.lens] at hL; exact partsC_lens hL.1
  simp only [ir53, partsC]
  (repeat ((first | refine WV_seq_ ?_ | refine WV_block ?_ | refine WV_ops ?_ | refine WV_skip ?_ | refine WV_exit ?_); (try simp only [go_sem, init_env', Nat.reduceEqDiff, Nat.reduceAdd, Nat.reduceMul, reduceIte, Nat.reduceLeDiff, Nat.reduceLT, Nat.reduceBEq, reduceCtorEq, hP, ]); (repeat (refine And.intro (by first | omega | (intros; simp_all; done) | (intros; simp_all; omega)) ?_))))
  (refine WV_loopK K53_1 [] (fun k : Nat => k ≤ l.length ∧ sharedB w 0 (-1) l = sharedB w (sumT l k) (lastT l k) (l.drop k) ∧ 0 ≤ sumT l k ∧ sumT l k ≤ 100 * (lastT l k + 1) ∧ lastT l k < 7) (fun k => l.length - k) (fun k => [(11, iv k), (5, iv (sumT l k)), (6, iv (lastT l k))]) (fun _ => []) 0 ⟨Nat.zero_le _, by simp [sumT, lastT]⟩ ?_ ?_)
  · (refine Sub_of (by simp only [go_sem, init_env', Nat.reduceEqDiff, Nat.reduceAdd, Nat.reduceMul, reduceIte, Nat.reduceLeDiff, Nat.reduceLT, Nat.reduceBEq, reduceCtorEq]; ((repeat' (first | exact EnvLe_e0 _ _ | refine EnvLe_upd ?_ ?_)) <;> ((try simp only [upd_app, e0_app, o0_app, Nat.reduceEqDiff, reduceIte]); first | exact AWk.refl _ _ | exact AWk.int (by omega) | exact AWk.int (by rw [w64 (by omega) (by omega)]; omega) | exact AWk.grow rfl | exact AWk.nil _ | exact AWk.of (by simp [sumT, lastT])))) (by simp only [go_sem, init_env', Nat.reduceEqDiff, Nat.reduceAdd, Nat.reduceMul, reduceIte, Nat.reduceLeDiff, Nat.reduceLT, Nat.reduceBEq, reduceCtorEq]; ((repeat' (first | exact ObjLe_o0 _ | exact ObjLe.rfl' _ | refine ObjLe_same ?_ | refine ObjLe_upd ?_ ?_ | refine ObjLe_new rfl ?_)) <;> rfl)))
  · intro k ⟨hk, h1, h2, h3, h4⟩
    simp only [go_sem, init_env', Nat.reduceEqDiff, Nat.reduceAdd, Nat.reduceMul, reduceIte, Nat.reduceLeDiff, Nat.reduceLT, Nat.reduceBEq, reduceCtorEq]
    (repeat ((first | refine WV_seq_ ?_ | refine WV_block ?_ | refine WV_ops ?_ | refine WV_skip ?_ | refine WV_exit ?_); (try simp only [go_sem, init_env', Nat.reduceEqDiff, Nat.reduceAdd, Nat.reduceMul, reduceIte, Nat.reduceLeDiff, Nat.reduceLT, Nat.reduceBEq, reduceCtorEq, hP, ]); (repeat (refine And.intro (by first | omega | (intros; simp_all; done) | (intros; simp_all; omega)) ?_))))
    (refine WV_cond rfl (fun h => ?_) (fun h => ?_))
    · have h : k < l.length := by simpa using h
      (repeat ((first | refine WV_seq_ ?_ | refine WV_block ?_ | refine WV_ops ?_ | refine WV_skip ?_ | refine WV_exit ?_); (try simp only [go_sem, init_env', Nat.reduceEqDiff, Nat.reduceAdd, Nat.reduceMul, reduceIte, Nat.reduceLeDiff, Nat.reduceLT, Nat.reduceBEq, reduceCtorEq, hP, Int.toNat_natCast, map_getD h, List.length_map, Int.ofNat_lt, h, Int.natCast_nonneg, Part.cds]); (repeat (refine And.intro (by first | omega | (intros; simp_all; done) | (intros; simp_all; omega)) ?_))))
      (refine AG_pure (fun hG => wi49 _ _ _) rfl (fun hG => by first | (simp only [go_sem, init_env', Nat.reduceEqDiff, Nat.reduceAdd, Nat.reduceMul, reduceIte, Nat.reduceLeDiff, Nat.reduceLT, Nat.reduceBEq, reduceCtorEq, hG]; done) | (simp only [go_sem, init_env', Nat.reduceEqDiff, Nat.reduceAdd, Nat.reduceMul, reduceIte, Nat.reduceLeDiff, Nat.reduceLT, Nat.reduceBEq, reduceCtorEq]; revert hG; simp; done) | (simp only [go_sem, init_env', Nat.reduceEqDiff, Nat.reduceAdd, Nat.reduceMul, reduceIte, Nat.reduceLeDiff, Nat.reduceLT, Nat.reduceBEq, reduceCtorEq, hG]; simp_all; done) | (revert hG; simp; done) | simp_all) rfl rfl rfl ?_; simp only [go_sem, init_env', Nat.reduceEqDiff, Nat.reduceAdd, Nat.reduceMul, reduceIte, Nat.reduceLeDiff, Nat.reduceLT, Nat.reduceBEq, reduceCtorEq, hP, ]; (repeat (refine And.intro (by first | omega | (intros; simp_all; done) | (intros; simp_all; omega)) ?_)); (repeat ((first | refine WV_seq_ ?_ | refine WV_block ?_ | refine WV_ops ?_ | refine WV_skip ?_ | refine WV_exit ?_); (try simp only [go_sem, init_env', Nat.reduceEqDiff, Nat.reduceAdd, Nat.reduceMul, reduceIte, Nat.reduceLeDiff, Nat.reduceLT, Nat.reduceBEq, reduceCtorEq, hP, ]); (repeat (refine And.intro (by first | omega | (intros; simp_all; done) | (intros; simp_all; omega)) ?_)))))
      have hb : (decide (l[k].who ≤ lastT l k) || decide ((w : Int) ≤ l[k].who) || !within l[k].pc 1 100) = partBad w (lastT l k) l[k] := rfl
      refine WV_cond rfl (fun h5 => ?_) (fun h5 => ?_)
      · have h5 : partBad w (lastT l k) l[k] = true := by rw [← hb]; simpa [Bool.or_assoc] using h5
        (repeat ((first | refine WV_seq_ ?_ | refine WV_block ?_ | refine WV_ops ?_ | refine WV_skip ?_ | refine WV_exit ?_); (try simp only [go_sem, init_env', Nat.reduceEqDiff, Nat.reduceAdd, Nat.reduceMul, reduceIte, Nat.reduceLeDiff, Nat.reduceLT, Nat.reduceBEq, reduceCtorEq, hP, ]); (repeat (refine And.intro (by first | omega | (intros; simp_all; done) | (intros; simp_all; omega)) ?_))))
        (refine WV_ret ?_; simp only [thenQ, inQ, RetQ, RetOk, resAll, resA]; simp only [go_sem, init_env', Nat.reduceEqDiff, Nat.reduceAdd, Nat.reduceMul, reduceIte, Nat.reduceLeDiff, Nat.reduceLT, Nat.reduceBEq, reduceCtorEq, tupA, AV.port, AV.portL, exists_eq_left', ]; (first | exact AVle.of rfl | refine AVle.of ?_ | skip))
        rw [h1, sharedB_bad h h5]
      · have h5 : partBad w (lastT l k) l[k] = false := by rw [← hb]; simpa [Bool.or_assoc] using h5
        have h6 := h5
        simp only [partBad, within, Bool.or_eq_false_iff, decide_eq_false_iff_not, Bool.not_eq_false', Bool.and_eq_true, decide_eq_true_eq] at h6
        have hs := sumT_succ h
        have ht := lastT_succ h
        have hw1 := w64 (n := sumT l k + l[k].pc) (by omega) (by omega)
        have hw2 := w64 (n := (k : Int) + 1) (by omega) (by omega)
        (repeat ((first | refine WV_seq_ ?_ | refine WV_block ?_ | refine WV_ops ?_ | refine WV_skip ?_ | refine WV_exit ?_); (try simp only [go_sem, init_env', Nat.reduceEqDiff, Nat.reduceAdd, Nat.reduceMul, reduceIte, Nat.reduceLeDiff, Nat.reduceLT, Nat.reduceBEq, reduceCtorEq, hP, hw1, hw2]); (repeat (refine And.intro (by first | omega | (intros; simp_all; done) | (intros; simp_all; omega)) ?_))))
        refine ⟨k + 1, ⟨by omega, ?_, by omega, by omega, by omega⟩, by omega, ?_⟩
        · rw [h1, sharedB_step h h5, hs, ht]
        · rw [hs, ht]
          (refine Sub_of (by simp only [go_sem, init_env', Nat.reduceEqDiff, Nat.reduceAdd, Nat.reduceMul, reduceIte, Nat.reduceLeDiff, Nat.reduceLT, Nat.reduceBEq, reduceCtorEq]; ((repeat' (first | exact EnvLe_e0 _ _ | refine EnvLe_upd ?_ ?_)) <;> ((try simp only [upd_app, e0_app, o0_app, Nat.reduceEqDiff, reduceIte]); first | exact AWk.refl _ _ | exact AWk.int (by omega) | exact AWk.int (by rw [w64 (by omega) (by omega)]; omega) | exact AWk.grow rfl | exact AWk.nil _ | exact AWk.of (by simp)))) (by simp only [go_sem, init_env', Nat.reduceEqDiff, Nat.reduceAdd, Nat.reduceMul, reduceIte, Nat.reduceLeDiff, Nat.reduceLT, Nat.reduceBEq, reduceCtorEq]; ((repeat' (first | exact ObjLe_o0 _ | exact ObjLe.rfl' _ | refine ObjLe_same ?_ | refine ObjLe_upd ?_ ?_ | refine ObjLe_new rfl ?_)) <;> rfl)))
    · have h : k = l.length := by simp at h; omega
      subst h
      (repeat ((first | refine WV_seq_ ?_ | refine WV_block ?_ | refine WV_ops ?_ | refine WV_skip ?_ | refine WV_exit ?_); (try simp only [go_sem, init_env', Nat.reduceEqDiff, Nat.reduceAdd, Nat.reduceMul, reduceIte, Nat.reduceLeDiff, Nat.reduceLT, Nat.reduceBEq, reduceCtorEq, hP, ]); (repeat (refine And.intro (by first | omega | (intros; simp_all; done) | (intros; simp_all; omega)) ?_))))
      (refine WV_ret ?_; simp only [thenQ, inQ, RetQ, RetOk, resAll, resA]; simp only [go_sem, init_env', Nat.reduceEqDiff, Nat.reduceAdd, Nat.reduceMul, reduceIte, Nat.reduceLeDiff, Nat.reduceLT, Nat.reduceBEq, reduceCtorEq, tupA, AV.port, AV.portL, exists_eq_left', ]; (first | exact AVle.of rfl | refine AVle.of ?_ | skip))
      rw [h1, List.drop_length]
      rfl

set_option maxHeartbeats 4000000 in
theorem check30 (r : Royal) : FSpec Try.prog 30 [r.av] (iv (if r.ok then 0 else 100)) := by
  refine FSpec_of c30 (Nat.le_refl _) (by decide) fun C hP hN hC hL => ?_
  obtain ⟨h1, h2, h3⟩ := Royal.lens hL
  simp only [ir30, Royal.av, sidesC, ints]
  (repeat ((first | refine WV_seq_ ?_ | refine WV_block ?_ | refine WV_ops ?_ | refine WV_skip ?_ | refine WV_exit ?_); (try simp only [go_sem, init_env', Nat.reduceEqDiff, Nat.reduceAdd, Nat.reduceMul, reduceIte, Nat.reduceLeDiff, Nat.reduceLT, Nat.reduceBEq, reduceCtorEq, hP, ]); (repeat (refine And.intro (by first | omega | (intros; simp_all; done) | (intros; simp_all; omega)) ?_))))
  (refine AS_pure (wi49 _ _ _) rfl rfl rfl rfl rfl ?_; simp only [go_sem, init_env', Nat.reduceEqDiff, Nat.reduceAdd, Nat.reduceMul, reduceIte, Nat.reduceLeDiff, Nat.reduceLT, Nat.reduceBEq, reduceCtorEq, hP, ]; (repeat (refine And.intro (by first | omega | (intros; simp_all; done) | (intros; simp_all; omega)) ?_)); (repeat ((first | refine WV_seq_ ?_ | refine WV_block ?_ | refine WV_ops ?_ | refine WV_skip ?_ | refine WV_exit ?_); (try simp only [go_sem, init_env', Nat.reduceEqDiff, Nat.reduceAdd, Nat.reduceMul, reduceIte, Nat.reduceLeDiff, Nat.reduceLT, Nat.reduceBEq, reduceCtorEq, hP, ]); (repeat (refine And.intro (by first | omega | (intros; simp_all; done) | (intros; simp_all; omega)) ?_)))))
  (repeat ((first | refine WV_seq_ ?_ | refine WV_block ?_ | refine WV_ops ?_ | refine WV_skip ?_ | refine WV_exit ?_); (try simp only [go_sem, init_env', Nat.reduceEqDiff, Nat.reduceAdd, Nat.reduceMul, reduceIte, Nat.reduceLeDiff, Nat.reduceLT, Nat.reduceBEq, reduceCtorEq, hP, List.length_map]); (repeat (refine And.intro (by first | omega | (intros; simp_all; done) | (intros; simp_all; omega)) ?_))))
  have a1 : decide ((r.owed.length : Int) ≤ 6) = decide (r.owed.length ≤ 6) := by simp; omega
  have a2 : decide ((r.sides.length : Int) ≤ 6) = decide (r.sides.length ≤ 6) := by simp; omega
  rw [a1, a2]
  generalize hg0 : (within r.pool 0 9999 && decide (r.owed.length ≤ 6) && decide (r.sides.length ≤ 6)) = g0
  refine WV_loopK K30_1 [] (fun k : Nat => k ≤ r.owed.length) (fun k => r.owed.length - k) (fun k => [(3, .c (.bool (g0 && (r.owed.take k).all fun n => within n 0 9999))), (26, iv k)]) (fun _ => []) 0 (Nat.zero_le _) ?_ ?_
  · (refine Sub_of (by simp only [go_sem, init_env', Nat.reduceEqDiff, Nat.reduceAdd, Nat.reduceMul, reduceIte, Nat.reduceLeDiff, Nat.reduceLT, Nat.reduceBEq, reduceCtorEq]; ((repeat' (first | exact EnvLe_e0 _ _ | refine EnvLe_upd ?_ ?_)) <;> ((try simp only [upd_app, e0_app, o0_app, Nat.reduceEqDiff, reduceIte]); first | exact AWk.refl _ _ | exact AWk.int (by omega) | exact AWk.int (by rw [w64 (by omega) (by omega)]; omega) | exact AWk.grow rfl | exact AWk.nil _ | exact AWk.of (by simp)))) (by simp only [go_sem, init_env', Nat.reduceEqDiff, Nat.reduceAdd, Nat.reduceMul, reduceIte, Nat.reduceLeDiff, Nat.reduceLT, Nat.reduceBEq, reduceCtorEq]; ((repeat' (first | exact ObjLe_o0 _ | exact ObjLe.rfl' _ | refine ObjLe_same ?_ | refine ObjLe_upd ?_ ?_ | refine ObjLe_new rfl ?_)) <;> rfl)))
  · intro k hk
    simp only [go_sem, init_env', Nat.reduceEqDiff, Nat.reduceAdd, Nat.reduceMul, reduceIte, Nat.reduceLeDiff, Nat.reduceLT, Nat.reduceBEq, reduceCtorEq]
    (repeat ((first | refine WV_seq_ ?_ | refine WV_block ?_ | refine WV_ops ?_ | refine WV_skip ?_ | refine WV_exit ?_); (try simp only [go_sem, init_env', Nat.reduceEqDiff, Nat.reduceAdd, Nat.reduceMul, reduceIte, Nat.reduceLeDiff, Nat.reduceLT, Nat.reduceBEq, reduceCtorEq, hP, List.length_map]); (repeat (refine And.intro (by first | omega | (intros; simp_all; done) | (intros; simp_all; omega)) ?_))))
    (refine WV_cond rfl (fun h => ?_) (fun h => ?_))
    · have h : k < r.owed.length := by simpa using h
      have hw2 := w64 (n := (k : Int) + 1) (by omega) (by omega)
      (repeat ((first | refine WV_seq_ ?_ | refine WV_block ?_ | refine WV_ops ?_ | refine WV_skip ?_ | refine WV_exit ?_); (try simp only [go_sem, init_env', Nat.reduceEqDiff, Nat.reduceAdd, Nat.reduceMul, reduceIte, Nat.reduceLeDiff, Nat.reduceLT, Nat.reduceBEq, reduceCtorEq, hP, Int.toNat_natCast, map_getD h, List.length_map, Int.ofNat_lt, h, Int.natCast_nonneg]); (repeat (refine And.intro (by first | omega | (intros; simp_all; done) | (intros; simp_all; omega)) ?_))))
      (refine AG_pure (fun hG => wi49 _ _ _) rfl (fun hG => by first | (simp only [go_sem, init_env', Nat.reduceEqDiff, Nat.reduceAdd, Nat.reduceMul, reduceIte, Nat.reduceLeDiff, Nat.reduceLT, Nat.reduceBEq, reduceCtorEq, hG]; done) | (simp only [go_sem, init_env', Nat.reduceEqDiff, Nat.reduceAdd, Nat.reduceMul, reduceIte, Nat.reduceLeDiff, Nat.reduceLT, Nat.reduceBEq, reduceCtorEq]; revert hG; simp; done) | (simp only [go_sem, init_env', Nat.reduceEqDiff, Nat.reduceAdd, Nat.reduceMul, reduceIte, Nat.reduceLeDiff, Nat.reduceLT, Nat.reduceBEq, reduceCtorEq, hG]; simp_all; done) | (revert hG; simp; done) | simp_all) rfl rfl rfl ?_; simp only [go_sem, init_env', Nat.reduceEqDiff, Nat.reduceAdd, Nat.reduceMul, reduceIte, Nat.reduceLeDiff, Nat.reduceLT, Nat.reduceBEq, reduceCtorEq, hP, hw2]; (repeat (refine And.intro (by first | omega | (intros; simp_all; done) | (intros; simp_all; omega)) ?_)); (repeat ((first | refine WV_seq_ ?_ | refine WV_block ?_ | refine WV_ops ?_ | refine WV_skip ?_ | refine WV_exit ?_); (try simp only [go_sem, init_env', Nat.reduceEqDiff, Nat.reduceAdd, Nat.reduceMul, reduceIte, Nat.reduceLeDiff, Nat.reduceLT, Nat.reduceBEq, reduceCtorEq, hP, hw2]); (repeat (refine And.intro (by first | omega | (intros; simp_all; done) | (intros; simp_all; omega)) ?_)))))
      refine ⟨k + 1, by omega, by omega, ?_⟩
      (refine Sub_of (by simp only [go_sem, init_env', Nat.reduceEqDiff, Nat.reduceAdd, Nat.reduceMul, reduceIte, Nat.reduceLeDiff, Nat.reduceLT, Nat.reduceBEq, reduceCtorEq]; ((repeat' (first | exact EnvLe_e0 _ _ | refine EnvLe_upd ?_ ?_)) <;> ((try simp only [upd_app, e0_app, o0_app, Nat.reduceEqDiff, reduceIte]); first | exact AWk.refl _ _ | exact AWk.int (by omega) | exact AWk.int (by rw [w64 (by omega) (by omega)]; omega) | exact AWk.grow rfl | exact AWk.nil _ | exact AWk.of (by (rw [take_all (fun n => within n 0 9999) h]; simp [Bool.and_assoc]))))) (by simp only [go_sem, init_env', Nat.reduceEqDiff, Nat.reduceAdd, Nat.reduceMul, reduceIte, Nat.reduceLeDiff, Nat.reduceLT, Nat.reduceBEq, reduceCtorEq]; ((repeat' (first | exact ObjLe_o0 _ | exact ObjLe.rfl' _ | refine ObjLe_same ?_ | refine ObjLe_upd ?_ ?_ | refine ObjLe_new rfl ?_)) <;> rfl)))
    · have h : k = r.owed.length := by simp at h; omega
      subst h
      rw [List.take_length]
      generalize hg1 : (g0 && r.owed.all fun n => within n 0 9999) = g1
      (repeat ((first | refine WV_seq_ ?_ | refine WV_block ?_ | refine WV_ops ?_ | refine WV_skip ?_ | refine WV_exit ?_); (try simp only [go_sem, init_env', Nat.reduceEqDiff, Nat.reduceAdd, Nat.reduceMul, reduceIte, Nat.reduceLeDiff, Nat.reduceLT, Nat.reduceBEq, reduceCtorEq, hP, List.length_map]); (repeat (refine And.intro (by first | omega | (intros; simp_all; done) | (intros; simp_all; omega)) ?_))))
      refine WV_loopK K30_2 [] (fun k : Nat => k ≤ r.sides.length) (fun k => r.sides.length - k) (fun k => [(3, .c (.bool (g1 && (r.sides.take k).all (okSide r.owed.length)))), (39, iv k)]) (fun _ => []) 0 (Nat.zero_le _) ?_ ?_
      · (refine Sub_of (by simp only [go_sem, init_env', Nat.reduceEqDiff, Nat.reduceAdd, Nat.reduceMul, reduceIte, Nat.reduceLeDiff, Nat.reduceLT, Nat.reduceBEq, reduceCtorEq]; ((repeat' (first | exact EnvLe_e0 _ _ | refine EnvLe_upd ?_ ?_)) <;> ((try simp only [upd_app, e0_app, o0_app, Nat.reduceEqDiff, reduceIte]); first | exact AWk.refl _ _ | exact AWk.int (by omega) | exact AWk.int (by rw [w64 (by omega) (by omega)]; omega) | exact AWk.grow rfl | exact AWk.nil _ | exact AWk.of (by simp)))) (by simp only [go_sem, init_env', Nat.reduceEqDiff, Nat.reduceAdd, Nat.reduceMul, reduceIte, Nat.reduceLeDiff, Nat.reduceLT, Nat.reduceBEq, reduceCtorEq]; ((repeat' (first | exact ObjLe_o0 _ | exact ObjLe.rfl' _ | refine ObjLe_same ?_ | refine ObjLe_upd ?_ ?_ | refine ObjLe_new rfl ?_)) <;> rfl)))
      · intro k hk
        simp only [go_sem, init_env', Nat.reduceEqDiff, Nat.reduceAdd, Nat.reduceMul, reduceIte, Nat.reduceLeDiff, Nat.reduceLT, Nat.reduceBEq, reduceCtorEq]
        (repeat ((first | refine WV_seq_ ?_ | refine WV_block ?_ | refine WV_ops ?_ | refine WV_skip ?_ | refine WV_exit ?_); (try simp only [go_sem, init_env', Nat.reduceEqDiff, Nat.reduceAdd, Nat.reduceMul, reduceIte, Nat.reduceLeDiff, Nat.reduceLT, Nat.reduceBEq, reduceCtorEq, hP, List.length_map]); (repeat (refine And.intro (by first | omega | (intros; simp_all; done) | (intros; simp_all; omega)) ?_))))
        (refine WV_cond rfl (fun h => ?_) (fun h => ?_))
        · have h : k < r.sides.length := by simpa using h
          have hw2 := w64 (n := (k : Int) + 1) (by omega) (by omega)
          (repeat ((first | refine WV_seq_ ?_ | refine WV_block ?_ | refine WV_ops ?_ | refine WV_skip ?_ | refine WV_exit ?_); (try simp only [go_sem, init_env', Nat.reduceEqDiff, Nat.reduceAdd, Nat.reduceMul, reduceIte, Nat.reduceLeDiff, Nat.reduceLT, Nat.reduceBEq, reduceCtorEq, hP, Int.toNat_natCast, map_getD h, List.length_map, Int.ofNat_lt, h, Int.natCast_nonneg, Side.cds]); (repeat (refine And.intro (by first | omega | (intros; simp_all; done) | (intros; simp_all; omega)) ?_))))
          (refine AG_pure (fun hG => wi49 _ _ _) rfl (fun hG => by first | (simp only [go_sem, init_env', Nat.reduceEqDiff, Nat.reduceAdd, Nat.reduceMul, reduceIte, Nat.reduceLeDiff, Nat.reduceLT, Nat.reduceBEq, reduceCtorEq, hG]; done) | (simp only [go_sem, init_env', Nat.reduceEqDiff, Nat.reduceAdd, Nat.reduceMul, reduceIte, Nat.reduceLeDiff, Nat.reduceLT, Nat.reduceBEq, reduceCtorEq]; revert hG; simp; done) | (simp only [go_sem, init_env', Nat.reduceEqDiff, Nat.reduceAdd, Nat.reduceMul, reduceIte, Nat.reduceLeDiff, Nat.reduceLT, Nat.reduceBEq, reduceCtorEq, hG]; simp_all; done) | (revert hG; simp; done) | simp_all) rfl rfl rfl ?_; simp only [go_sem, init_env', Nat.reduceEqDiff, Nat.reduceAdd, Nat.reduceMul, reduceIte, Nat.reduceLeDiff, Nat.reduceLT, Nat.reduceBEq, reduceCtorEq, hP, ]; (repeat (refine And.intro (by first | omega | (intros; simp_all; done) | (intros; simp_all; omega)) ?_)); (repeat ((first | refine WV_seq_ ?_ | refine WV_block ?_ | refine WV_ops ?_ | refine WV_skip ?_ | refine WV_exit ?_); (try simp only [go_sem, init_env', Nat.reduceEqDiff, Nat.reduceAdd, Nat.reduceMul, reduceIte, Nat.reduceLeDiff, Nat.reduceLT, Nat.reduceBEq, reduceCtorEq, hP, ]); (repeat (refine And.intro (by first | omega | (intros; simp_all; done) | (intros; simp_all; omega)) ?_)))))
          refine AG_pure (fun hG => shared53 _ r.owed.length ?_) rfl (fun hG => by simp only [go_sem, init_env', Nat.reduceEqDiff, Nat.reduceAdd, Nat.reduceMul, reduceIte, Nat.reduceLeDiff, Nat.reduceLT, Nat.reduceBEq, reduceCtorEq, hG]) rfl rfl rfl ?_
          · simp only [Bool.and_eq_true] at hG
            have : g0 = true := by
              have := hG.1
              rw [← hg1] at this
              simp only [Bool.and_eq_true] at this
              exact this.1.1
            rw [← hg0] at this
            simp only [Bool.and_eq_true, decide_eq_true_eq] at this
            exact this.1.2
          simp only [go_sem, init_env', Nat.reduceEqDiff, Nat.reduceAdd, Nat.reduceMul, reduceIte, Nat.reduceLeDiff, Nat.reduceLT, Nat.reduceBEq, reduceCtorEq, hP]
          (repeat ((first | refine WV_seq_ ?_ | refine WV_block ?_ | refine WV_ops ?_ | refine WV_skip ?_ | refine WV_exit ?_); (try simp only [go_sem, init_env', Nat.reduceEqDiff, Nat.reduceAdd, Nat.reduceMul, reduceIte, Nat.reduceLeDiff, Nat.reduceLT, Nat.reduceBEq, reduceCtorEq, hP, hw2]); (repeat (refine And.intro (by first | omega | (intros; simp_all; done) | (intros; simp_all; omega)) ?_))))
          refine ⟨k + 1, by omega, by omega, ?_⟩
          (refine Sub_of (by simp only [go_sem, init_env', Nat.reduceEqDiff, Nat.reduceAdd, Nat.reduceMul, reduceIte, Nat.reduceLeDiff, Nat.reduceLT, Nat.reduceBEq, reduceCtorEq]; ((repeat' (first | exact EnvLe_e0 _ _ | refine EnvLe_upd ?_ ?_)) <;> ((try simp only [upd_app, e0_app, o0_app, Nat.reduceEqDiff, reduceIte]); first | exact AWk.refl _ _ | exact AWk.int (by omega) | exact AWk.int (by rw [w64 (by omega) (by omega)]; omega) | exact AWk.grow rfl | exact AWk.nil _ | exact AWk.of (by (rw [take_all (okSide r.owed.length) h]; simp [Bool.and_assoc, okSide]))))) (by simp only [go_sem, init_env', Nat.reduceEqDiff, Nat.reduceAdd, Nat.reduceMul, reduceIte, Nat.reduceLeDiff, Nat.reduceLT, Nat.reduceBEq, reduceCtorEq]; ((repeat' (first | exact ObjLe_o0 _ | exact ObjLe.rfl' _ | refine ObjLe_same ?_ | refine ObjLe_upd ?_ ?_ | refine ObjLe_new rfl ?_)) <;> rfl)))
        · have h : k = r.sides.length := by simp at h; omega
          subst h
          rw [List.take_length]
          have hok : (g1 && r.sides.all (okSide r.owed.length)) = r.ok := by rw [← hg1, ← hg0]; rfl
          rw [hok]
          (repeat ((first | refine WV_seq_ ?_ | refine WV_block ?_ | refine WV_ops ?_ | refine WV_skip ?_ | refine WV_exit ?_); (try simp only [go_sem, init_env', Nat.reduceEqDiff, Nat.reduceAdd, Nat.reduceMul, reduceIte, Nat.reduceLeDiff, Nat.reduceLT, Nat.reduceBEq, reduceCtorEq, hP, ]); (repeat (refine And.intro (by first | omega | (intros; simp_all; done) | (intros; simp_all; omega)) ?_))))
          cases r.ok
          · (refine WV_cond rfl (fun h => ?_) (fun h => ?_))
            · (repeat ((first | refine WV_seq_ ?_ | refine WV_block ?_ | refine WV_ops ?_ | refine WV_skip ?_ | refine WV_exit ?_); (try simp only [go_sem, init_env', Nat.reduceEqDiff, Nat.reduceAdd, Nat.reduceMul, reduceIte, Nat.reduceLeDiff, Nat.reduceLT, Nat.reduceBEq, reduceCtorEq, hP, ]); (repeat (refine And.intro (by first | omega | (intros; simp_all; done) | (intros; simp_all; omega)) ?_))))
              (refine WV_ret ?_; simp only [thenQ, inQ, RetQ, RetOk, resAll, resA]; simp only [go_sem, init_env', Nat.reduceEqDiff, Nat.reduceAdd, Nat.reduceMul, reduceIte, Nat.reduceLeDiff, Nat.reduceLT, Nat.reduceBEq, reduceCtorEq, tupA, AV.port, AV.portL, exists_eq_left', ]; (first | exact AVle.of rfl | refine AVle.of ?_ | skip))
            · simp at h
          · (refine WV_cond rfl (fun h => ?_) (fun h => ?_))
            · simp at h
            · (repeat ((first | refine WV_seq_ ?_ | refine WV_block ?_ | refine WV_ops ?_ | refine WV_skip ?_ | refine WV_exit ?_); (try simp only [go_sem, init_env', Nat.reduceEqDiff, Nat.reduceAdd, Nat.reduceMul, reduceIte, Nat.reduceLeDiff, Nat.reduceLT, Nat.reduceBEq, reduceCtorEq, hP, ]); (repeat (refine And.intro (by first | omega | (intros; simp_all; done) | (intros; simp_all; omega)) ?_))))
              (refine WV_ret ?_; simp only [thenQ, inQ, RetQ, RetOk, resAll, resA]; simp only [go_sem, init_env', Nat.reduceEqDiff, Nat.reduceAdd, Nat.reduceMul, reduceIte, Nat.reduceLeDiff, Nat.reduceLT, Nat.reduceBEq, reduceCtorEq, tupA, AV.port, AV.portL, exists_eq_left', ]; (first | exact AVle.of rfl | refine AVle.of ?_ | skip))

theorem iswho48 (r : Royal) (w : Int) : FSpec Try.prog 48 [r.av, iv w] (.c (.bool (within w 0 ((r.n : Int) - 1)))) := by
  refine FSpec_of c48 (Nat.le_refl _) (by decide) fun C hP hN hC hL => ?_
  obtain ⟨h1, h2, h3⟩ := Royal.lens hL
  simp only [ir48, Royal.av, ints]
  have hw := w64 (n := (r.owed.length : Int) - 1) (by omega) (by omega)
  (repeat ((first | refine WV_seq_ ?_ | refine WV_block ?_ | refine WV_ops ?_ | refine WV_skip ?_ | refine WV_exit ?_); (try simp only [go_sem, init_env', Nat.reduceEqDiff, Nat.reduceAdd, Nat.reduceMul, reduceIte, Nat.reduceLeDiff, Nat.reduceLT, Nat.reduceBEq, reduceCtorEq, hP, List.length_map, hw]); (repeat (refine And.intro (by first | omega | (intros; simp_all; done) | (intros; simp_all; omega)) ?_))))
  (refine AS_pure (wi49 _ _ _) rfl rfl rfl rfl rfl ?_; simp only [go_sem, init_env', Nat.reduceEqDiff, Nat.reduceAdd, Nat.reduceMul, reduceIte, Nat.reduceLeDiff, Nat.reduceLT, Nat.reduceBEq, reduceCtorEq, hP, ]; (repeat (refine And.intro (by first | omega | (intros; simp_all; done) | (intros; simp_all; omega)) ?_)); (repeat ((first | refine WV_seq_ ?_ | refine WV_block ?_ | refine WV_ops ?_ | refine WV_skip ?_ | refine WV_exit ?_); (try simp only [go_sem, init_env', Nat.reduceEqDiff, Nat.reduceAdd, Nat.reduceMul, reduceIte, Nat.reduceLeDiff, Nat.reduceLT, Nat.reduceBEq, reduceCtorEq, hP, ]); (repeat (refine And.intro (by first | omega | (intros; simp_all; done) | (intros; simp_all; omega)) ?_)))))
  (refine WV_ret ?_; simp only [thenQ, inQ, RetQ, RetOk, resAll, resA]; simp only [go_sem, init_env', Nat.reduceEqDiff, Nat.reduceAdd, Nat.reduceMul, reduceIte, Nat.reduceLeDiff, Nat.reduceLT, Nat.reduceBEq, reduceCtorEq, tupA, AV.port, AV.portL, exists_eq_left', ]; (first | exact AVle.of rfl | refine AVle.of ?_ | skip))
end Go.Proofs.Ytnmchaemhjnkgaa

/-
  Ranks: the greater rest first, and of two equal ones the lesser number: plain.
-/
namespace Go.Proofs.Ytnmchaemhjnkgaa
open Go Go.V

/-- a comes before b. -/
def before (f : Nat → Int) (a b : Nat) : Bool := decide (f b < f a) || (f a == f b && decide (a < b))
theorem before_irr (f : Nat → Int) (a : Nat) : before f a a = false := by simp [before]
theorem before_trans (f : Nat → Int) {a b c : Nat} (h : before f a b = true) (k : before f b c = true) : before f a c = true := by
  unfold before at *
  simp only [Bool.or_eq_true, decide_eq_true_eq, Bool.and_eq_true, beq_iff_eq] at *
  omega
def rank (f : Nat → Int) (n i : Nat) : Nat := ((List.range n).filter fun k => before f k i).length

/-- An order: the places, one behind the other. -/
structure Ordered (f : Nat → Int) (n : Nat) (l : List Nat) : Prop where
  perm : l.Perm (List.range n)
  sorted : l.Pairwise fun a b => before f a b = true

theorem Ordered.len {f : Nat → Int} {n : Nat} {l : List Nat} (h : Ordered f n l) : l.length = n := by
  rw [h.perm.length_eq, List.length_range]
theorem Ordered.rank {f : Nat → Int} {n : Nat} {l : List Nat} (h : Ordered f n l) {j : Nat} (hj : j < l.length) : rank f n l[j] = j := by
  unfold Go.Proofs.Ytnmchaemhjnkgaa.rank
  rw [← (h.perm.filter _).length_eq]
  have e : l = l.take j ++ l[j] :: l.drop (j + 1) := by rw [List.getElem_cons_drop, List.take_append_drop]
  have hs := List.pairwise_iff_getElem.1 h.sorted
  have h1 : (l.take j).filter (fun k => before f k l[j]) = l.take j := by
    rw [List.filter_eq_self]
    intro x hx
    obtain ⟨i, hi, rfl⟩ := List.mem_take_iff_getElem.1 hx
    exact hs i j (by omega) hj (by omega)
  have h2 : (l.drop (j + 1)).filter (fun k => before f k l[j]) = [] := by
    rw [List.filter_eq_nil_iff]
    intro x hx
    obtain ⟨i, hi, rfl⟩ := List.mem_drop_iff_getElem.1 hx
    have := hs j (j + 1 + i) hj (by omega) (by omega)
    intro hb
    have h3 := before_trans f this hb
    rw [before_irr] at h3
    cases h3
  have e2 : l.filter (fun k => before f k l[j]) = (l.take j ++ l[j] :: l.drop (j + 1)).filter (fun k => before f k l[j]) := congrArg (List.filter (fun k => before f k l[j])) e
  rw [e2, List.filter_append, List.filter_cons, h1, h2, before_irr]
  simp
  omega
theorem Ordered.mem {f : Nat → Int} {n : Nat} {l : List Nat} (h : Ordered f n l) {i : Nat} (hi : i < n) : ∃ j, ∃ hj : j < l.length, l[j] = i := by
  have : i ∈ l := h.perm.mem_iff.2 (List.mem_range.2 hi)
  obtain ⟨j, hj, e⟩ := List.mem_iff_getElem.1 this
  exact ⟨j, hj, e⟩
theorem Ordered.lt {f : Nat → Int} {n : Nat} {l : List Nat} (h : Ordered f n l) {j : Nat} (hj : j < l.length) : l[j] < n :=
  List.mem_range.1 (h.perm.mem_iff.1 (List.getElem_mem hj))
theorem Ordered.nodup {f : Nat → Int} {n : Nat} {l : List Nat} (h : Ordered f n l) : l.Nodup := h.perm.nodup_iff.2 List.nodup_range
theorem Ordered.take {f : Nat → Int} {n : Nat} {l : List Nat} (h : Ordered f n l) (t i : Nat) (hi : i < n) : i ∈ l.take t ↔ Go.Proofs.Ytnmchaemhjnkgaa.rank f n i < t := by
  obtain ⟨j, hj, rfl⟩ := h.mem hi
  rw [h.rank hj, List.mem_take_iff_getElem]
  constructor
  · rintro ⟨k, hk, e⟩
    have : k = j := (List.getElem_inj h.nodup).1 e
    omega
  · intro hjt
    exact ⟨j, by omega, rfl⟩

/-! ### One is put behind those that it does not come before -/
/-- The i-th one has gone down to place j. -/
def mv {α : Type} (l : List α) (i j : Nat) : List α := l.take j ++ ((l.drop i).take 1 ++ ((l.drop j).take (i - j) ++ l.drop (i + 1)))
theorem mv_len {α : Type} {l : List α} {i j : Nat} (hi : i < l.length) (hj : j ≤ i) : (mv l i j).length = l.length := by
  simp [mv]; omega
theorem mv_get {α : Type} {l : List α} {i j : Nat} (hi : i < l.length) (hj : j ≤ i) (t : Nat) : (mv l i j)[t]? = if t < j then l[t]? else if t = j then l[i]? else if t ≤ i then l[t - 1]? else l[t]? := by
  unfold mv
  rw [List.getElem?_append]
  have e1 : (l.take j).length = j := by simp; omega
  have e2 : ((l.drop i).take 1).length = 1 := by simp; omega
  have e3 : ((l.drop j).take (i - j)).length = i - j := by simp; omega
  rw [e1]
  split
  · rename_i h
    rw [List.getElem?_take, if_pos h]
  · rename_i h
    rw [List.getElem?_append, e2]
    split
    · rename_i h2
      have : t = j := by omega
      subst this
      rw [if_pos rfl, List.getElem?_take, if_pos (by omega), List.getElem?_drop]
      congr 1
      omega
    · rename_i h2
      rw [if_neg (by omega), List.getElem?_append, e3]
      split
      · rename_i h3
        rw [if_pos (by omega), List.getElem?_take, if_pos h3, List.getElem?_drop]
        congr 1
        omega
      · rename_i h3
        rw [if_neg (by omega), List.getElem?_drop]
        congr 1
        omega
theorem mv_self {α : Type} {l : List α} {i : Nat} (hi : i < l.length) : mv l i i = l := by
  apply List.ext_getElem?
  intro t
  rw [mv_get hi (Nat.le_refl _)]
  split
  · rfl
  · split
    · rename_i h; rw [h]
    · rw [if_neg (by omega)]
theorem mv_step {α : Type} {l : List α} {i j : Nat} (hi : i < l.length) (hj : j < i) (x y : α) (hx : l[i]? = some x) (hy : l[j]? = some y) : ((mv l i (j + 1)).set (j + 1) y).set j x = mv l i j := by
  apply List.ext_getElem?
  intro t
  rw [List.getElem?_set, List.getElem?_set, List.length_set, mv_len hi hj, mv_get hi hj, mv_get hi (by omega)]
  by_cases h1 : j = t
  · subst h1
    rw [if_pos rfl, if_pos (by omega), if_neg (by omega), if_pos rfl, hx]
  · rw [if_neg h1]
    by_cases h2 : j + 1 = t
    · subst h2
      rw [if_pos rfl, if_pos (by omega), if_neg (by omega), if_neg (by omega), if_pos (by omega), Nat.add_sub_cancel, hy]
    · rw [if_neg h2]
      by_cases h3 : t < j
      · rw [if_pos (by omega), if_pos h3]
      · rw [if_neg (by omega), if_neg (by omega), if_neg h3, if_neg (show ¬ t = j from fun e => h1 e.symm)]
/-- The first i ones are in order, the others where they were. -/
structure SortI (f : Nat → Int) (n i : Nat) (l : List Nat) : Prop where
  len : l.length = n
  perm : (l.take i).Perm (List.range i)
  sorted : (l.take i).Pairwise fun a b => before f a b = true
  rest : ∀ t, i ≤ t → t < n → l[t]? = some t
theorem SortI.first (f : Nat → Int) {n : Nat} (hn : 0 < n) : SortI f n 1 (List.range n) := by
  have e : (List.range n).take 1 = [0] := by
    cases n with
    | zero => omega
    | succ n => rw [List.range_succ_eq_map]; rfl
  refine ⟨by simp, ?_, ?_, fun t _ h => by simp [h]⟩
  · rw [e]; exact List.Perm.refl _
  · rw [e]; simp
theorem SortI.lt {f : Nat → Int} {n i : Nat} {l : List Nat} (h : SortI f n i l) {t : Nat} (ht : t < i) (hi : i ≤ n) {x : Nat} (hx : l[t]? = some x) : x < i := by
  have : x ∈ l.take i := by
    rw [List.mem_take_iff_getElem]
    obtain ⟨h1, h2⟩ := List.getElem?_eq_some_iff.1 hx
    exact ⟨t, by omega, h2⟩
  exact List.mem_range.1 (h.perm.mem_iff.1 this)
theorem SortI.step {f : Nat → Int} {n i j : Nat} {l : List Nat} (h : SortI f n i l) (hi : i < n) (hj : j ≤ i) (h1 : ∀ t x, j ≤ t → t < i → l[t]? = some x → f x < f i) (h2 : ∀ x, 0 < j → l[j - 1]? = some x → f i ≤ f x) : SortI f n (i + 1) (mv l i j) := by
  have hl := h.len
  have hx : (l.drop i).take 1 = [i] := by
    rw [List.drop_eq_getElem_cons (by omega)]
    have := h.rest i (Nat.le_refl _) hi
    rw [List.getElem?_eq_getElem (by omega)] at this
    simp only [Option.some.injEq] at this
    simp [this]
  have ht : (mv l i j).take (i + 1) = l.take j ++ (i :: (l.drop j).take (i - j)) := by
    unfold mv
    rw [hx, ← List.append_assoc [i], ← List.append_assoc (l.take j), List.take_left' (by simp; omega)]
    rfl
  have hp : l.take i = l.take j ++ (l.drop j).take (i - j) := by
    have := List.take_append_drop j (l.take i)
    rw [List.take_take, List.drop_take, Nat.min_eq_left hj] at this
    exact this.symm
  have hs := h.sorted
  rw [hp, List.pairwise_append] at hs
  have hA : ∀ x ∈ l.take j, before f x i = true := by
    intro x hxm
    obtain ⟨t, htl, rfl⟩ := List.mem_take_iff_getElem.1 hxm
    have hti : l[t] < i := h.lt (t := t) (by omega) (by omega) (List.getElem?_eq_getElem (by omega))
    have hlast : before f (l[j - 1]'(by omega)) i = true := by
      have h3 := h2 _ (by omega) (List.getElem?_eq_getElem (by omega))
      have h4 : l[j - 1]'(by omega) < i := h.lt (t := j - 1) (by omega) (by omega) (List.getElem?_eq_getElem (by omega))
      simp only [before, Bool.or_eq_true, decide_eq_true_eq, Bool.and_eq_true, beq_iff_eq]
      omega
    by_cases htj : t = j - 1
    · subst htj; exact hlast
    · refine before_trans f ?_ hlast
      have := List.pairwise_iff_getElem.1 h.sorted t (j - 1) (by simp; omega) (by simp; omega) (by omega)
      simpa using this
  have hB : ∀ x ∈ (l.drop j).take (i - j), before f i x = true := by
    intro x hxm
    obtain ⟨t, htl, rfl⟩ := List.mem_take_iff_getElem.1 hxm
    simp only [List.getElem_drop]
    have h3 := h1 (j + t) _ (by omega) (by simp at htl; omega) (List.getElem?_eq_getElem (by simp at htl; omega))
    simp only [before, Bool.or_eq_true, decide_eq_true_eq]
    exact .inl h3
  refine ⟨by rw [mv_len (by omega) hj]; exact hl, ?_, ?_, fun t h3 h4 => ?_⟩
  · rw [ht, List.range_succ]
    refine List.perm_middle.trans ?_
    rw [← hp]
    exact (List.Perm.cons i h.perm).trans (List.perm_append_comm (l₁ := [i]))
  · rw [ht, List.pairwise_append, List.pairwise_cons]
    refine ⟨hs.1, ⟨hB, hs.2.1⟩, fun a ha b hb => ?_⟩
    rcases List.mem_cons.1 hb with rfl | hb
    · exact hA a ha
    · exact hs.2.2 a ha b hb
  · rw [mv_get (by omega) hj, if_neg (by omega), if_neg (by omega), if_neg (by omega)]
    exact h.rest t (by omega) h4
theorem SortI.done {f : Nat → Int} {n i : Nat} {l : List Nat} (h : SortI f n i l) (hi : n ≤ i) : Ordered f n l := by
  have hl := h.len
  have h1 := h.perm
  have h2 := h.sorted
  rw [List.take_of_length_le (by omega)] at h1 h2
  have : i = n := by
    have := h1.length_eq
    simp at this; omega
  subst this
  exact ⟨h1, h2⟩
end Go.Proofs.Ytnmchaemhjnkgaa

namespace Go.Proofs.Ytnmchaemhjnkgaa
open Go Go.V
@[reducible] def o67_0 : List Ins := [⟨(some 2), .mv (.k (.c (.bool false))), none, true⟩]
@[reducible] def o67_1 : List Ins := [⟨(some 3), .mv (.t 0), none, true⟩,
  ⟨(some 4), .mv (.t 0), none, true⟩,
  ⟨(some 5), .bin .neq (.t 3) (.t 4), none, true⟩,
  ⟨(some 2), .mv (.t 5), none, true⟩]
@[reducible] def v67_2 : VC := (.seq (.ops o67_1) .ret)
def ir67 : FC := ⟨1, 6, [.t 2], (.seq (.ops o67_0) v67_2)⟩
@[reducible] def o64_0 : List Ins := [⟨(some 4), .mv (.k (.c (.int .i64 0))), none, true⟩]
@[reducible] def o64_1 : List Ins := [⟨(some 7), .mv (.t 0), none, true⟩,
  ⟨(some 8), .call (.k (.fn 67 [])) [(.t 7)], none, true⟩,
  ⟨(some 5), .mv (.t 8), none, true⟩]
@[reducible] def o64_2 : List Ins := [⟨(some 9), .mv (.t 1), none, true⟩,
  ⟨(some 10), .call (.k (.fn 67 [])) [(.t 9)], none, true⟩,
  ⟨(some 6), .mv (.t 10), none, true⟩]
@[reducible] def o64_3 : List Ins := [⟨(some 11), .mv (.t 5), none, true⟩]
@[reducible] def o64_4 : List Ins := [⟨(some 12), .mv (.t 6), none, true⟩]
@[reducible] def o64_5 : List Ins := [⟨(some 4), .mv (.k (.c (.int .i64 0))), none, true⟩]
@[reducible] def v64_6 : VC := (.seq (.ops o64_5) .ret)
@[reducible] def v64_7 : VC := (.cond (.t 12) v64_6 .skip)
@[reducible] def o64_8 : List Ins := [⟨(some 4), .mv (.k (.c (.int .i64 (-1)))), none, true⟩]
@[reducible] def v64_9 : VC := (.seq (.ops o64_8) .ret)
@[reducible] def v64_10 : VC := (.seq (.seq (.ops o64_4) v64_7) v64_9)
@[reducible] def v64_11 : VC := (.cond (.t 11) v64_10 .skip)
@[reducible] def o64_12 : List Ins := [⟨(some 13), .mv (.t 6), none, true⟩]
@[reducible] def o64_13 : List Ins := [⟨(some 4), .mv (.k (.c (.int .i64 1))), none, true⟩]
@[reducible] def v64_14 : VC := (.seq (.ops o64_13) .ret)
@[reducible] def v64_15 : VC := (.cond (.t 13) v64_14 .skip)
@[reducible] def o64_16 : List Ins := [⟨(some 14), .mv (.t 0), none, true⟩,
  ⟨(some 15), .mv (.t 1), none, true⟩,
  ⟨(some 16), .bin .lss (.t 14) (.t 15), none, true⟩]
@[reducible] def o64_17 : List Ins := [⟨(some 4), .mv (.k (.c (.int .i64 (-1)))), none, true⟩]
@[reducible] def v64_18 : VC := (.seq (.ops o64_17) .ret)
@[reducible] def v64_19 : VC := (.cond (.t 16) v64_18 .skip)
@[reducible] def o64_20 : List Ins := [⟨(some 17), .mv (.t 0), none, true⟩,
  ⟨(some 18), .mv (.t 1), none, true⟩,
  ⟨(some 19), .bin .gtr (.t 17) (.t 18), none, true⟩]
@[reducible] def o64_21 : List Ins := [⟨(some 4), .mv (.k (.c (.int .i64 1))), none, true⟩]
@[reducible] def v64_22 : VC := (.seq (.ops o64_21) .ret)
@[reducible] def v64_23 : VC := (.cond (.t 19) v64_22 .skip)
@[reducible] def o64_24 : List Ins := [⟨(some 4), .mv (.k (.c (.int .i64 0))), none, true⟩]
@[reducible] def v64_25 : VC := (.seq (.ops o64_24) .ret)
@[reducible] def v64_26 : VC := (.seq (.seq (.ops o64_20) v64_23) v64_25)
@[reducible] def v64_27 : VC := (.seq (.seq (.ops o64_16) v64_19) v64_26)
@[reducible] def v64_28 : VC := (.seq (.seq (.ops o64_12) v64_15) v64_27)
@[reducible] def v64_29 : VC := (.seq (.seq (.ops o64_3) v64_11) v64_28)
@[reducible] def v64_30 : VC := (.seq (.ops o64_2) v64_29)
@[reducible] def v64_31 : VC := (.seq (.ops o64_1) v64_30)
def ir64 : FC := ⟨2, 20, [.t 4], (.seq (.ops o64_0) v64_31)⟩
@[reducible] def o63_0 : List Ins := [⟨(some 6), .mv (.k (.c (.int .i64 0))), none, true⟩]
@[reducible] def o63_1 : List Ins := [⟨(some 7), .ld true 1 (.t 2), none, false⟩,
  ⟨(some 8), .fa 0 (.t 3), none, false⟩,
  ⟨(some 9), .ld true 1 (.t 8), none, false⟩,
  ⟨(some 10), .mv (.t 1), none, false⟩,
  ⟨(some 11), .ia 1 (.t 9) (.t 10), none, false⟩,
  ⟨(some 12), .ld true 1 (.t 11), none, false⟩,
  ⟨(some 13), .bin .mul (.t 7) (.t 12), none, false⟩,
  ⟨(some 14), .fa 1 (.t 3), none, false⟩,
  ⟨(some 15), .ld true 1 (.t 14), none, false⟩,
  ⟨(some 16), .bin .rem (.t 13) (.t 15), none, false⟩,
  ⟨(some 17), .ld true 1 (.t 2), none, false⟩,
  ⟨(some 18), .fa 0 (.t 3), none, false⟩,
  ⟨(some 19), .ld true 1 (.t 18), none, false⟩,
  ⟨(some 20), .mv (.t 0), none, false⟩,
  ⟨(some 21), .ia 1 (.t 19) (.t 20), none, false⟩,
  ⟨(some 22), .ld true 1 (.t 21), none, false⟩,
  ⟨(some 23), .bin .mul (.t 17) (.t 22), none, false⟩,
  ⟨(some 24), .fa 1 (.t 3), none, false⟩,
  ⟨(some 25), .ld true 1 (.t 24), none, false⟩,
  ⟨(some 26), .bin .rem (.t 23) (.t 25), none, false⟩,
  ⟨(some 27), .call (.k (.fn 64 [])) [(.t 16), (.t 26)], none, true⟩,
  ⟨(some 6), .mv (.t 27), none, true⟩]
@[reducible] def v63_2 : VC := (.seq (.ops o63_1) .ret)
def ir63 : FC := ⟨4, 28, [.t 6], (.seq (.ops o63_0) v63_2)⟩
@[reducible] def o68_0 : List Ins := [⟨(some 10), .mv (.t 1), none, true⟩,
  ⟨(some 11), .bin .add (.t 10) (.k (.c (.int .i64 1))), none, true⟩,
  ⟨(some 8), .mv (.t 11), none, true⟩]
@[reducible] def o68_1 : List Ins := [⟨(some 12), .mv (.t 8), none, true⟩,
  ⟨(some 13), .mv (.t 2), none, true⟩,
  ⟨(some 14), .bin .lss (.t 12) (.t 13), none, true⟩]
@[reducible] def v68_2 : VC := (.cond (.t 14) .skip (.exit 0))
@[reducible] def o68_3 : List Ins := [⟨(some 17), .mv (.t 8), none, true⟩,
  ⟨(some 9), .mv (.t 17), none, true⟩]
@[reducible] def o68_4 : List Ins := [⟨(some 18), .mv (.t 9), none, false⟩,
  ⟨(some 19), .mv (.t 1), none, false⟩,
  ⟨(some 20), .bin .gtr (.t 18) (.t 19), none, true⟩,
  ⟨(some 21), .mv (.t 20), none, true⟩,
  ⟨(some 22), .mv (.t 3), (some (21, true)), false⟩,
  ⟨(some 23), .mv (.t 0), (some (21, true)), false⟩,
  ⟨(some 24), .mv (.t 9), (some (21, true)), false⟩,
  ⟨(some 25), .ia 1 (.t 23) (.t 24), (some (21, true)), false⟩,
  ⟨(some 26), .ld true 1 (.t 25), (some (21, true)), false⟩,
  ⟨(some 27), .mv (.t 0), (some (21, true)), false⟩,
  ⟨(some 28), .mv (.t 9), (some (21, true)), false⟩,
  ⟨(some 29), .bin .sub (.t 28) (.k (.c (.int .i64 1))), (some (21, true)), false⟩,
  ⟨(some 30), .ia 1 (.t 27) (.t 29), (some (21, true)), false⟩,
  ⟨(some 31), .ld true 1 (.t 30), (some (21, true)), false⟩,
  ⟨(some 32), .call (.t 22) [(.t 26), (.t 31)], (some (21, true)), true⟩,
  ⟨(some 33), .bin .lss (.t 32) (.k (.c (.int .i64 0))), (some (21, true)), true⟩,
  ⟨(some 34), .pick (.t 21) (.t 33) (.k (.c (.bool false))), none, true⟩]
@[reducible] def v68_5 : VC := (.cond (.t 34) .skip (.exit 2))
@[reducible] def o68_6 : List Ins := [⟨(some 37), .mv (.t 0), none, false⟩,
  ⟨(some 38), .mv (.t 9), none, false⟩,
  ⟨(some 39), .mv (.t 0), none, false⟩,
  ⟨(some 40), .mv (.t 9), none, false⟩,
  ⟨(some 41), .bin .sub (.t 40) (.k (.c (.int .i64 1))), none, false⟩,
  ⟨(some 42), .mv (.t 0), none, false⟩,
  ⟨(some 43), .mv (.t 9), none, false⟩,
  ⟨(some 44), .bin .sub (.t 43) (.k (.c (.int .i64 1))), none, false⟩,
  ⟨(some 45), .ia 1 (.t 42) (.t 44), none, false⟩,
  ⟨(some 46), .ld true 1 (.t 45), none, false⟩,
  ⟨(some 47), .mv (.t 0), none, false⟩,
  ⟨(some 48), .mv (.t 9), none, false⟩,
  ⟨(some 49), .ia 1 (.t 47) (.t 48), none, false⟩,
  ⟨(some 50), .ld true 1 (.t 49), none, false⟩,
  ⟨(some 51), .ia 1 (.t 37) (.t 38), none, false⟩,
  ⟨none, .st 1 (.t 51) (.t 46), none, false⟩,
  ⟨(some 52), .ia 1 (.t 39) (.t 41), none, true⟩,
  ⟨none, .st 1 (.t 52) (.t 50), none, true⟩]
@[reducible] def o68_7 : List Ins := [⟨(some 35), .mv (.t 9), none, true⟩,
  ⟨(some 36), .bin .sub (.t 35) (.k (.c (.int .i64 1))), none, true⟩,
  ⟨(some 9), .mv (.t 36), none, true⟩]
@[reducible] def v68_8 : VC := (.seq (.block 3 (.ops o68_6)) (.ops o68_7))
@[reducible] def v68_9 : VC := (.seq (.seq (.ops o68_4) v68_5) v68_8)
-- K68_2: changed and kept: [9]
@[reducible] def K68_2 : List Nat := [0, 1, 2, 3, 8]
@[reducible] def v68_10 : VC := (.loop v68_9)
@[reducible] def v68_11 : VC := (.block 2 v68_10)
@[reducible] def v68_12 : VC := (.seq (.ops o68_3) v68_11)
@[reducible] def o68_13 : List Ins := [⟨(some 15), .mv (.t 8), none, true⟩,
  ⟨(some 16), .bin .add (.t 15) (.k (.c (.int .i64 1))), none, true⟩,
  ⟨(some 8), .mv (.t 16), none, true⟩]
@[reducible] def v68_14 : VC := (.seq (.block 1 v68_12) (.ops o68_13))
@[reducible] def v68_15 : VC := (.seq (.seq (.ops o68_1) v68_2) v68_14)
-- K68_1: changed and kept: [8]
@[reducible] def K68_1 : List Nat := [0, 1, 2, 3]
@[reducible] def v68_16 : VC := (.loop v68_15)
@[reducible] def v68_17 : VC := (.block 0 v68_16)
def ir68 : FC := ⟨4, 53, [], (.seq (.ops o68_0) v68_17)⟩
@[reducible] def o66_0 : List Ins := [⟨(some 6), .mv (.k (.c (.int .i64 20))), none, true⟩]
@[reducible] def o66_1 : List Ins := [⟨(some 10), .mv (.t 6), none, true⟩,
  ⟨(some 7), .mv (.k (.c (.int .i64 0))), none, true⟩,
  ⟨(some 8), .mv (.t 10), none, true⟩]
@[reducible] def o66_2 : List Ins := [⟨(some 11), .mv (.t 8), none, true⟩,
  ⟨(some 12), .mv (.t 1), none, true⟩,
  ⟨(some 13), .bin .leq (.t 11) (.t 12), none, true⟩]
@[reducible] def v66_3 : VC := (.cond (.t 13) .skip (.exit 0))
@[reducible] def o66_4 : List Ins := [⟨(some 14), .mv (.t 0), none, true⟩,
  ⟨(some 15), .mv (.t 7), none, true⟩,
  ⟨(some 16), .mv (.t 8), none, true⟩,
  ⟨(some 17), .mv (.t 2), none, true⟩,
  ⟨(some 18), .call (.k (.fn 68 [])) [(.t 14), (.t 15), (.t 16), (.t 17)], none, true⟩]
@[reducible] def o66_5 : List Ins := [⟨(some 19), .mv (.t 8), none, true⟩,
  ⟨(some 7), .mv (.t 19), none, true⟩]
@[reducible] def o66_6 : List Ins := [⟨(some 20), .mv (.t 8), none, true⟩,
  ⟨(some 21), .mv (.t 6), none, true⟩,
  ⟨(some 22), .bin .add (.t 20) (.t 21), none, true⟩,
  ⟨(some 8), .mv (.t 22), none, true⟩]
@[reducible] def v66_7 : VC := (.seq (.ops o66_5) (.ops o66_6))
@[reducible] def v66_8 : VC := (.seq (.ops o66_4) v66_7)
@[reducible] def v66_9 : VC := (.block 1 v66_8)
@[reducible] def v66_10 : VC := (.seq (.seq (.ops o66_2) v66_3) v66_9)
-- K66_1: changed and kept: [8, 7]
@[reducible] def K66_1 : List Nat := [0, 1, 2, 6]
@[reducible] def v66_11 : VC := (.loop v66_10)
@[reducible] def o66_12 : List Ins := [⟨(some 23), .mv (.t 0), none, true⟩,
  ⟨(some 24), .mv (.t 7), none, true⟩,
  ⟨(some 25), .mv (.t 1), none, true⟩,
  ⟨(some 26), .mv (.t 2), none, true⟩,
  ⟨(some 27), .call (.k (.fn 68 [])) [(.t 23), (.t 24), (.t 25), (.t 26)], none, true⟩]
@[reducible] def o66_13 : List Ins := [⟨(some 28), .mv (.t 6), none, true⟩,
  ⟨(some 29), .mv (.t 1), none, true⟩,
  ⟨(some 30), .bin .lss (.t 28) (.t 29), none, true⟩]
@[reducible] def v66_14 : VC := (.cond (.t 30) .skip (.exit 2))
@[reducible] def o66_15 : List Ins := [⟨(some 31), .mv (.t 6), none, true⟩,
  ⟨(some 32), .bin .mul (.k (.c (.int .i64 2))) (.t 31), none, true⟩,
  ⟨(some 7), .mv (.k (.c (.int .i64 0))), none, true⟩,
  ⟨(some 8), .mv (.t 32), none, true⟩]
@[reducible] def o66_16 : List Ins := [⟨(some 33), .mv (.t 8), none, true⟩,
  ⟨(some 34), .mv (.t 1), none, true⟩,
  ⟨(some 35), .bin .leq (.t 33) (.t 34), none, true⟩]
@[reducible] def v66_17 : VC := (.cond (.t 35) .skip (.exit 4))
@[reducible] def o66_18 : List Ins := [⟨(some 36), .mv (.t 0), none, true⟩,
  ⟨(some 37), .mv (.t 7), none, true⟩,
  ⟨(some 38), .mv (.t 7), none, true⟩,
  ⟨(some 39), .mv (.t 6), none, true⟩,
  ⟨(some 40), .bin .add (.t 38) (.t 39), none, true⟩,
  ⟨(some 41), .mv (.t 8), none, true⟩,
  ⟨(some 42), .mv (.t 2), none, true⟩,
  ⟨(some 43), .call (.k (.fn 69 [])) [(.t 36), (.t 37), (.t 40), (.t 41), (.t 42)], none, true⟩]
@[reducible] def o66_19 : List Ins := [⟨(some 44), .mv (.t 8), none, true⟩,
  ⟨(some 7), .mv (.t 44), none, true⟩]
@[reducible] def o66_20 : List Ins := [⟨(some 45), .mv (.t 8), none, true⟩,
  ⟨(some 46), .mv (.t 6), none, true⟩,
  ⟨(some 47), .bin .mul (.k (.c (.int .i64 2))) (.t 46), none, true⟩,
  ⟨(some 48), .bin .add (.t 45) (.t 47), none, true⟩,
  ⟨(some 8), .mv (.t 48), none, true⟩]
@[reducible] def v66_21 : VC := (.seq (.ops o66_19) (.ops o66_20))
@[reducible] def v66_22 : VC := (.seq (.ops o66_18) v66_21)
@[reducible] def v66_23 : VC := (.block 5 v66_22)
@[reducible] def v66_24 : VC := (.seq (.seq (.ops o66_16) v66_17) v66_23)
-- K66_3: changed and kept: [8, 7]
@[reducible] def v66_25 : VC := (.loop v66_24)
@[reducible] def o66_26 : List Ins := [⟨(some 49), .mv (.t 7), none, true⟩,
  ⟨(some 50), .mv (.t 6), none, true⟩,
  ⟨(some 51), .bin .add (.t 49) (.t 50), none, true⟩,
  ⟨(some 9), .mv (.t 51), none, true⟩]
@[reducible] def o66_27 : List Ins := [⟨(some 52), .mv (.t 9), none, true⟩,
  ⟨(some 53), .mv (.t 1), none, true⟩,
  ⟨(some 54), .bin .lss (.t 52) (.t 53), none, true⟩]
@[reducible] def o66_28 : List Ins := [⟨(some 55), .mv (.t 0), none, true⟩,
  ⟨(some 56), .mv (.t 7), none, true⟩,
  ⟨(some 57), .mv (.t 9), none, true⟩,
  ⟨(some 58), .mv (.t 1), none, true⟩,
  ⟨(some 59), .mv (.t 2), none, true⟩,
  ⟨(some 60), .call (.k (.fn 69 [])) [(.t 55), (.t 56), (.t 57), (.t 58), (.t 59)], none, true⟩]
@[reducible] def v66_29 : VC := (.cond (.t 54) (.ops o66_28) .skip)
@[reducible] def v66_30 : VC := (.seq (.ops o66_27) v66_29)
@[reducible] def o66_31 : List Ins := [⟨(some 61), .mv (.t 6), none, true⟩,
  ⟨(some 62), .bin .mul (.t 61) (.k (.c (.int .i64 2))), none, true⟩,
  ⟨(some 6), .mv (.t 62), none, true⟩]
@[reducible] def v66_32 : VC := (.seq (.seq (.ops o66_26) v66_30) (.ops o66_31))
@[reducible] def v66_33 : VC := (.seq (.block 4 v66_25) v66_32)
@[reducible] def v66_34 : VC := (.seq (.ops o66_15) v66_33)
@[reducible] def v66_35 : VC := (.block 3 v66_34)
@[reducible] def v66_36 : VC := (.seq (.seq (.ops o66_13) v66_14) v66_35)
-- K66_2: changed and kept: [6]
@[reducible] def K66_2 : List Nat := [0, 1, 2]
@[reducible] def v66_37 : VC := (.loop v66_36)
@[reducible] def v66_38 : VC := (.block 2 v66_37)
@[reducible] def v66_39 : VC := (.seq (.ops o66_12) v66_38)
@[reducible] def v66_40 : VC := (.seq (.block 0 v66_11) v66_39)
@[reducible] def v66_41 : VC := (.seq (.ops o66_1) v66_40)
def ir66 : FC := ⟨3, 63, [], (.seq (.ops o66_0) v66_41)⟩
@[reducible] def o62_0 : List Ins := [⟨(some 4), .mv (.t 0), none, true⟩,
  ⟨(some 5), .mv (.t 0), none, true⟩,
  ⟨(some 6), .len (.t 5), none, true⟩,
  ⟨(some 7), .mv (.t 1), none, true⟩,
  ⟨(some 8), .call (.k (.fn 66 [])) [(.t 4), (.t 6), (.t 7)], none, true⟩]
def ir62 : FC := ⟨2, 9, [], (.ops o62_0)⟩
theorem c67 : compM Try.prog [] 67 = some ir67 := by kernel_rfl
theorem c64 : compM Try.prog [] 64 = some ir64 := by kernel_rfl
theorem c63 : compM Try.prog [] 63 = some ir63 := by kernel_rfl
theorem c68 : compM Try.prog [] 68 = some ir68 := by kernel_rfl
theorem c66 : compM Try.prog [] 66 = some ir66 := by kernel_rfl
theorem c62 : compM Try.prog [] 62 = some ir62 := by kernel_rfl



def cmpI (a b : Int) : Int := if a < b then -1 else if b < a then 1 else 0
theorem isnan67 (a : Int) : FSpec Try.prog 67 [iv a] (.c (.bool false)) := by
  refine FSpec_of c67 (Nat.le_refl _) (by decide) fun C hP hN hC hL => ?_
  simp only [ir67]
  (repeat ((first | refine WV_seq_ ?_ | refine WV_block ?_ | refine WV_ops ?_ | refine WV_skip ?_ | refine WV_exit ?_); (try simp only [go_sem, init_env', Nat.reduceEqDiff, Nat.reduceAdd, Nat.reduceMul, reduceIte, Nat.reduceLeDiff, Nat.reduceLT, Nat.reduceBEq, reduceCtorEq, hP, ]); (repeat (refine And.intro (by first | omega | (intros; simp_all; done) | (intros; simp_all; omega)) ?_))))
  (refine WV_ret ?_; simp only [thenQ, inQ, RetQ, RetOk, resAll, resA]; simp only [go_sem, init_env', Nat.reduceEqDiff, Nat.reduceAdd, Nat.reduceMul, reduceIte, Nat.reduceLeDiff, Nat.reduceLT, Nat.reduceBEq, reduceCtorEq, tupA, AV.port, AV.portL, exists_eq_left', ]; (first | exact AVle.of rfl | refine AVle.of ?_ | skip))
  simp
theorem compare64 (a b : Int) : FSpec Try.prog 64 [iv a, iv b] (iv (cmpI a b)) := by
  refine FSpec_of c64 (Nat.le_refl _) (by decide) fun C hP hN hC hL => ?_
  simp only [ir64]
  (repeat ((first | refine WV_seq_ ?_ | refine WV_block ?_ | refine WV_ops ?_ | refine WV_skip ?_ | refine WV_exit ?_); (try simp only [go_sem, init_env', Nat.reduceEqDiff, Nat.reduceAdd, Nat.reduceMul, reduceIte, Nat.reduceLeDiff, Nat.reduceLT, Nat.reduceBEq, reduceCtorEq, hP, ]); (repeat (refine And.intro (by first | omega | (intros; simp_all; done) | (intros; simp_all; omega)) ?_))))
  (refine AS_pure (isnan67 _) rfl rfl rfl rfl rfl ?_; simp only [go_sem, init_env', Nat.reduceEqDiff, Nat.reduceAdd, Nat.reduceMul, reduceIte, Nat.reduceLeDiff, Nat.reduceLT, Nat.reduceBEq, reduceCtorEq, hP, ]; (repeat (refine And.intro (by first | omega | (intros; simp_all; done) | (intros; simp_all; omega)) ?_)); (repeat ((first | refine WV_seq_ ?_ | refine WV_block ?_ | refine WV_ops ?_ | refine WV_skip ?_ | refine WV_exit ?_); (try simp only [go_sem, init_env', Nat.reduceEqDiff, Nat.reduceAdd, Nat.reduceMul, reduceIte, Nat.reduceLeDiff, Nat.reduceLT, Nat.reduceBEq, reduceCtorEq, hP, ]); (repeat (refine And.intro (by first | omega | (intros; simp_all; done) | (intros; simp_all; omega)) ?_)))))
  (refine AS_pure (isnan67 _) rfl rfl rfl rfl rfl ?_; simp only [go_sem, init_env', Nat.reduceEqDiff, Nat.reduceAdd, Nat.reduceMul, reduceIte, Nat.reduceLeDiff, Nat.reduceLT, Nat.reduceBEq, reduceCtorEq, hP, ]; (repeat (refine And.intro (by first | omega | (intros; simp_all; done) | (intros; simp_all; omega)) ?_)); (repeat ((first | refine WV_seq_ ?_ | refine WV_block ?_ | refine WV_ops ?_ | refine WV_skip ?_ | refine WV_exit ?_); (try simp only [go_sem, init_env', Nat.reduceEqDiff, Nat.reduceAdd, Nat.reduceMul, reduceIte, Nat.reduceLeDiff, Nat.reduceLT, Nat.reduceBEq, reduceCtorEq, hP, ]); (repeat (refine And.intro (by first | omega | (intros; simp_all; done) | (intros; simp_all; omega)) ?_)))))
  (refine WV_cond rfl (fun h => ?_) (fun h => ?_))
  · simp at h
  · (repeat ((first | refine WV_seq_ ?_ | refine WV_block ?_ | refine WV_ops ?_ | refine WV_skip ?_ | refine WV_exit ?_); (try simp only [go_sem, init_env', Nat.reduceEqDiff, Nat.reduceAdd, Nat.reduceMul, reduceIte, Nat.reduceLeDiff, Nat.reduceLT, Nat.reduceBEq, reduceCtorEq, hP, ]); (repeat (refine And.intro (by first | omega | (intros; simp_all; done) | (intros; simp_all; omega)) ?_))))
    (refine WV_cond rfl (fun h => ?_) (fun h => ?_))
    · simp at h
    · (repeat ((first | refine WV_seq_ ?_ | refine WV_block ?_ | refine WV_ops ?_ | refine WV_skip ?_ | refine WV_exit ?_); (try simp only [go_sem, init_env', Nat.reduceEqDiff, Nat.reduceAdd, Nat.reduceMul, reduceIte, Nat.reduceLeDiff, Nat.reduceLT, Nat.reduceBEq, reduceCtorEq, hP, ]); (repeat (refine And.intro (by first | omega | (intros; simp_all; done) | (intros; simp_all; omega)) ?_))))
      (refine WV_cond rfl (fun h => ?_) (fun h => ?_))
      · have h : a < b := by simpa using h
        (repeat ((first | refine WV_seq_ ?_ | refine WV_block ?_ | refine WV_ops ?_ | refine WV_skip ?_ | refine WV_exit ?_); (try simp only [go_sem, init_env', Nat.reduceEqDiff, Nat.reduceAdd, Nat.reduceMul, reduceIte, Nat.reduceLeDiff, Nat.reduceLT, Nat.reduceBEq, reduceCtorEq, hP, ]); (repeat (refine And.intro (by first | omega | (intros; simp_all; done) | (intros; simp_all; omega)) ?_))))
        (refine WV_ret ?_; simp only [thenQ, inQ, RetQ, RetOk, resAll, resA]; simp only [go_sem, init_env', Nat.reduceEqDiff, Nat.reduceAdd, Nat.reduceMul, reduceIte, Nat.reduceLeDiff, Nat.reduceLT, Nat.reduceBEq, reduceCtorEq, tupA, AV.port, AV.portL, exists_eq_left', ]; (first | exact AVle.of rfl | refine AVle.of ?_ | skip))
        simp [cmpI, h]
      · have h1 : ¬ a < b := by simpa using h
        (repeat ((first | refine WV_seq_ ?_ | refine WV_block ?_ | refine WV_ops ?_ | refine WV_skip ?_ | refine WV_exit ?_); (try simp only [go_sem, init_env', Nat.reduceEqDiff, Nat.reduceAdd, Nat.reduceMul, reduceIte, Nat.reduceLeDiff, Nat.reduceLT, Nat.reduceBEq, reduceCtorEq, hP, ]); (repeat (refine And.intro (by first | omega | (intros; simp_all; done) | (intros; simp_all; omega)) ?_))))
        (refine WV_cond rfl (fun h => ?_) (fun h => ?_))
        · have h : b < a := by simpa using h
          (repeat ((first | refine WV_seq_ ?_ | refine WV_block ?_ | refine WV_ops ?_ | refine WV_skip ?_ | refine WV_exit ?_); (try simp only [go_sem, init_env', Nat.reduceEqDiff, Nat.reduceAdd, Nat.reduceMul, reduceIte, Nat.reduceLeDiff, Nat.reduceLT, Nat.reduceBEq, reduceCtorEq, hP, ]); (repeat (refine And.intro (by first | omega | (intros; simp_all; done) | (intros; simp_all; omega)) ?_))))
          (refine WV_ret ?_; simp only [thenQ, inQ, RetQ, RetOk, resAll, resA]; simp only [go_sem, init_env', Nat.reduceEqDiff, Nat.reduceAdd, Nat.reduceMul, reduceIte, Nat.reduceLeDiff, Nat.reduceLT, Nat.reduceBEq, reduceCtorEq, tupA, AV.port, AV.portL, exists_eq_left', ]; (first | exact AVle.of rfl | refine AVle.of ?_ | skip))
          simp [cmpI, h, h1]
        · have h : ¬ b < a := by simpa using h
          (repeat ((first | refine WV_seq_ ?_ | refine WV_block ?_ | refine WV_ops ?_ | refine WV_skip ?_ | refine WV_exit ?_); (try simp only [go_sem, init_env', Nat.reduceEqDiff, Nat.reduceAdd, Nat.reduceMul, reduceIte, Nat.reduceLeDiff, Nat.reduceLT, Nat.reduceBEq, reduceCtorEq, hP, ]); (repeat (refine And.intro (by first | omega | (intros; simp_all; done) | (intros; simp_all; omega)) ?_))))
          (refine WV_ret ?_; simp only [thenQ, inQ, RetQ, RetOk, resAll, resA]; simp only [go_sem, init_env', Nat.reduceEqDiff, Nat.reduceAdd, Nat.reduceMul, reduceIte, Nat.reduceLeDiff, Nat.reduceLT, Nat.reduceBEq, reduceCtorEq, tupA, AV.port, AV.portL, exists_eq_left', ]; (first | exact AVle.of rfl | refine AVle.of ?_ | skip))
          simp [cmpI, h, h1]

/-- What is left over of a part. -/
def restOf (pool all : Int) (w : List Int) (k : Nat) : Int := (pool * w.getD k 0) % all
theorem mul_bound {p x : Int} (hp : 0 ≤ p ∧ p ≤ 9999) (hx : 0 ≤ x ∧ x ≤ 9999999999) : 0 ≤ p * x ∧ p * x ≤ 99999999999999 := by
  refine ⟨Int.mul_nonneg hp.1 hx.1, Int.le_trans (Int.mul_le_mul hp.2 hx.2 hx.1 (by decide)) (by decide)⟩
set_option maxHeartbeats 1000000 in
theorem clos63 {pool all : Int} {w : List Int} (hp : 0 ≤ pool ∧ pool ≤ 9999) (hw : ∀ x ∈ w, 0 ≤ x ∧ x ≤ 9999999999) (ha : 0 < all) {a b : Nat} (hka : a < w.length) (hkb : b < w.length) :
    FSpec Try.prog 63 [iv a, iv b, .c (.pt [.int .i64 pool]), .c (.pt [ints w, .int .i64 all])] (iv (cmpI (restOf pool all w b) (restOf pool all w a))) := by
  have h1 := mul_bound hp (hw _ (List.getElem_mem hka))
  have h2 := mul_bound hp (hw _ (List.getElem_mem hkb))
  have w1 := w64 (n := pool * w[a]) (by omega) (by omega)
  have w2 := w64 (n := pool * w[b]) (by omega) (by omega)
  refine FSpec_of c63 (Nat.le_refl _) (by decide) fun C hP hN hC hL => ?_
  simp only [ir63, ints]
  (repeat ((first | refine WV_seq_ ?_ | refine WV_block ?_ | refine WV_ops ?_ | refine WV_skip ?_ | refine WV_exit ?_); (try simp only [go_sem, init_env', Nat.reduceEqDiff, Nat.reduceAdd, Nat.reduceMul, reduceIte, Nat.reduceLeDiff, Nat.reduceLT, Nat.reduceBEq, reduceCtorEq, hP, Int.toNat_natCast, map_getD hka, map_getD hkb, List.length_map, Int.ofNat_lt, hka, hkb, Int.natCast_nonneg, w1, w2]); (repeat (refine And.intro (by first | omega | (intros; simp_all; done) | (intros; simp_all; omega)) ?_))))
  (refine AS_pure (compare64 _ _) rfl rfl rfl rfl rfl ?_; simp only [go_sem, init_env', Nat.reduceEqDiff, Nat.reduceAdd, Nat.reduceMul, reduceIte, Nat.reduceLeDiff, Nat.reduceLT, Nat.reduceBEq, reduceCtorEq, hP, ]; (repeat (refine And.intro (by first | omega | (intros; simp_all; done) | (intros; simp_all; omega)) ?_)); (repeat ((first | refine WV_seq_ ?_ | refine WV_block ?_ | refine WV_ops ?_ | refine WV_skip ?_ | refine WV_exit ?_); (try simp only [go_sem, init_env', Nat.reduceEqDiff, Nat.reduceAdd, Nat.reduceMul, reduceIte, Nat.reduceLeDiff, Nat.reduceLT, Nat.reduceBEq, reduceCtorEq, hP, ]); (repeat (refine And.intro (by first | omega | (intros; simp_all; done) | (intros; simp_all; omega)) ?_)))))
  (refine WV_ret ?_; simp only [thenQ, inQ, RetQ, RetOk, resAll, resA]; simp only [go_sem, init_env', Nat.reduceEqDiff, Nat.reduceAdd, Nat.reduceMul, reduceIte, Nat.reduceLeDiff, Nat.reduceLT, Nat.reduceBEq, reduceCtorEq, tupA, AV.port, AV.portL, exists_eq_left', ]; (first | exact AVle.of rfl | refine AVle.of ?_ | skip))
  rw [Int.tmod_eq_emod_of_nonneg h1.1, Int.tmod_eq_emod_of_nonneg h2.1]
  simp [restOf, hka, hkb]

/-! ### The sort -/
def cellsN (l : List Nat) : List AV := l.map fun (k : Nat) => iv k
theorem cellsN_len (l : List Nat) : (cellsN l).length = l.length := by simp [cellsN]
theorem cellsN_pure (l : List Nat) : AV.pureL (cellsN l) = true := by
  induction l with
  | nil => rfl
  | cons a t ih => simp only [cellsN, List.map_cons, AV.pureL, AV.pureB, Bool.true_and]; exact ih
theorem cellsN_solid (l : List Nat) : AV.isSolidL (cellsN l) = true := by
  induction l with
  | nil => rfl
  | cons a t ih => simp only [cellsN, List.map_cons, AV.isSolidL, AV.isSolid, Bool.true_and]; exact ih
theorem cellsN_get {l : List Nat} {k x : Nat} (h : l[k]? = some x) (d : AV) : (cellsN l).getD k d = iv x := by
  simp [cellsN, List.getD_eq_getElem?_getD, h]
theorem cellsN_set (l : List Nat) (k x : Nat) : (cellsN l).set k (iv x) = cellsN (l.set k x) := by
  simp [cellsN, List.map_set]

set_option maxHeartbeats 4000000 in
theorem ins68 {fc : FuncId} {d1 d2 : CD} {f : Nat → Int} {n : Nat} (hn : 0 < n) (hn20 : n ≤ 20) (hcmp : ∀ a b, a < n → b < n → FSpec Try.prog fc [iv a, iv b, .c d1, .c d2] (iv (cmpI (f b) (f a)))) :
    FSpecL Try.prog 68 [.vw 1 1000 0 n n, iv 0, iv n, .fn fc [.c d1, .c d2]] [.box (cellsN (List.range n))] [] (fun res l' => res = .tup [] ∧ ∃ l, Ordered f n l ∧ l' = [.box (cellsN l)]) := by
  have hprg : ∀ d l, AV.prgL d (cellsN l) = cellsN l := fun d l => prgL_pure d (cellsN_pure _)
  have w0 : IntKind.i64.wrap (0 + 1) = 1 := by decide
  refine FSpecL_of c68 (by first | simp | exact Nat.le_of_ble_eq_true rfl) (Nat.le_refl _) (by decide) (by decide) fun C hP hN hC hL => ?_; rw [init_env', ownW_upd (by first | simp | exact Nat.le_of_ble_eq_true rfl)]; simp only [ir68, updL, updLo, List.map_nil, List.map_cons, Nat.reduceAdd, ]
  (repeat ((first | refine WV_seq_ ?_ | refine WV_block ?_ | refine WV_ops ?_ | refine WV_skip ?_ | refine WV_exit ?_); (try simp only [go_sem, init_env', Nat.reduceEqDiff, Nat.reduceAdd, Nat.reduceMul, reduceIte, Nat.reduceLeDiff, Nat.reduceLT, Nat.reduceBEq, reduceCtorEq, hP, w0]); (repeat (refine And.intro (by first | omega | (intros; simp_all; done) | (intros; simp_all; omega)) ?_))))
  refine WV_loopK K68_1 [1000] (fun p : Nat × List Nat => 1 ≤ p.1 ∧ p.1 ≤ n ∧ SortI f n p.1 p.2) (fun p => n - p.1) (fun p => [(8, iv p.1)]) (fun p => [(1000, .box (cellsN p.2))]) (1, List.range n) ⟨Nat.le_refl _, hn, SortI.first f hn⟩ ?_ ?_
  · (refine Sub_of (by simp only [go_sem, init_env', Nat.reduceEqDiff, Nat.reduceAdd, Nat.reduceMul, reduceIte, Nat.reduceLeDiff, Nat.reduceLT, Nat.reduceBEq, reduceCtorEq]; ((repeat' (first | exact EnvLe_e0 _ _ | refine EnvLe_upd ?_ ?_)) <;> ((try simp only [upd_app, e0_app, o0_app, Nat.reduceEqDiff, reduceIte]); first | exact AWk.refl _ _ | exact AWk.int (by omega) | exact AWk.int (by rw [w64 (by omega) (by omega)]; omega) | exact AWk.grow rfl | exact AWk.nil _ | exact AWk.of (by simp)))) (by simp only [go_sem, init_env', Nat.reduceEqDiff, Nat.reduceAdd, Nat.reduceMul, reduceIte, Nat.reduceLeDiff, Nat.reduceLT, Nat.reduceBEq, reduceCtorEq]; ((repeat' (first | exact ObjLe_o0 _ | exact ObjLe.rfl' _ | refine ObjLe_same ?_ | refine ObjLe_upd ?_ ?_ | refine ObjLe_new rfl ?_)) <;> rfl)))
  · rintro ⟨i, l⟩ ⟨h1, h2, hs⟩
    simp only at h1 h2 hs
    have hl := hs.len
    simp only [go_sem, init_env', Nat.reduceEqDiff, Nat.reduceAdd, Nat.reduceMul, reduceIte, Nat.reduceLeDiff, Nat.reduceLT, Nat.reduceBEq, reduceCtorEq]
    (repeat ((first | refine WV_seq_ ?_ | refine WV_block ?_ | refine WV_ops ?_ | refine WV_skip ?_ | refine WV_exit ?_); (try simp only [go_sem, init_env', Nat.reduceEqDiff, Nat.reduceAdd, Nat.reduceMul, reduceIte, Nat.reduceLeDiff, Nat.reduceLT, Nat.reduceBEq, reduceCtorEq, hP, ]); (repeat (refine And.intro (by first | omega | (intros; simp_all; done) | (intros; simp_all; omega)) ?_))))
    (refine WV_cond rfl (fun h => ?_) (fun h => ?_))
    · have hi : i < n := by simpa using h
      (repeat ((first | refine WV_seq_ ?_ | refine WV_block ?_ | refine WV_ops ?_ | refine WV_skip ?_ | refine WV_exit ?_); (try simp only [go_sem, init_env', Nat.reduceEqDiff, Nat.reduceAdd, Nat.reduceMul, reduceIte, Nat.reduceLeDiff, Nat.reduceLT, Nat.reduceBEq, reduceCtorEq, hP, ]); (repeat (refine And.intro (by first | omega | (intros; simp_all; done) | (intros; simp_all; omega)) ?_))))
      refine WV_loopK K68_2 [1000] (fun j : Nat => j ≤ i ∧ ∀ t x, j ≤ t → t < i → l[t]? = some x → f x < f i) (fun j => j) (fun j => [(9, iv j)]) (fun j => [(1000, .box (cellsN (mv l i j)))]) i ⟨Nat.le_refl _, fun t x h3 h4 => by omega⟩ ?_ ?_
      · rw [mv_self (by omega)]
        (refine Sub_of (by simp only [go_sem, init_env', Nat.reduceEqDiff, Nat.reduceAdd, Nat.reduceMul, reduceIte, Nat.reduceLeDiff, Nat.reduceLT, Nat.reduceBEq, reduceCtorEq]; ((repeat' (first | exact EnvLe_e0 _ _ | refine EnvLe_upd ?_ ?_)) <;> ((try simp only [upd_app, e0_app, o0_app, Nat.reduceEqDiff, reduceIte]); first | exact AWk.refl _ _ | exact AWk.int (by omega) | exact AWk.int (by rw [w64 (by omega) (by omega)]; omega) | exact AWk.grow rfl | exact AWk.nil _ | exact AWk.of (by simp)))) (by simp only [go_sem, init_env', Nat.reduceEqDiff, Nat.reduceAdd, Nat.reduceMul, reduceIte, Nat.reduceLeDiff, Nat.reduceLT, Nat.reduceBEq, reduceCtorEq]; ((repeat' (first | exact ObjLe_o0 _ | exact ObjLe.rfl' _ | refine ObjLe_same ?_ | refine ObjLe_upd ?_ ?_ | refine ObjLe_new rfl ?_)) <;> rfl)))
      · rintro j ⟨hj, hd⟩
        have hgi : l[i]? = some i := hs.rest i (Nat.le_refl _) hi
        have hmi : (mv l i j)[j]? = some i := by rw [mv_get (by omega) hj, if_neg (by omega), if_pos rfl, hgi]
        have hlm : (cellsN (mv l i j)).length = n := by rw [cellsN_len, mv_len (by omega) hj, hl]
        simp only [go_sem, init_env', Nat.reduceEqDiff, Nat.reduceAdd, Nat.reduceMul, reduceIte, Nat.reduceLeDiff, Nat.reduceLT, Nat.reduceBEq, reduceCtorEq]
        cases j with
        | zero =>
          have hd0 : decide ((0 : Int) < ((0 : Nat) : Int)) = false := by simp
          (repeat ((first | refine WV_seq_ ?_ | refine WV_block ?_ | refine WV_ops ?_ | refine WV_skip ?_ | refine WV_exit ?_); (try simp only [go_sem, init_env', Nat.reduceEqDiff, Nat.reduceAdd, Nat.reduceMul, reduceIte, Nat.reduceLeDiff, Nat.reduceLT, Nat.reduceBEq, reduceCtorEq, hP, hd0]); (repeat (refine And.intro (by first | omega | (intros; simp_all; done) | (intros; simp_all; omega)) ?_))))
          refine Or.inr (Or.inr ?_)
          (refine WV_cond rfl (fun h => ?_) (fun h => ?_))
          · simp at h
          · have hs' := hs.step hi (Nat.zero_le _) (fun t x _ h4 h5 => hd t x (Nat.zero_le _) h4 h5) (fun x h6 => by omega)
            have w1 := w64 (n := (i : Int) + 1) (by omega) (by omega)
            (repeat ((first | refine WV_seq_ ?_ | refine WV_block ?_ | refine WV_ops ?_ | refine WV_skip ?_ | refine WV_exit ?_); (try simp only [go_sem, init_env', Nat.reduceEqDiff, Nat.reduceAdd, Nat.reduceMul, reduceIte, Nat.reduceLeDiff, Nat.reduceLT, Nat.reduceBEq, reduceCtorEq, hP, w1]); (repeat (refine And.intro (by first | omega | (intros; simp_all; done) | (intros; simp_all; omega)) ?_))))
            refine ⟨(i + 1, mv l i 0), ⟨by simp only; omega, by simp only; omega, hs'⟩, by simp only; omega, ?_⟩
            (refine Sub_of (by simp only [go_sem, init_env', Nat.reduceEqDiff, Nat.reduceAdd, Nat.reduceMul, reduceIte, Nat.reduceLeDiff, Nat.reduceLT, Nat.reduceBEq, reduceCtorEq]; ((repeat' (first | exact EnvLe_e0 _ _ | refine EnvLe_upd ?_ ?_)) <;> ((try simp only [upd_app, e0_app, o0_app, Nat.reduceEqDiff, reduceIte]); first | exact AWk.refl _ _ | exact AWk.int (by omega) | exact AWk.int (by rw [w64 (by omega) (by omega)]; omega) | exact AWk.grow rfl | exact AWk.nil _ | exact AWk.of (by simp)))) (by simp only [go_sem, init_env', Nat.reduceEqDiff, Nat.reduceAdd, Nat.reduceMul, reduceIte, Nat.reduceLeDiff, Nat.reduceLT, Nat.reduceBEq, reduceCtorEq]; ((repeat' (first | exact ObjLe_o0 _ | exact ObjLe.rfl' _ | refine ObjLe_same ?_ | refine ObjLe_upd ?_ ?_ | refine ObjLe_new rfl ?_)) <;> rfl)))
        | succ j =>
          have hjl : j < l.length := by omega
          have hgj : l[j]? = some l[j] := List.getElem?_eq_getElem hjl
          have hjn := hs.lt (t := j) (by omega) h2 hgj
          have hmj : (mv l i (j + 1))[j]? = some l[j] := by rw [mv_get (by omega) hj, if_pos (by omega), hgj]
          have g1 := fun d => cellsN_get hmi d
          have g2 := fun d => cellsN_get hmj d
          have w1 := w64 (n := (j : Int)) (by omega) (by omega)
          have e1 : (((j + 1 : Nat) : Int) - 1) = (j : Int) := by omega
          have hjlt : j < n := by omega
          have hj1 : j + 1 < n := by omega
          have s1 : ((cellsN (mv l i (j + 1))).set (j + 1) (iv l[j])).set j (iv i) = cellsN (mv l i j) := by
            rw [cellsN_set, cellsN_set, mv_step (by omega) (by omega) i l[j] hgi hgj]
          have hdj : decide (0 < ((j + 1 : Nat) : Int)) = true := by simp
          have ht0 : (((j + 1 : Nat) : Int)).toNat = j + 1 := by omega
          have hlt1 : ((j + 1 : Nat) : Int) < (n : Int) := by omega
          have hlt2 : (j : Int) < (n : Int) := by omega
          (repeat ((first | refine WV_seq_ ?_ | refine WV_block ?_ | refine WV_ops ?_ | refine WV_skip ?_ | refine WV_exit ?_); (try simp only [go_sem, init_env', Nat.reduceEqDiff, Nat.reduceAdd, Nat.reduceMul, reduceIte, Nat.reduceLeDiff, Nat.reduceLT, Nat.reduceBEq, reduceCtorEq, hP, w1, e1, hdj, ht0, Int.toNat_natCast, g1, g2, hlm, hjlt, hj1, Nat.zero_add, Nat.mul_one]); (repeat (refine And.intro (by first | omega | (intros; simp_all; done) | (intros; simp_all; omega)) ?_))))
          refine AG_pure (fun _ => hcmp i l[j] hi (by omega)) rfl (fun _ => rfl) rfl rfl rfl ?_
          simp only [go_sem, init_env', Nat.reduceEqDiff, Nat.reduceAdd, Nat.reduceMul, reduceIte, Nat.reduceLeDiff, Nat.reduceLT, Nat.reduceBEq, reduceCtorEq, hP]
          (repeat ((first | refine WV_seq_ ?_ | refine WV_block ?_ | refine WV_ops ?_ | refine WV_skip ?_ | refine WV_exit ?_); (try simp only [go_sem, init_env', Nat.reduceEqDiff, Nat.reduceAdd, Nat.reduceMul, reduceIte, Nat.reduceLeDiff, Nat.reduceLT, Nat.reduceBEq, reduceCtorEq, hP, ]); (repeat (refine And.intro (by first | omega | (intros; simp_all; done) | (intros; simp_all; omega)) ?_))))
          have hcc : decide (cmpI (f l[j]) (f i) < 0) = decide (f l[j] < f i) := by
            unfold cmpI
            by_cases h1 : f l[j] < f i
            · simp [h1]
            · by_cases h2 : f i < f l[j]
              · simp [h1, h2]
              · simp [h1, h2]
          rw [hcc]
          (refine WV_cond rfl (fun h => ?_) (fun h => ?_))
          · have h : f l[j] < f i := by simpa using h
            (repeat ((first | refine WV_seq_ ?_ | refine WV_block ?_ | refine WV_ops ?_ | refine WV_skip ?_ | refine WV_exit ?_); (try simp only [go_sem, init_env', Nat.reduceEqDiff, Nat.reduceAdd, Nat.reduceMul, reduceIte, Nat.reduceLeDiff, Nat.reduceLT, Nat.reduceBEq, reduceCtorEq, hP, w1, e1, ht0, Int.toNat_natCast, g1, g2, hlm, hjlt, hj1, hlt1, hlt2, Nat.zero_add, Nat.mul_one, List.length_set, s1]); (repeat (refine And.intro (by first | omega | (intros; simp_all; done) | (intros; simp_all; omega)) ?_))))
            refine ⟨j, ⟨by omega, fun t x h3 h4 h5 => ?_⟩, by omega, ?_⟩
            · by_cases htj : t = j
              · subst htj; rw [hgj] at h5; cases h5; exact h
              · exact hd t x (by omega) h4 h5
            · (refine Sub_of (by simp only [go_sem, init_env', Nat.reduceEqDiff, Nat.reduceAdd, Nat.reduceMul, reduceIte, Nat.reduceLeDiff, Nat.reduceLT, Nat.reduceBEq, reduceCtorEq]; ((repeat' (first | exact EnvLe_e0 _ _ | refine EnvLe_upd ?_ ?_)) <;> ((try simp only [upd_app, e0_app, o0_app, Nat.reduceEqDiff, reduceIte]); first | exact AWk.refl _ _ | exact AWk.int (by omega) | exact AWk.int (by rw [w64 (by omega) (by omega)]; omega) | exact AWk.grow rfl | exact AWk.nil _ | exact AWk.of (by simp)))) (by simp only [go_sem, init_env', Nat.reduceEqDiff, Nat.reduceAdd, Nat.reduceMul, reduceIte, Nat.reduceLeDiff, Nat.reduceLT, Nat.reduceBEq, reduceCtorEq]; ((repeat' (first | exact ObjLe_o0 _ | exact ObjLe.rfl' _ | refine ObjLe_same ?_ | refine ObjLe_upd ?_ ?_ | refine ObjLe_new rfl ?_)) <;> rfl)))
          · have h : ¬ f l[j] < f i := by simpa using h
            have hs' := hs.step (j := j + 1) hi hj hd (fun x _ hx => by rw [Nat.add_sub_cancel, hgj] at hx; cases hx; omega)
            have w2 := w64 (n := (i : Int) + 1) (by omega) (by omega)
            (repeat ((first | refine WV_seq_ ?_ | refine WV_block ?_ | refine WV_ops ?_ | refine WV_skip ?_ | refine WV_exit ?_); (try simp only [go_sem, init_env', Nat.reduceEqDiff, Nat.reduceAdd, Nat.reduceMul, reduceIte, Nat.reduceLeDiff, Nat.reduceLT, Nat.reduceBEq, reduceCtorEq, hP, w2]); (repeat (refine And.intro (by first | omega | (intros; simp_all; done) | (intros; simp_all; omega)) ?_))))
            refine ⟨(i + 1, mv l i (j + 1)), ⟨by simp only; omega, by simp only; omega, hs'⟩, by simp only; omega, ?_⟩
            (refine Sub_of (by simp only [go_sem, init_env', Nat.reduceEqDiff, Nat.reduceAdd, Nat.reduceMul, reduceIte, Nat.reduceLeDiff, Nat.reduceLT, Nat.reduceBEq, reduceCtorEq]; ((repeat' (first | exact EnvLe_e0 _ _ | refine EnvLe_upd ?_ ?_)) <;> ((try simp only [upd_app, e0_app, o0_app, Nat.reduceEqDiff, reduceIte]); first | exact AWk.refl _ _ | exact AWk.int (by omega) | exact AWk.int (by rw [w64 (by omega) (by omega)]; omega) | exact AWk.grow rfl | exact AWk.nil _ | exact AWk.of (by simp)))) (by simp only [go_sem, init_env', Nat.reduceEqDiff, Nat.reduceAdd, Nat.reduceMul, reduceIte, Nat.reduceLeDiff, Nat.reduceLT, Nat.reduceBEq, reduceCtorEq]; ((repeat' (first | exact ObjLe_o0 _ | exact ObjLe.rfl' _ | refine ObjLe_same ?_ | refine ObjLe_upd ?_ ?_ | refine ObjLe_new rfl ?_)) <;> rfl)))
    · have h : i = n := by simp at h; omega
      subst h
      (refine WV_exit ?_; simp only [go_sem, init_env', Nat.reduceEqDiff, Nat.reduceAdd, Nat.reduceMul, reduceIte, Nat.reduceLeDiff, Nat.reduceLT, Nat.reduceBEq, reduceCtorEq])
      ((try simp only [thenQ, inQ, RetQL, RetOkL, resAll, resA]); (try simp only [go_sem, init_env', Nat.reduceEqDiff, Nat.reduceAdd, Nat.reduceMul, reduceIte, Nat.reduceLeDiff, Nat.reduceLT, Nat.reduceBEq, reduceCtorEq, tupA, AV.keepP, AV.keepPL]); refine ⟨_, [.box (cellsN l)], rfl, KeepL_mk rfl rfl ?_ ?_ rfl, ?_⟩)
      · simp only [go_sem, init_env', Nat.reduceEqDiff, Nat.reduceAdd, Nat.reduceMul, reduceIte, Nat.reduceLeDiff, Nat.reduceLT, Nat.reduceBEq, reduceCtorEq, keepAll, Ob.keepP, keepPL_pure (cellsN_pure _) (cellsN_solid _)]
      · simp only [go_sem, init_env', Nat.reduceEqDiff, Nat.reduceAdd, Nat.reduceMul, reduceIte, Nat.reduceLeDiff, Nat.reduceLT, Nat.reduceBEq, reduceCtorEq, winAll]
      · exact ⟨rfl, _, hs.done (Nat.le_refl _), rfl⟩

set_option maxHeartbeats 4000000 in
theorem stable66 {fc : FuncId} {d1 d2 : CD} {f : Nat → Int} {n : Nat} (hn : 0 < n) (hn6 : n < 20) (hcmp : ∀ a b, a < n → b < n → FSpec Try.prog fc [iv a, iv b, .c d1, .c d2] (iv (cmpI (f b) (f a)))) :
    FSpecL Try.prog 66 [.vw 1 1000 0 n n, iv n, .fn fc [.c d1, .c d2]] [.box (cellsN (List.range n))] [] (fun res l' => res = .tup [] ∧ ∃ l, Ordered f n l ∧ l' = [.box (cellsN l)]) := by
  have hprg : ∀ d l, AV.prgL d (cellsN l) = cellsN l := fun d l => prgL_pure d (cellsN_pure _)
  refine FSpecL_of c66 (by first | simp | exact Nat.le_of_ble_eq_true rfl) (Nat.le_refl _) (by decide) (by decide) fun C hP hN hC hL => ?_; rw [init_env', ownW_upd (by first | simp | exact Nat.le_of_ble_eq_true rfl)]; simp only [ir66, updL, updLo, List.map_nil, List.map_cons, Nat.reduceAdd, ]
  (repeat ((first | refine WV_seq_ ?_ | refine WV_block ?_ | refine WV_ops ?_ | refine WV_skip ?_ | refine WV_exit ?_); (try simp only [go_sem, init_env', Nat.reduceEqDiff, Nat.reduceAdd, Nat.reduceMul, reduceIte, Nat.reduceLeDiff, Nat.reduceLT, Nat.reduceBEq, reduceCtorEq, hP, ]); (repeat (refine And.intro (by first | omega | (intros; simp_all; done) | (intros; simp_all; omega)) ?_))))
  refine WV_loopK K66_1 [1000] (fun _ : Unit => True) (fun _ => 0) (fun _ => [(7, iv 0), (8, iv 20)]) (fun _ => [(1000, .box (cellsN (List.range n)))]) () trivial ?_ ?_
  · (refine Sub_of (by simp only [go_sem, init_env', Nat.reduceEqDiff, Nat.reduceAdd, Nat.reduceMul, reduceIte, Nat.reduceLeDiff, Nat.reduceLT, Nat.reduceBEq, reduceCtorEq]; ((repeat' (first | exact EnvLe_e0 _ _ | refine EnvLe_upd ?_ ?_)) <;> ((try simp only [upd_app, e0_app, o0_app, Nat.reduceEqDiff, reduceIte]); first | exact AWk.refl _ _ | exact AWk.int (by omega) | exact AWk.int (by rw [w64 (by omega) (by omega)]; omega) | exact AWk.grow rfl | exact AWk.nil _ | exact AWk.of (by simp)))) (by simp only [go_sem, init_env', Nat.reduceEqDiff, Nat.reduceAdd, Nat.reduceMul, reduceIte, Nat.reduceLeDiff, Nat.reduceLT, Nat.reduceBEq, reduceCtorEq]; ((repeat' (first | exact ObjLe_o0 _ | exact ObjLe.rfl' _ | refine ObjLe_same ?_ | refine ObjLe_upd ?_ ?_ | refine ObjLe_new rfl ?_)) <;> rfl)))
  · rintro - -
    simp only [go_sem, init_env', Nat.reduceEqDiff, Nat.reduceAdd, Nat.reduceMul, reduceIte, Nat.reduceLeDiff, Nat.reduceLT, Nat.reduceBEq, reduceCtorEq]
    (repeat ((first | refine WV_seq_ ?_ | refine WV_block ?_ | refine WV_ops ?_ | refine WV_skip ?_ | refine WV_exit ?_); (try simp only [go_sem, init_env', Nat.reduceEqDiff, Nat.reduceAdd, Nat.reduceMul, reduceIte, Nat.reduceLeDiff, Nat.reduceLT, Nat.reduceBEq, reduceCtorEq, hP, ]); (repeat (refine And.intro (by first | omega | (intros; simp_all; done) | (intros; simp_all; omega)) ?_))))
    (refine WV_cond rfl (fun h => ?_) (fun h => ?_))
    · have h : (20 : Int) ≤ n := by simpa using h
      omega
    · (refine WV_exit ?_; simp only [go_sem, init_env', Nat.reduceEqDiff, Nat.reduceAdd, Nat.reduceMul, reduceIte, Nat.reduceLeDiff, Nat.reduceLT, Nat.reduceBEq, reduceCtorEq])
      (repeat ((first | refine WV_seq_ ?_ | refine WV_block ?_ | refine WV_ops ?_ | refine WV_skip ?_ | refine WV_exit ?_); (try simp only [go_sem, init_env', Nat.reduceEqDiff, Nat.reduceAdd, Nat.reduceMul, reduceIte, Nat.reduceLeDiff, Nat.reduceLT, Nat.reduceBEq, reduceCtorEq, hP, ]); (repeat (refine And.intro (by first | omega | (intros; simp_all; done) | (intros; simp_all; omega)) ?_))))
      refine AS_lend [1000] (ins68 hn (by omega) hcmp) rfl rfl rfl (by decide) rfl ?_ ?_
      · simp only [go_sem, init_env', Nat.reduceEqDiff, Nat.reduceAdd, Nat.reduceMul, reduceIte, Nat.reduceLeDiff, Nat.reduceLT, Nat.reduceBEq, reduceCtorEq, obsLend, Ob.lend, lendL_pure (cellsN_pure _) (cellsN_solid _)]
      · rintro r l' ⟨rfl, l, hl, rfl⟩
        refine ⟨_, _, rfl, by simp only [obsBack, Ob.back, backs_pure (cellsN_pure _)]; rfl, ?_⟩
        simp only [go_sem, init_env', Nat.reduceEqDiff, Nat.reduceAdd, Nat.reduceMul, reduceIte, Nat.reduceLeDiff, Nat.reduceLT, Nat.reduceBEq, reduceCtorEq, hP, ownBack]
        (repeat ((first | refine WV_seq_ ?_ | refine WV_block ?_ | refine WV_ops ?_ | refine WV_skip ?_ | refine WV_exit ?_); (try simp only [go_sem, init_env', Nat.reduceEqDiff, Nat.reduceAdd, Nat.reduceMul, reduceIte, Nat.reduceLeDiff, Nat.reduceLT, Nat.reduceBEq, reduceCtorEq, hP, ]); (repeat (refine And.intro (by first | omega | (intros; simp_all; done) | (intros; simp_all; omega)) ?_))))
        refine WV_loopK K66_2 [1000] (fun _ : Unit => True) (fun _ => 0) (fun _ => [(6, iv 20)]) (fun _ => [(1000, .box (cellsN l))]) () trivial ?_ ?_
        · (refine Sub_of (by simp only [go_sem, init_env', Nat.reduceEqDiff, Nat.reduceAdd, Nat.reduceMul, reduceIte, Nat.reduceLeDiff, Nat.reduceLT, Nat.reduceBEq, reduceCtorEq]; ((repeat' (first | exact EnvLe_e0 _ _ | refine EnvLe_upd ?_ ?_)) <;> ((try simp only [upd_app, e0_app, o0_app, Nat.reduceEqDiff, reduceIte]); first | exact AWk.refl _ _ | exact AWk.int (by omega) | exact AWk.int (by rw [w64 (by omega) (by omega)]; omega) | exact AWk.grow rfl | exact AWk.nil _ | exact AWk.of (by simp)))) (by simp only [go_sem, init_env', Nat.reduceEqDiff, Nat.reduceAdd, Nat.reduceMul, reduceIte, Nat.reduceLeDiff, Nat.reduceLT, Nat.reduceBEq, reduceCtorEq]; ((repeat' (first | exact ObjLe_o0 _ | exact ObjLe.rfl' _ | refine ObjLe_same ?_ | refine ObjLe_upd ?_ ?_ | refine ObjLe_new rfl ?_)) <;> rfl)))
        · rintro - -
          simp only [go_sem, init_env', Nat.reduceEqDiff, Nat.reduceAdd, Nat.reduceMul, reduceIte, Nat.reduceLeDiff, Nat.reduceLT, Nat.reduceBEq, reduceCtorEq]
          (repeat ((first | refine WV_seq_ ?_ | refine WV_block ?_ | refine WV_ops ?_ | refine WV_skip ?_ | refine WV_exit ?_); (try simp only [go_sem, init_env', Nat.reduceEqDiff, Nat.reduceAdd, Nat.reduceMul, reduceIte, Nat.reduceLeDiff, Nat.reduceLT, Nat.reduceBEq, reduceCtorEq, hP, ]); (repeat (refine And.intro (by first | omega | (intros; simp_all; done) | (intros; simp_all; omega)) ?_))))
          (refine WV_cond rfl (fun h => ?_) (fun h => ?_))
          · have h : (20 : Int) < n := by simpa using h
            omega
          · (refine WV_exit ?_; simp only [go_sem, init_env', Nat.reduceEqDiff, Nat.reduceAdd, Nat.reduceMul, reduceIte, Nat.reduceLeDiff, Nat.reduceLT, Nat.reduceBEq, reduceCtorEq])
            ((try simp only [thenQ, inQ, RetQL, RetOkL, resAll, resA]); (try simp only [go_sem, init_env', Nat.reduceEqDiff, Nat.reduceAdd, Nat.reduceMul, reduceIte, Nat.reduceLeDiff, Nat.reduceLT, Nat.reduceBEq, reduceCtorEq, tupA, AV.keepP, AV.keepPL]); refine ⟨_, [.box (cellsN l)], rfl, KeepL_mk rfl rfl ?_ ?_ rfl, ?_⟩)
            · simp only [go_sem, init_env', Nat.reduceEqDiff, Nat.reduceAdd, Nat.reduceMul, reduceIte, Nat.reduceLeDiff, Nat.reduceLT, Nat.reduceBEq, reduceCtorEq, keepAll, Ob.keepP, keepPL_pure (cellsN_pure _) (cellsN_solid _)]
            · simp only [go_sem, init_env', Nat.reduceEqDiff, Nat.reduceAdd, Nat.reduceMul, reduceIte, Nat.reduceLeDiff, Nat.reduceLT, Nat.reduceBEq, reduceCtorEq, winAll]
            · exact ⟨rfl, _, hl, rfl⟩

theorem sort62 {fc : FuncId} {d1 d2 : CD} {f : Nat → Int} {n : Nat} (hn : 0 < n) (hn6 : n < 20) (hcmp : ∀ a b, a < n → b < n → FSpec Try.prog fc [iv a, iv b, .c d1, .c d2] (iv (cmpI (f b) (f a)))) :
    FSpecL Try.prog 62 [.vw 1 1000 0 n n, .fn fc [.c d1, .c d2]] [.box (cellsN (List.range n))] [] (fun res l' => res = .tup [] ∧ ∃ l, Ordered f n l ∧ l' = [.box (cellsN l)]) := by
  refine FSpecL_of c62 (by first | simp | exact Nat.le_of_ble_eq_true rfl) (Nat.le_refl _) (by decide) (by decide) fun C hP hN hC hL => ?_; rw [init_env', ownW_upd (by first | simp | exact Nat.le_of_ble_eq_true rfl)]; simp only [ir62, updL, updLo, List.map_nil, List.map_cons, Nat.reduceAdd, ]
  (repeat ((first | refine WV_seq_ ?_ | refine WV_block ?_ | refine WV_ops ?_ | refine WV_skip ?_ | refine WV_exit ?_); (try simp only [go_sem, init_env', Nat.reduceEqDiff, Nat.reduceAdd, Nat.reduceMul, reduceIte, Nat.reduceLeDiff, Nat.reduceLT, Nat.reduceBEq, reduceCtorEq, hP, ]); (repeat (refine And.intro (by first | omega | (intros; simp_all; done) | (intros; simp_all; omega)) ?_))))
  refine AS_lend [1000] (stable66 hn hn6 hcmp) rfl rfl rfl (by decide) rfl ?_ ?_
  · simp only [go_sem, init_env', Nat.reduceEqDiff, Nat.reduceAdd, Nat.reduceMul, reduceIte, Nat.reduceLeDiff, Nat.reduceLT, Nat.reduceBEq, reduceCtorEq, obsLend, Ob.lend, lendL_pure (cellsN_pure _) (cellsN_solid _)]
  · rintro r l' ⟨rfl, l, hl, rfl⟩
    refine ⟨_, _, rfl, by simp only [obsBack, Ob.back, backs_pure (cellsN_pure _)]; rfl, ?_⟩
    simp only [go_sem, init_env', Nat.reduceEqDiff, Nat.reduceAdd, Nat.reduceMul, reduceIte, Nat.reduceLeDiff, Nat.reduceLT, Nat.reduceBEq, reduceCtorEq, hP, ownBack]
    ((try simp only [thenQ, inQ, RetQL, RetOkL, resAll, resA]); (try simp only [go_sem, init_env', Nat.reduceEqDiff, Nat.reduceAdd, Nat.reduceMul, reduceIte, Nat.reduceLeDiff, Nat.reduceLT, Nat.reduceBEq, reduceCtorEq, tupA, AV.keepP, AV.keepPL]); refine ⟨_, [.box (cellsN l)], rfl, KeepL_mk rfl rfl ?_ ?_ rfl, ?_⟩)
    · simp only [go_sem, init_env', Nat.reduceEqDiff, Nat.reduceAdd, Nat.reduceMul, reduceIte, Nat.reduceLeDiff, Nat.reduceLT, Nat.reduceBEq, reduceCtorEq, keepAll, Ob.keepP, keepPL_pure (cellsN_pure _) (cellsN_solid _)]
    · simp only [go_sem, init_env', Nat.reduceEqDiff, Nat.reduceAdd, Nat.reduceMul, reduceIte, Nat.reduceLeDiff, Nat.reduceLT, Nat.reduceBEq, reduceCtorEq, winAll]
    · exact ⟨rfl, _, hl, rfl⟩
end Go.Proofs.Ytnmchaemhjnkgaa

namespace Go.Proofs.Ytnmchaemhjnkgaa
open Go Go.V

/-! ### Weights: plain -/
def cellsI (l : List Int) : List AV := l.map fun n => iv n
theorem cellsI_len (l : List Int) : (cellsI l).length = l.length := by simp [cellsI]
theorem cellsI_pure (l : List Int) : AV.pureL (cellsI l) = true := by
  induction l with
  | nil => rfl
  | cons a t ih => simp only [cellsI, List.map_cons, AV.pureL, AV.pureB, Bool.true_and]; exact ih
theorem cellsI_solid (l : List Int) : AV.isSolidL (cellsI l) = true := by
  induction l with
  | nil => rfl
  | cons a t ih => simp only [cellsI, List.map_cons, AV.isSolidL, AV.isSolid, Bool.true_and]; exact ih
theorem cellsI_get {l : List Int} {k : Nat} (h : k < l.length) (d : AV) : (cellsI l).getD k d = iv (l.getD k 0) := by
  simp [cellsI, List.getD_eq_getElem?_getD, h]
theorem cellsI_set (l : List Int) (k : Nat) (x : Int) : (cellsI l).set k (iv x) = cellsI (l.set k x) := by
  simp [cellsI, List.map_set]
theorem cellsI_zero (n : Nat) : (List.replicate n [iv 0]).flatten = cellsI (List.replicate n 0) := by
  induction n with
  | zero => rfl
  | succ n ih => simp only [List.replicate_succ, List.flatten_cons, ih]; rfl
theorem prg_cellsI (d : Nat) (l : List Int) : AV.prgL d (cellsI l) = cellsI l := prgL_pure d (cellsI_pure l)
theorem prg_cellsN (d : Nat) (l : List Nat) : AV.prgL d (cellsN l) = cellsN l := prgL_pure d (cellsN_pure l)
theorem frz_pureL (n : Nat) (ds : List CD) : ∀ l : List Int, AV.frzL n ds (cellsI l) = cellsI l
  | [] => rfl
  | a :: l => by
    have := frz_pureL n ds l
    simp only [cellsI] at this
    simp only [cellsI, List.map_cons, AV.frzL, AV.frz, this]
attribute [go_sem] prg_cellsI prg_cellsN frz_pureL Int.toNat_natCast List.length_map List.length_set cellsI_len cellsN_len Nat.mul_one Nat.zero_add
theorem toCD_cellsI (own : Nat → Ob) (l : List Int) : (cellsI l).mapM (AV.toCD own) = some (l.map fun n => CD.int .i64 n) := by
  induction l with
  | nil => rfl
  | cons a t ih => simp only [cellsI, List.map_cons, List.mapM_cons, AV.toCD, Option.pure_def, Option.bind_eq_bind, Option.bind_some] at ih ⊢; rw [ih]; rfl
theorem grp_one {α : Type} : ∀ l : List α, grp 1 l.length l = l.map fun x => [x]
  | [] => rfl
  | a :: l => by simp [grp, grp_one l]
theorem grp_ints (l : List Int) : grp 1 l.length ((l.map fun n => CD.int .i64 n).take (l.length * 1)) = l.map fun n => [CD.int .i64 n] := by
  have h := grp_one (l.map fun n => CD.int .i64 n)
  rw [List.length_map] at h
  rw [Nat.mul_one, List.take_of_length_le (by simp), h, List.map_map]
  rfl

def addP (pl : Int) (l : List Int) (p : Part) : List Int := l.set p.who.toNat (l.getD p.who.toNat 0 + pl * p.pc)
def addS (l : List Int) (s : Side) : List Int := s.parts.foldl (addP s.plays) l
def zeros (n : Nat) : List Int := List.replicate n 0
/-- How much of each hundred times all plays belongs to each writer. -/
def wts (r : Royal) : List Int := r.sides.foldl addS (zeros r.n)
def allW (r : Royal) : Int := (r.sides.map fun s => 100 * s.plays).sum
structure BL (n : Nat) (B : Int) (l : List Int) : Prop where
  len : l.length = n
  bd : ∀ x ∈ l, 0 ≤ x ∧ x ≤ B
theorem BL.get {n : Nat} {B : Int} {l : List Int} (h : BL n B l) (hB : 0 ≤ B) (k : Nat) : 0 ≤ l.getD k 0 ∧ l.getD k 0 ≤ B := by
  rw [List.getD_eq_getElem?_getD]
  rcases Nat.lt_or_ge k l.length with hk | hk
  · rw [List.getElem?_eq_getElem hk]; exact h.bd _ (List.getElem_mem hk)
  · rw [List.getElem?_eq_none hk]; exact ⟨Int.le_refl _, hB⟩
theorem mul_small {a b A B : Int} (ha : 0 ≤ a ∧ a ≤ A) (hb : 0 ≤ b ∧ b ≤ B) : 0 ≤ a * b ∧ a * b ≤ A * B :=
  ⟨Int.mul_nonneg ha.1 hb.1, Int.mul_le_mul ha.2 hb.2 hb.1 (Int.le_trans ha.1 ha.2)⟩
theorem BL.addP {n : Nat} {B pl : Int} {l : List Int} {p : Part} (h : BL n B l) (hB : 0 ≤ B) (hp : 0 ≤ pl ∧ pl ≤ 9999) (hc : 1 ≤ p.pc ∧ p.pc ≤ 100) : BL n (B + 999900) (addP pl l p) := by
  have hm := mul_small hp (⟨by omega, hc.2⟩ : 0 ≤ p.pc ∧ p.pc ≤ 100)
  have hg := h.get hB p.who.toNat
  refine ⟨by simp [Go.Proofs.Ytnmchaemhjnkgaa.addP, h.len], fun x hx => ?_⟩
  rcases List.mem_or_eq_of_mem_set hx with hx | rfl
  · have := h.bd x hx; omega
  · omega
theorem BL.parts {n : Nat} {pl : Int} (hp : 0 ≤ pl ∧ pl ≤ 9999) : ∀ (ps : List Part) (B : Int) (l : List Int), BL n B l → 0 ≤ B → (∀ p ∈ ps, 1 ≤ p.pc ∧ p.pc ≤ 100) → BL n (B + 999900 * ps.length) (ps.foldl (Go.Proofs.Ytnmchaemhjnkgaa.addP pl) l)
  | [], B, l, h, _, _ => by simpa using h
  | p :: ps, B, l, h, hB, hc => by
    have := BL.parts hp ps (B + 999900) _ (h.addP hB hp (hc p (by simp))) (by omega) (fun q hq => hc q (by simp [hq]))
    simp only [List.foldl_cons, List.length_cons]
    rwa [show B + 999900 * ((ps.length + 1 : Nat) : Int) = B + 999900 + 999900 * (ps.length : Int) from by omega]
theorem BL.mono {n : Nat} {B B' : Int} {l : List Int} (h : BL n B l) (hB : B ≤ B') : BL n B' l := ⟨h.len, fun x hx => by have := h.bd x hx; omega⟩
theorem BL.zeros (n : Nat) : BL n 0 (zeros n) := ⟨by simp [Go.Proofs.Ytnmchaemhjnkgaa.zeros], fun x hx => by simp only [Go.Proofs.Ytnmchaemhjnkgaa.zeros, List.mem_replicate] at hx; omega⟩
theorem wts_bl {r : Royal} (hr : RoyalOk r) : ∀ k, k ≤ r.sides.length → BL r.n (6000000 * (k : Int)) ((r.sides.take k).foldl addS (zeros r.n))
  | 0, _ => by simpa using BL.zeros r.n
  | k + 1, h => by
    have hk : k < r.sides.length := h
    have ih := wts_bl hr k (by omega)
    have hm := List.getElem_mem hk
    rw [List.take_succ_eq_append_getElem hk, List.foldl_append]
    have := BL.parts (hr.plays _ hm) r.sides[k].parts _ _ ih (by omega) (fun p hp => (hr.part _ hm p hp).2.2)
    have h6 := hr.p6 _ hm
    exact this.mono (by omega)
theorem allT {r : Royal} (hr : RoyalOk r) : ∀ k, k ≤ r.sides.length → 0 ≤ ((r.sides.take k).map fun s => 100 * s.plays).sum ∧ ((r.sides.take k).map fun s => 100 * s.plays).sum ≤ 999900 * (k : Int)
  | 0, _ => by simp
  | k + 1, h => by
    have hk : k < r.sides.length := h
    have ih := allT hr k (by omega)
    have hm := hr.plays _ (List.getElem_mem hk)
    rw [List.take_succ_eq_append_getElem hk, List.map_append, List.sum_append]
    simp only [List.map_cons, List.map_nil, List.sum_cons, List.sum_nil]
    omega
theorem allW_bd {r : Royal} (hr : RoyalOk r) : 0 ≤ allW r ∧ allW r ≤ 5999400 := by
  have := allT hr r.sides.length (Nat.le_refl _)
  rw [List.take_length] at this
  have h6 := hr.s6
  unfold allW
  omega
theorem wts_len (r : Royal) : (wts r).length = r.n := by
  have h : ∀ (ss : List Side) (l : List Int), (ss.foldl addS l).length = l.length := by
    intro ss
    induction ss with
    | nil => intro l; rfl
    | cons s ss ih =>
      intro l
      rw [List.foldl_cons, ih]
      have : ∀ (ps : List Part) (l : List Int), (ps.foldl (addP s.plays) l).length = l.length := by
        intro ps
        induction ps with
        | nil => intro l; rfl
        | cons p ps ih => intro l; rw [List.foldl_cons, ih]; simp [addP]
      exact this _ _
  unfold wts
  rw [h]
  simp [zeros]
theorem wts_bd {r : Royal} (hr : RoyalOk r) : ∀ x ∈ wts r, 0 ≤ x ∧ x ≤ 36000000 := by
  have h := wts_bl hr r.sides.length (Nat.le_refl _)
  rw [List.take_length] at h
  have h6 := hr.s6
  exact (h.mono (by omega)).bd

/-! ### The walk -/
@[reducible] def o45_0 : List Ins := [⟨(some 2), .box 3 (.t 0), none, true⟩,
  ⟨(some 4), .alloc [(.c (.raw (.slice none 0 0))), (.c (.int .i64 0))], none, true⟩,
  ⟨(some 5), .mv (.k (.c (.int .i64 0))), none, true⟩]
@[reducible] def o45_1 : List Ins := [⟨(some 11), .ld false 3 (.t 2), none, true⟩,
  ⟨(some 12), .call (.k (.fn 30 [])) [(.t 11)], none, true⟩,
  ⟨(some 6), .mv (.t 12), none, true⟩]
@[reducible] def o45_2 : List Ins := [⟨(some 13), .mv (.t 6), none, true⟩,
  ⟨(some 14), .bin .neq (.t 13) (.k (.c (.int .i64 0))), none, true⟩]
@[reducible] def o45_3 : List Ins := [⟨(some 15), .ld false 2 (.t 4), none, true⟩,
  ⟨(some 16), .mv (.t 6), none, true⟩,
  ⟨none, .st 2 (.t 4) (.t 15), none, true⟩,
  ⟨(some 5), .mv (.t 16), none, true⟩]
@[reducible] def v45_4 : VC := (.seq (.ops o45_3) .ret)
@[reducible] def v45_5 : VC := (.cond (.t 14) v45_4 .skip)
@[reducible] def v45_6 : VC := (.seq (.ops o45_2) v45_5)
@[reducible] def o45_7 : List Ins := [⟨(some 17), .mv (.t 1), none, true⟩,
  ⟨(some 18), .un .not (.t 17), none, true⟩]
@[reducible] def o45_8 : List Ins := [⟨(some 19), .ld false 2 (.t 4), none, true⟩,
  ⟨none, .st 2 (.t 4) (.t 19), none, true⟩,
  ⟨(some 5), .mv (.k (.c (.int .i64 1))), none, true⟩]
@[reducible] def v45_9 : VC := (.seq (.ops o45_8) .ret)
@[reducible] def v45_10 : VC := (.cond (.t 18) v45_9 .skip)
@[reducible] def o45_11 : List Ins := [⟨(some 20), .fa 2 (.t 2), none, true⟩,
  ⟨(some 21), .ld true 1 (.t 20), none, true⟩,
  ⟨(some 22), .len (.t 21), none, true⟩,
  ⟨(some 23), .mks 3 1 8 [(.c (.int .i64 0))] (.t 22) (.t 22), none, true⟩,
  ⟨(some 24), .fa 0 (.t 4), none, true⟩,
  ⟨none, .st 1 (.t 24) (.t 23), none, true⟩]
@[reducible] def o45_12 : List Ins := [⟨(some 25), .fa 1 (.t 2), none, true⟩,
  ⟨(some 26), .ld true 1 (.t 25), none, true⟩,
  ⟨(some 27), .len (.t 26), none, true⟩,
  ⟨(some 28), .mv (.k (.c (.int .i64 0))), none, true⟩]
@[reducible] def o45_13 : List Ins := [⟨(some 29), .bin .lss (.t 28) (.t 27), none, true⟩]
@[reducible] def o45_14 : List Ins := [⟨(some 30), .ia 2 (.t 26) (.t 28), none, true⟩,
  ⟨(some 31), .ld false 2 (.t 30), none, true⟩,
  ⟨(some 8), .alloc [(.c (.int .i64 0)), (.c (.raw (.slice none 0 0)))], none, true⟩,
  ⟨none, .st 2 (.t 8) (.t 31), none, true⟩]
@[reducible] def o45_15 : List Ins := [⟨(some 32), .fa 1 (.t 4), none, true⟩,
  ⟨(some 33), .ld true 1 (.t 32), none, true⟩,
  ⟨(some 34), .fa 0 (.t 8), none, true⟩,
  ⟨(some 35), .ld true 1 (.t 34), none, true⟩,
  ⟨(some 36), .bin .mul (.k (.c (.int .i64 100))) (.t 35), none, true⟩,
  ⟨(some 37), .bin .add (.t 33) (.t 36), none, true⟩,
  ⟨(some 38), .fa 1 (.t 4), none, true⟩,
  ⟨none, .st 1 (.t 38) (.t 37), none, true⟩]
@[reducible] def o45_16 : List Ins := [⟨(some 39), .fa 1 (.t 8), none, true⟩,
  ⟨(some 40), .ld true 1 (.t 39), none, true⟩,
  ⟨(some 41), .len (.t 40), none, true⟩,
  ⟨(some 42), .mv (.k (.c (.int .i64 0))), none, true⟩]
@[reducible] def o45_17 : List Ins := [⟨(some 43), .bin .lss (.t 42) (.t 41), none, true⟩]
@[reducible] def o45_18 : List Ins := [⟨(some 44), .ia 2 (.t 40) (.t 42), none, true⟩,
  ⟨(some 45), .ld false 2 (.t 44), none, true⟩,
  ⟨(some 10), .alloc [(.c (.int .i64 0)), (.c (.int .i64 0))], none, true⟩,
  ⟨none, .st 2 (.t 10) (.t 45), none, true⟩]
@[reducible] def o45_19 : List Ins := [⟨(some 46), .fa 0 (.t 4), none, false⟩,
  ⟨(some 47), .ld true 1 (.t 46), none, false⟩,
  ⟨(some 48), .fa 0 (.t 10), none, false⟩,
  ⟨(some 49), .ld true 1 (.t 48), none, false⟩,
  ⟨(some 50), .ia 1 (.t 47) (.t 49), none, false⟩,
  ⟨(some 51), .ld true 1 (.t 50), none, false⟩,
  ⟨(some 52), .fa 0 (.t 8), none, false⟩,
  ⟨(some 53), .ld true 1 (.t 52), none, false⟩,
  ⟨(some 54), .fa 1 (.t 10), none, false⟩,
  ⟨(some 55), .ld true 1 (.t 54), none, false⟩,
  ⟨(some 56), .bin .mul (.t 53) (.t 55), none, false⟩,
  ⟨(some 57), .bin .add (.t 51) (.t 56), none, true⟩,
  ⟨(some 58), .ia 1 (.t 47) (.t 49), none, true⟩,
  ⟨none, .st 1 (.t 58) (.t 57), none, true⟩]
@[reducible] def v45_20 : VC := (.seq (.ops o45_18) (.ops o45_19))
@[reducible] def o45_21 : List Ins := [⟨(some 59), .bin .add (.t 42) (.k (.c (.int .i64 1))), none, true⟩,
  ⟨(some 42), .mv (.t 59), none, true⟩]
@[reducible] def v45_22 : VC := (.seq (.block 3 v45_20) (.ops o45_21))
@[reducible] def v45_23 : VC := (.seq (.cond (.t 43) .skip (.exit 2)) v45_22)
@[reducible] def v45_24 : VC := (.seq (.ops o45_17) v45_23)
-- K45_2: changed and kept: [42]
@[reducible] def K45_2 : List Nat := [4, 8, 26, 27, 28, 40, 41]
@[reducible] def v45_25 : VC := (.loop v45_24)
@[reducible] def v45_26 : VC := (.block 2 v45_25)
@[reducible] def v45_27 : VC := (.seq (.ops o45_16) v45_26)
@[reducible] def v45_28 : VC := (.seq (.ops o45_15) v45_27)
@[reducible] def v45_29 : VC := (.seq (.ops o45_14) v45_28)
@[reducible] def o45_30 : List Ins := [⟨(some 60), .bin .add (.t 28) (.k (.c (.int .i64 1))), none, true⟩,
  ⟨(some 28), .mv (.t 60), none, true⟩]
@[reducible] def v45_31 : VC := (.seq (.block 1 v45_29) (.ops o45_30))
@[reducible] def v45_32 : VC := (.seq (.cond (.t 29) .skip (.exit 0)) v45_31)
@[reducible] def v45_33 : VC := (.seq (.ops o45_13) v45_32)
-- K45_1: changed and kept: [28]
@[reducible] def K45_1 : List Nat := [4, 26, 27]
@[reducible] def v45_34 : VC := (.loop v45_33)
@[reducible] def v45_35 : VC := (.block 0 v45_34)
@[reducible] def o45_36 : List Ins := [⟨(some 61), .fa 1 (.t 4), none, true⟩,
  ⟨(some 62), .ld true 1 (.t 61), none, true⟩,
  ⟨(some 63), .bin .eql (.t 62) (.k (.c (.int .i64 0))), none, true⟩]
@[reducible] def o45_37 : List Ins := [⟨(some 64), .ld false 2 (.t 4), none, true⟩,
  ⟨none, .st 2 (.t 4) (.t 64), none, true⟩,
  ⟨(some 5), .mv (.k (.c (.int .i64 3))), none, true⟩]
@[reducible] def v45_38 : VC := (.seq (.ops o45_37) .ret)
@[reducible] def v45_39 : VC := (.cond (.t 63) v45_38 .skip)
@[reducible] def o45_40 : List Ins := [⟨(some 65), .ld false 2 (.t 4), none, true⟩,
  ⟨none, .st 2 (.t 4) (.t 65), none, true⟩,
  ⟨(some 5), .mv (.k (.c (.int .i64 0))), none, true⟩]
@[reducible] def v45_41 : VC := (.seq (.ops o45_40) .ret)
@[reducible] def v45_42 : VC := (.seq (.seq (.ops o45_36) v45_39) v45_41)
@[reducible] def v45_43 : VC := (.seq (.seq (.ops o45_12) v45_35) v45_42)
@[reducible] def v45_44 : VC := (.seq (.ops o45_11) v45_43)
@[reducible] def v45_45 : VC := (.seq (.seq (.ops o45_7) v45_10) v45_44)
@[reducible] def v45_46 : VC := (.seq (.seq (.ops o45_1) v45_6) v45_45)
def ir45 : FC := ⟨2, 66, [.cell 4 false 2, .t 5], (.seq (.ops o45_0) v45_46)⟩
theorem c45 : compM Try.prog [] 45 = some ir45 := by kernel_rfl


/-- The error of a royal that is asked for something. -/
def weighE (r : Royal) (b : Bool) : Int := if r.ok then (if b then (if allW r = 0 then 3 else 0) else 1) else 100
def weighW (r : Royal) (b : Bool) : List Int := if r.ok && b then wts r else []
def weighA (r : Royal) (b : Bool) : Int := if r.ok && b then allW r else 0

set_option maxHeartbeats 8000000 in
theorem weigh45 (r : Royal) (b : Bool) : FSpec Try.prog 45 [r.av, .c (.bool b)] (.tup [.agg [.c (ints (weighW r b)), iv (weighA r b)], iv (weighE r b)]) := by
  refine FSpec_of c45 (Nat.le_refl _) (by decide) fun C hP hN hC hL => ?_
  obtain ⟨h1, h2, h3⟩ := Royal.lens hL
  have hmax : maxLen = 9223372036854775807 := rfl
  simp only [ir45, Royal.av]
  (repeat ((first | refine WV_seq_ ?_ | refine WV_block ?_ | refine WV_ops ?_ | refine WV_skip ?_ | refine WV_exit ?_); (try simp only [go_sem, init_env', Nat.reduceEqDiff, Nat.reduceAdd, Nat.reduceMul, reduceIte, Nat.reduceLeDiff, Nat.reduceLT, Nat.reduceBEq, reduceCtorEq, hP, ]); (repeat (refine And.intro (by first | omega | (intros; simp_all; done) | (intros; simp_all; omega)) ?_))))
  (refine AS_pure (check30 r) rfl rfl rfl rfl rfl ?_; simp only [go_sem, init_env', Nat.reduceEqDiff, Nat.reduceAdd, Nat.reduceMul, reduceIte, Nat.reduceLeDiff, Nat.reduceLT, Nat.reduceBEq, reduceCtorEq, hP, Royal.av]; (repeat (refine And.intro (by first | omega | (intros; simp_all; done) | (intros; simp_all; omega)) ?_)); (repeat ((first | refine WV_seq_ ?_ | refine WV_block ?_ | refine WV_ops ?_ | refine WV_skip ?_ | refine WV_exit ?_); (try simp only [go_sem, init_env', Nat.reduceEqDiff, Nat.reduceAdd, Nat.reduceMul, reduceIte, Nat.reduceLeDiff, Nat.reduceLT, Nat.reduceBEq, reduceCtorEq, hP, Royal.av]); (repeat (refine And.intro (by first | omega | (intros; simp_all; done) | (intros; simp_all; omega)) ?_)))))
  cases hok : r.ok
  · (refine WV_cond rfl (fun h => ?_) (fun h => ?_))
    · (repeat ((first | refine WV_seq_ ?_ | refine WV_block ?_ | refine WV_ops ?_ | refine WV_skip ?_ | refine WV_exit ?_); (try simp only [go_sem, init_env', Nat.reduceEqDiff, Nat.reduceAdd, Nat.reduceMul, reduceIte, Nat.reduceLeDiff, Nat.reduceLT, Nat.reduceBEq, reduceCtorEq, hP, ]); (repeat (refine And.intro (by first | omega | (intros; simp_all; done) | (intros; simp_all; omega)) ?_))))
      (refine WV_ret ?_; simp only [thenQ, inQ, RetQ, RetOk, resAll, resA]; simp only [go_sem, init_env', Nat.reduceEqDiff, Nat.reduceAdd, Nat.reduceMul, reduceIte, Nat.reduceLeDiff, Nat.reduceLT, Nat.reduceBEq, reduceCtorEq, tupA, AV.port, AV.portL, exists_eq_left', ])
      rw [show weighW r b = [] from by simp [weighW, hok], show weighA r b = 0 from by simp [weighA, hok], show weighE r b = 100 from by simp [weighE, hok]]
      exact AVle.tup (AVles.cons (AVle.agg (AVles.cons (AVle.nil 1) (AVles.refl _))) (AVles.refl _))
    · simp at h
  · have hr := Royal.ok_spec hok
    (refine WV_cond rfl (fun h => ?_) (fun h => ?_))
    · simp at h
    · (repeat ((first | refine WV_seq_ ?_ | refine WV_block ?_ | refine WV_ops ?_ | refine WV_skip ?_ | refine WV_exit ?_); (try simp only [go_sem, init_env', Nat.reduceEqDiff, Nat.reduceAdd, Nat.reduceMul, reduceIte, Nat.reduceLeDiff, Nat.reduceLT, Nat.reduceBEq, reduceCtorEq, hP, ]); (repeat (refine And.intro (by first | omega | (intros; simp_all; done) | (intros; simp_all; omega)) ?_))))
      cases b
      · (refine WV_cond rfl (fun h => ?_) (fun h => ?_))
        · (repeat ((first | refine WV_seq_ ?_ | refine WV_block ?_ | refine WV_ops ?_ | refine WV_skip ?_ | refine WV_exit ?_); (try simp only [go_sem, init_env', Nat.reduceEqDiff, Nat.reduceAdd, Nat.reduceMul, reduceIte, Nat.reduceLeDiff, Nat.reduceLT, Nat.reduceBEq, reduceCtorEq, hP, ]); (repeat (refine And.intro (by first | omega | (intros; simp_all; done) | (intros; simp_all; omega)) ?_))))
          (refine WV_ret ?_; simp only [thenQ, inQ, RetQ, RetOk, resAll, resA]; simp only [go_sem, init_env', Nat.reduceEqDiff, Nat.reduceAdd, Nat.reduceMul, reduceIte, Nat.reduceLeDiff, Nat.reduceLT, Nat.reduceBEq, reduceCtorEq, tupA, AV.port, AV.portL, exists_eq_left', ])
          rw [show weighW r false = [] from by simp [weighW], show weighA r false = 0 from by simp [weighA], show weighE r false = 1 from by simp [weighE, hok]]
          exact AVle.tup (AVles.cons (AVle.agg (AVles.cons (AVle.nil 1) (AVles.refl _))) (AVles.refl _))
        · simp at h
      · (refine WV_cond rfl (fun h => ?_) (fun h => ?_))
        · simp at h
        · have hn6 := hr.n6
          have hn : r.owed.length = r.n := rfl
          (repeat ((first | refine WV_seq_ ?_ | refine WV_block ?_ | refine WV_ops ?_ | refine WV_skip ?_ | refine WV_exit ?_); (try simp only [go_sem, init_env', Nat.reduceEqDiff, Nat.reduceAdd, Nat.reduceMul, reduceIte, Nat.reduceLeDiff, Nat.reduceLT, Nat.reduceBEq, reduceCtorEq, hP, ints, List.length_map, hn, Int.toNat_natCast, cellsI_zero]); (repeat (refine And.intro (by first | omega | (intros; simp_all; done) | (intros; simp_all; omega)) ?_))))
          generalize hS : r.sides = S at *
          refine WV_loopK K45_1 [23, 4, 8, 10] (fun k : Nat => k ≤ S.length) (fun k => S.length - k) (fun k => [(28, iv k)])
            (fun k => [(23, .box (cellsI ((S.take k).foldl addS (zeros r.n)))), (4, .box [.vw 1 23 0 r.n r.n, iv ((S.take k).map fun s => 100 * s.plays).sum])]) 0 (Nat.zero_le _) ?_ ?_
          · (refine Sub_of (by simp only [go_sem, init_env', Nat.reduceEqDiff, Nat.reduceAdd, Nat.reduceMul, reduceIte, Nat.reduceLeDiff, Nat.reduceLT, Nat.reduceBEq, reduceCtorEq]; ((repeat' (first | exact EnvLe_e0 _ _ | refine EnvLe_upd ?_ ?_)) <;> ((try simp only [upd_app, e0_app, o0_app, Nat.reduceEqDiff, reduceIte]); first | exact AWk.refl _ _ | exact AWk.int (by omega) | exact AWk.int (by rw [w64 (by omega) (by omega)]; omega) | exact AWk.grow rfl | exact AWk.nil _ | exact AWk.of (by simp [zeros])))) (by simp only [go_sem, init_env', Nat.reduceEqDiff, Nat.reduceAdd, Nat.reduceMul, reduceIte, Nat.reduceLeDiff, Nat.reduceLT, Nat.reduceBEq, reduceCtorEq]; ((repeat' (first | exact ObjLe_o0 _ | exact ObjLe.rfl' _ | refine ObjLe_same ?_ | refine ObjLe_upd ?_ ?_ | refine ObjLe_new rfl ?_)) <;> rfl)))
          · intro k hk
            have hbl := wts_bl hr k (by rw [hS]; exact hk)
            have hal := allT hr k (by rw [hS]; exact hk)
            have hs6 := hr.s6
            rw [hS] at hbl hal hs6
            generalize hL : (S.take k).foldl addS (zeros r.n) = L at *
            generalize hA : ((S.take k).map fun s => 100 * s.plays).sum = A at *
            simp only [go_sem, init_env', Nat.reduceEqDiff, Nat.reduceAdd, Nat.reduceMul, reduceIte, Nat.reduceLeDiff, Nat.reduceLT, Nat.reduceBEq, reduceCtorEq]
            (repeat ((first | refine WV_seq_ ?_ | refine WV_block ?_ | refine WV_ops ?_ | refine WV_skip ?_ | refine WV_exit ?_); (try simp only [go_sem, init_env', Nat.reduceEqDiff, Nat.reduceAdd, Nat.reduceMul, reduceIte, Nat.reduceLeDiff, Nat.reduceLT, Nat.reduceBEq, reduceCtorEq, hP, sidesC, List.length_map]); (repeat (refine And.intro (by first | omega | (intros; simp_all; done) | (intros; simp_all; omega)) ?_))))
            (refine WV_cond rfl (fun h => ?_) (fun h => ?_))
            · have h : k < S.length := by simpa using h
              have hkS : k < S.length := h
              have hm : S[k] ∈ r.sides := by rw [hS]; exact List.getElem_mem h
              have hpl := hr.plays _ hm
              have hp6 := hr.p6 _ hm
              have w1 := w64 (n := 100 * S[k].plays) (by omega) (by omega)
              have w2 := w64 (n := A + 100 * S[k].plays) (by omega) (by omega)
              (repeat ((first | refine WV_seq_ ?_ | refine WV_block ?_ | refine WV_ops ?_ | refine WV_skip ?_ | refine WV_exit ?_); (try simp only [go_sem, init_env', Nat.reduceEqDiff, Nat.reduceAdd, Nat.reduceMul, reduceIte, Nat.reduceLeDiff, Nat.reduceLT, Nat.reduceBEq, reduceCtorEq, hP, sidesC, Int.toNat_natCast, map_getD h, List.length_map, Int.ofNat_lt, h, Int.natCast_nonneg, Side.cds, w1, w2, partsC]); (repeat (refine And.intro (by first | omega | (intros; simp_all; done) | (intros; simp_all; omega)) ?_))))
              generalize hPs : S[k].parts = Ps at *
              generalize hPl : S[k].plays = Pl at *
              refine WV_loopK K45_2 [23, 10, 4, 8] (fun j : Nat => j ≤ Ps.length) (fun j => Ps.length - j) (fun j => [(42, iv j)]) (fun j => [(8, .box [iv Pl, .c (.sl 2 (Ps.map Part.cds))]), (4, .box [.vw 1 23 0 r.n r.n, iv (A + 100 * Pl)]), (23, .box (cellsI ((Ps.take j).foldl (addP Pl) L)))]) 0 (Nat.zero_le _) ?_ ?_
              · (refine Sub_of (by simp only [go_sem, init_env', Nat.reduceEqDiff, Nat.reduceAdd, Nat.reduceMul, reduceIte, Nat.reduceLeDiff, Nat.reduceLT, Nat.reduceBEq, reduceCtorEq]; ((repeat' (first | exact EnvLe_e0 _ _ | refine EnvLe_upd ?_ ?_)) <;> ((try simp only [upd_app, e0_app, o0_app, Nat.reduceEqDiff, reduceIte]); first | exact AWk.refl _ _ | exact AWk.int (by omega) | exact AWk.int (by rw [w64 (by omega) (by omega)]; omega) | exact AWk.grow rfl | exact AWk.nil _ | exact AWk.of (by simp)))) (by simp only [go_sem, init_env', Nat.reduceEqDiff, Nat.reduceAdd, Nat.reduceMul, reduceIte, Nat.reduceLeDiff, Nat.reduceLT, Nat.reduceBEq, reduceCtorEq]; ((repeat' (first | exact ObjLe_o0 _ | exact ObjLe.rfl' _ | refine ObjLe_same ?_ | refine ObjLe_upd ?_ ?_ | refine ObjLe_new rfl ?_)) <;> rfl)))
              · intro j hj
                have hbj := BL.parts hpl (Ps.take j) _ _ hbl (by omega) (fun p hp => by
                  have := hr.part _ hm p (by rw [hPs]; exact List.mem_of_mem_take hp)
                  exact this.2.2)
                generalize hM : (Ps.take j).foldl (addP Pl) L = M at *
                have hlen := hbj.len
                simp only [go_sem, init_env', Nat.reduceEqDiff, Nat.reduceAdd, Nat.reduceMul, reduceIte, Nat.reduceLeDiff, Nat.reduceLT, Nat.reduceBEq, reduceCtorEq]
                (repeat ((first | refine WV_seq_ ?_ | refine WV_block ?_ | refine WV_ops ?_ | refine WV_skip ?_ | refine WV_exit ?_); (try simp only [go_sem, init_env', Nat.reduceEqDiff, Nat.reduceAdd, Nat.reduceMul, reduceIte, Nat.reduceLeDiff, Nat.reduceLT, Nat.reduceBEq, reduceCtorEq, hP, ]); (repeat (refine And.intro (by first | omega | (intros; simp_all; done) | (intros; simp_all; omega)) ?_))))
                (refine WV_cond rfl (fun h => ?_) (fun h => ?_))
                · have h' : j < Ps.length := by simpa using h
                  have hpt := hr.part _ hm Ps[j] (by rw [hPs]; exact List.getElem_mem h')
                  have hw : Ps[j].who.toNat < M.length := by omega
                  have hwn : Ps[j].who < (r.n : Int) := hpt.2.1
                  have hw0 : 0 ≤ Ps[j].who := hpt.1
                  have hgt := hbj.get (by omega) Ps[j].who.toNat
                  have hmu := mul_small hpl (⟨by omega, hpt.2.2.2⟩ : 0 ≤ Ps[j].pc ∧ Ps[j].pc ≤ 100)
                  have htl : ((Ps.take j).length : Int) ≤ 6 := by rw [List.length_take]; omega
                  have w3 := w64 (n := Pl * Ps[j].pc) (by omega) (by omega)
                  have w4 := w64 (n := M.getD Ps[j].who.toNat 0 + Pl * Ps[j].pc) (by omega) (by omega)
                  have w5 := w64 (n := (j : Int) + 1) (by omega) (by omega)
                  (repeat ((first | refine WV_seq_ ?_ | refine WV_block ?_ | refine WV_ops ?_ | refine WV_skip ?_ | refine WV_exit ?_); (try simp only [go_sem, init_env', Nat.reduceEqDiff, Nat.reduceAdd, Nat.reduceMul, reduceIte, Nat.reduceLeDiff, Nat.reduceLT, Nat.reduceBEq, reduceCtorEq, hP, map_getD h', Part.cds, cellsI_get hw, cellsI_set, w3, w4, w5]); (repeat (refine And.intro (by first | omega | (intros; simp_all; done) | (intros; simp_all; omega)) ?_))))
                  refine ⟨j + 1, by omega, by omega, ?_⟩
                  rw [List.take_succ_eq_append_getElem h', List.foldl_append, hM]
                  simp only [List.foldl_cons, List.foldl_nil, addP]
                  (refine Sub_of (by simp only [go_sem, init_env', Nat.reduceEqDiff, Nat.reduceAdd, Nat.reduceMul, reduceIte, Nat.reduceLeDiff, Nat.reduceLT, Nat.reduceBEq, reduceCtorEq]; ((repeat' (first | exact EnvLe_e0 _ _ | refine EnvLe_upd ?_ ?_)) <;> ((try simp only [upd_app, e0_app, o0_app, Nat.reduceEqDiff, reduceIte]); first | exact AWk.refl _ _ | exact AWk.int (by omega) | exact AWk.int (by rw [w64 (by omega) (by omega)]; omega) | exact AWk.grow rfl | exact AWk.nil _ | exact AWk.of (by simp)))) (by simp only [go_sem, init_env', Nat.reduceEqDiff, Nat.reduceAdd, Nat.reduceMul, reduceIte, Nat.reduceLeDiff, Nat.reduceLT, Nat.reduceBEq, reduceCtorEq]; ((repeat' (first | exact ObjLe_o0 _ | exact ObjLe.rfl' _ | refine ObjLe_same ?_ | refine ObjLe_upd ?_ ?_ | refine ObjLe_new rfl ?_)) <;> rfl)))
                · have h' : j = Ps.length := by simp at h; omega
                  subst h'
                  rw [List.take_length] at hM
                  have w5 := w64 (n := (k : Int) + 1) (by omega) (by omega)
                  (repeat ((first | refine WV_seq_ ?_ | refine WV_block ?_ | refine WV_ops ?_ | refine WV_skip ?_ | refine WV_exit ?_); (try simp only [go_sem, init_env', Nat.reduceEqDiff, Nat.reduceAdd, Nat.reduceMul, reduceIte, Nat.reduceLeDiff, Nat.reduceLT, Nat.reduceBEq, reduceCtorEq, hP, w5]); (repeat (refine And.intro (by first | omega | (intros; simp_all; done) | (intros; simp_all; omega)) ?_))))
                  refine ⟨k + 1, by omega, by omega, ?_⟩
                  rw [List.take_succ_eq_append_getElem hkS, List.foldl_append, List.map_append, List.sum_append, hL, hA]
                  simp only [List.foldl_cons, List.foldl_nil, addS, hPs, hPl, hM, List.map_cons, List.map_nil, List.sum_cons, List.sum_nil, Int.add_zero]
                  (refine Sub_of (by simp only [go_sem, init_env', Nat.reduceEqDiff, Nat.reduceAdd, Nat.reduceMul, reduceIte, Nat.reduceLeDiff, Nat.reduceLT, Nat.reduceBEq, reduceCtorEq]; ((repeat' (first | exact EnvLe_e0 _ _ | refine EnvLe_upd ?_ ?_)) <;> ((try simp only [upd_app, e0_app, o0_app, Nat.reduceEqDiff, reduceIte]); first | exact AWk.refl _ _ | exact AWk.int (by omega) | exact AWk.int (by rw [w64 (by omega) (by omega)]; omega) | exact AWk.grow rfl | exact AWk.nil _ | exact AWk.of (by simp)))) (by simp only [go_sem, init_env', Nat.reduceEqDiff, Nat.reduceAdd, Nat.reduceMul, reduceIte, Nat.reduceLeDiff, Nat.reduceLT, Nat.reduceBEq, reduceCtorEq]; ((repeat' (first | exact ObjLe_o0 _ | exact ObjLe.rfl' _ | refine ObjLe_same ?_ | refine ObjLe_upd ?_ ?_ | refine ObjLe_new rfl ?_)) <;> rfl)))
            · have h : k = S.length := by simp at h; omega
              subst h
              rw [List.take_length] at hL hA
              have eL : wts r = L := by rw [← hL, ← hS]; rfl
              have eA : allW r = A := by rw [← hA, ← hS]; rfl
              have hlen := hbl.len
              have hgr := grp_ints L
              rw [hlen, Nat.mul_one] at hgr
              have hfl : (r.n ≤ L.length) = True := by rw [hlen]; simp
              (repeat ((first | refine WV_seq_ ?_ | refine WV_block ?_ | refine WV_ops ?_ | refine WV_skip ?_ | refine WV_exit ?_); (try simp only [go_sem, init_env', Nat.reduceEqDiff, Nat.reduceAdd, Nat.reduceMul, reduceIte, Nat.reduceLeDiff, Nat.reduceLT, Nat.reduceBEq, reduceCtorEq, hP, ]); (repeat (refine And.intro (by first | omega | (intros; simp_all; done) | (intros; simp_all; omega)) ?_))))
              refine WV_freeze 23 (ds := L.map fun n => CD.int .i64 n) rfl (toCD_cellsI _ _) ?_
              simp only [go_sem, init_env', Nat.reduceEqDiff, Nat.reduceAdd, Nat.reduceMul, reduceIte, Nat.reduceLeDiff, Nat.reduceLT, Nat.reduceBEq, reduceCtorEq, hfl, hgr]
              have e1 : weighW r true = L := by simp [weighW, hok, eL]
              have e2 : weighA r true = A := by simp [weighA, hok, eA]
              have e3 : weighE r true = if A = 0 then 3 else 0 := by simp [weighE, hok, eA]
              rw [e1, e2, e3]
              by_cases h0 : A = 0
              · rw [if_pos h0]
                (refine WV_cond rfl (fun h => ?_) (fun h => ?_))
                · (repeat ((first | refine WV_seq_ ?_ | refine WV_block ?_ | refine WV_ops ?_ | refine WV_skip ?_ | refine WV_exit ?_); (try simp only [go_sem, init_env', Nat.reduceEqDiff, Nat.reduceAdd, Nat.reduceMul, reduceIte, Nat.reduceLeDiff, Nat.reduceLT, Nat.reduceBEq, reduceCtorEq, hP, ]); (repeat (refine And.intro (by first | omega | (intros; simp_all; done) | (intros; simp_all; omega)) ?_))))
                  (refine WV_ret ?_; simp only [thenQ, inQ, RetQ, RetOk, resAll, resA]; simp only [go_sem, init_env', Nat.reduceEqDiff, Nat.reduceAdd, Nat.reduceMul, reduceIte, Nat.reduceLeDiff, Nat.reduceLT, Nat.reduceBEq, reduceCtorEq, tupA, AV.port, AV.portL, exists_eq_left', ]; (first | exact AVle.of rfl | refine AVle.of ?_ | skip))
                · simp [h0] at h
              · rw [if_neg h0]
                (refine WV_cond rfl (fun h => ?_) (fun h => ?_))
                · simp [h0] at h
                · (repeat ((first | refine WV_seq_ ?_ | refine WV_block ?_ | refine WV_ops ?_ | refine WV_skip ?_ | refine WV_exit ?_); (try simp only [go_sem, init_env', Nat.reduceEqDiff, Nat.reduceAdd, Nat.reduceMul, reduceIte, Nat.reduceLeDiff, Nat.reduceLT, Nat.reduceBEq, reduceCtorEq, hP, ]); (repeat (refine And.intro (by first | omega | (intros; simp_all; done) | (intros; simp_all; omega)) ?_))))
                  (refine WV_ret ?_; simp only [thenQ, inQ, RetQ, RetOk, resAll, resA]; simp only [go_sem, init_env', Nat.reduceEqDiff, Nat.reduceAdd, Nat.reduceMul, reduceIte, Nat.reduceLeDiff, Nat.reduceLT, Nat.reduceBEq, reduceCtorEq, tupA, AV.port, AV.portL, exists_eq_left', ]; (first | exact AVle.of rfl | refine AVle.of ?_ | skip))
end Go.Proofs.Ytnmchaemhjnkgaa

namespace Go.Proofs.Ytnmchaemhjnkgaa
open Go Go.V

/-! ### Shares: plain -/
def fillT {α : Type} (l : List α) (z : α) (k : Nat) : List α := l.take k ++ List.replicate (l.length - k) z
theorem fillT_len {α : Type} (l : List α) (z : α) {k : Nat} (h : k ≤ l.length) : (fillT l z k).length = l.length := by simp [fillT]; omega
theorem fillT_set {α : Type} (l : List α) (z : α) {k : Nat} (h : k < l.length) : (fillT l z k).set k l[k] = fillT l z (k + 1) := by
  unfold fillT
  rw [List.set_append_right _ _ (by simp; omega), List.length_take, Nat.min_eq_left (by omega), Nat.sub_self, List.take_succ_eq_append_getElem h, show l.length - k = (l.length - (k + 1)) + 1 from by omega, List.replicate_succ, List.set_cons_zero]
  rw [show l.length - (k + 1) = l.length - k - 1 from by omega, List.append_assoc]
  rfl
theorem fillT_get {l : List Int} {k : Nat} (h : k < l.length) : (fillT l 0 (k + 1)).getD k 0 = l[k] := by
  unfold fillT
  rw [List.getD_eq_getElem?_getD, List.getElem?_append_left (by simp; omega), List.getElem?_take, if_pos (by omega), List.getElem?_eq_getElem h]
  rfl
theorem fillT_all {α : Type} (l : List α) (z : α) : fillT l z l.length = l := by simp [fillT]
theorem fillT_none {α : Type} (l : List α) (z : α) : fillT l z 0 = List.replicate l.length z := by simp [fillT]

def floors (pool all : Int) (w : List Int) : List Int := w.map fun x => pool * x / all
def leftT (pool all : Int) (w : List Int) (k : Nat) : Int := pool - ((floors pool all w).take k).sum
def leftOf (pool all : Int) (w : List Int) : Int := pool - (floors pool all w).sum
/-- The shares of a pool: rounded down, and one cent more for those with the greatest rests. -/
def sharesL (pool all : Int) (w : List Int) : List Int :=
  (List.range w.length).map fun k => pool * w.getD k 0 / all + if (rank (restOf pool all w) w.length k : Int) < leftOf pool all w then 1 else 0
theorem sharesL_len (pool all : Int) (w : List Int) : (sharesL pool all w).length = w.length := by simp [sharesL]
theorem sum_parts (pool all : Int) : ∀ w : List Int, pool * w.sum = all * (floors pool all w).sum + (w.map fun x => pool * x % all).sum
  | [] => by simp [floors]
  | x :: w => by
    have ih := sum_parts pool all w
    have := Int.mul_ediv_add_emod (pool * x) all
    simp only [floors, List.map_cons, List.sum_cons, Int.mul_add] at ih ⊢
    omega
theorem sum_bd {all : Int} (ha : 0 < all) (f : Int → Int) : ∀ w : List Int, 0 ≤ (w.map fun x => f x % all).sum ∧ (w ≠ [] → (w.map fun x => f x % all).sum < all * w.length)
  | [] => by simp
  | x :: w => by
    have ih := sum_bd ha f w
    have h1 := Int.emod_nonneg (f x) (Int.ne_of_gt ha)
    have h2 := Int.emod_lt_of_pos (f x) ha
    simp only [List.map_cons, List.sum_cons, List.length_cons]
    refine ⟨by omega, fun _ => ?_⟩
    have e : all * ((w.length + 1 : Nat) : Int) = all * w.length + all := by rw [show ((w.length + 1 : Nat) : Int) = (w.length : Int) + 1 from by omega, Int.mul_add, Int.mul_one]
    rw [e]
    by_cases hw : w = []
    · subst hw; simp; omega
    · have := ih.2 hw; omega
theorem left_bd {pool all : Int} {w : List Int} (ha : 0 < all) (hs : w.sum = all) : 0 ≤ leftOf pool all w ∧ leftOf pool all w < w.length := by
  have h1 := sum_parts pool all w
  have h2 := sum_bd ha (fun x => pool * x) w
  rw [hs] at h1
  have hne : w ≠ [] := by rintro rfl; simp at hs; omega
  have h3 := h2.2 hne
  have e : all * leftOf pool all w = (w.map fun x => pool * x % all).sum := by
    unfold leftOf
    rw [Int.mul_sub, Int.mul_comm all pool]
    omega
  refine ⟨?_, ?_⟩
  · refine Classical.byContradiction fun hn => ?_
    have := Int.mul_neg_of_pos_of_neg ha (show leftOf pool all w < 0 by omega)
    omega
  · refine Classical.byContradiction fun hn => ?_
    have := Int.mul_le_mul_of_nonneg_left (show (w.length : Int) ≤ leftOf pool all w by omega) (Int.le_of_lt ha)
    omega
/-- Some of them have got one more. -/
def incd (fl : List Int) (l : List Nat) : List Int := (List.range fl.length).map fun i => fl.getD i 0 + if i ∈ l then 1 else 0
theorem incd_len (fl : List Int) (l : List Nat) : (incd fl l).length = fl.length := by simp [incd]
theorem incd_get {fl : List Int} {l : List Nat} {i : Nat} (h : i < fl.length) : (incd fl l).getD i 0 = fl.getD i 0 + if i ∈ l then 1 else 0 := by
  simp [incd, List.getD_eq_getElem?_getD, h]
theorem incd_nil (fl : List Int) : incd fl [] = fl := by
  apply List.ext_getElem
  · simp [incd]
  · intro i h1 h2; simp [incd, h2]
theorem incd_set {fl : List Int} {l : List Nat} {i : Nat} (h : i < fl.length) (hn : i ∉ l) : (incd fl l).set i ((incd fl l).getD i 0 + 1) = incd fl (l ++ [i]) := by
  rw [incd_get h, if_neg hn]
  apply List.ext_getElem
  · simp [incd]
  · intro k h1 h2
    have hk : k < fl.length := by simpa [incd] using h2
    rw [List.getElem_set]
    simp only [incd, List.getElem_map, List.getElem_range, List.mem_append, List.mem_singleton]
    by_cases e : i = k
    · subst e; simp
    · have e' : ¬ k = i := fun h => e h.symm
      simp [e, e']
theorem shares_incd {pool all : Int} {w : List Int} {l : List Nat} {L : Nat} (hl : Ordered (restOf pool all w) w.length l) (hL : leftOf pool all w = (L : Int)) : incd (floors pool all w) (l.take L) = sharesL pool all w := by
  unfold incd sharesL
  rw [show (floors pool all w).length = w.length from by simp [floors]]
  refine List.map_congr_left fun k hk => ?_
  have hk' : k < w.length := List.mem_range.1 hk
  have e1 : (floors pool all w).getD k 0 = pool * w.getD k 0 / all := by simp [floors, hk']
  rw [e1, hL]
  congr 1
  have := hl.take L k hk'
  by_cases h : k ∈ l.take L
  · rw [if_pos h, if_pos (by have := this.1 h; omega)]
  · rw [if_neg h, if_neg (fun h2 => h (this.2 (by omega)))]

theorem floors_sum {pool all : Int} {w : List Int} (ha : 0 < all) (hp : 0 ≤ pool) (hw : ∀ x ∈ w, 0 ≤ x) (hs : w.sum = all) : ∀ k, 0 ≤ ((floors pool all w).take k).sum ∧ ((floors pool all w).take k).sum ≤ pool := by
  have h0 : ∀ x ∈ floors pool all w, 0 ≤ x := by
    intro x hx
    obtain ⟨y, hy, rfl⟩ := List.mem_map.1 hx
    exact Int.ediv_nonneg (Int.mul_nonneg hp (hw y hy)) (Int.le_of_lt ha)
  have hsum : ∀ l : List Int, (∀ x ∈ l, 0 ≤ x) → 0 ≤ l.sum := by
    intro l
    induction l with
    | nil => intro _; simp
    | cons a l ih => intro h; simp only [List.sum_cons]; have := h a (by simp); have := ih fun x hx => h x (by simp [hx]); omega
  intro k
  have h1 := hsum ((floors pool all w).take k) fun x hx => h0 x (List.mem_of_mem_take hx)
  have h2 := hsum ((floors pool all w).drop k) fun x hx => h0 x (List.mem_of_mem_drop hx)
  have h3 : ((floors pool all w).take k).sum + ((floors pool all w).drop k).sum = (floors pool all w).sum := by rw [← List.sum_append, List.take_append_drop]
  have h4 := (left_bd (pool := pool) ha hs).1
  unfold leftOf at h4
  omega

@[reducible] def o46_0 : List Ins := [⟨(some 2), .box 2 (.t 0), none, true⟩,
  ⟨(some 3), .box 1 (.t 1), none, true⟩,
  ⟨(some 4), .mv (.k (.c (.raw (.slice none 0 0)))), none, true⟩]
@[reducible] def t46_1 : OT := (.cons ⟨(some 12), .fa 0 (.t 2), none, false⟩
  (.cons ⟨(some 13), .ld true 1 (.t 12), none, false⟩
  (.cons ⟨(some 14), .len (.t 13), none, false⟩
  (.cons ⟨(some 16), .fa 0 (.t 2), none, false⟩
  (.cons ⟨(some 17), .ld true 1 (.t 16), none, false⟩
  (.cons ⟨(some 18), .len (.t 17), none, false⟩
  (.cons ⟨(some 20), .ld true 1 (.t 3), none, false⟩
  (.br [(.cons ⟨(some 15), .mks 3 1 8 [(.c (.int .i64 0))] (.t 14) (.t 14), none, false⟩
    (.cons ⟨(some 19), .mks 3 1 8 [(.c (.int .i64 0))] (.t 18) (.t 18), none, false⟩
    (.cons ⟨(some 5), .mv (.t 15), none, false⟩
    (.cons ⟨(some 6), .mv (.t 19), none, false⟩
    (.cons ⟨(some 7), .mv (.t 20), none, true⟩
    .nil))))), (.cons ⟨(some 19), .mks 3 1 8 [(.c (.int .i64 0))] (.t 18) (.t 18), none, false⟩
    (.cons ⟨(some 15), .mks 3 1 8 [(.c (.int .i64 0))] (.t 14) (.t 14), none, false⟩
    (.cons ⟨(some 5), .mv (.t 15), none, false⟩
    (.cons ⟨(some 6), .mv (.t 19), none, false⟩
    (.cons ⟨(some 7), .mv (.t 20), none, true⟩
    .nil)))))]))))))))
@[reducible] def o46_2 : List Ins := [⟨(some 21), .fa 0 (.t 2), none, true⟩,
  ⟨(some 22), .ld true 1 (.t 21), none, true⟩,
  ⟨(some 23), .len (.t 22), none, true⟩,
  ⟨(some 24), .mv (.k (.c (.int .i64 0))), none, true⟩]
@[reducible] def o46_3 : List Ins := [⟨(some 25), .bin .lss (.t 24) (.t 23), none, true⟩]
@[reducible] def o46_4 : List Ins := [⟨(some 26), .mv (.t 24), none, true⟩,
  ⟨(some 27), .ia 1 (.t 22) (.t 24), none, true⟩,
  ⟨(some 28), .ld true 1 (.t 27), none, true⟩,
  ⟨(some 8), .mv (.t 26), none, true⟩,
  ⟨(some 9), .mv (.t 28), none, true⟩]
@[reducible] def o46_5 : List Ins := [⟨(some 29), .mv (.t 5), none, true⟩,
  ⟨(some 30), .mv (.t 8), none, true⟩,
  ⟨(some 31), .mv (.t 6), none, true⟩,
  ⟨(some 32), .mv (.t 8), none, true⟩,
  ⟨(some 33), .ld true 1 (.t 3), none, true⟩,
  ⟨(some 34), .mv (.t 9), none, true⟩,
  ⟨(some 35), .bin .mul (.t 33) (.t 34), none, true⟩,
  ⟨(some 36), .fa 1 (.t 2), none, true⟩,
  ⟨(some 37), .ld true 1 (.t 36), none, true⟩,
  ⟨(some 38), .bin .quo (.t 35) (.t 37), none, true⟩,
  ⟨(some 39), .mv (.t 8), none, true⟩,
  ⟨(some 40), .ia 1 (.t 29) (.t 30), none, true⟩,
  ⟨none, .st 1 (.t 40) (.t 38), none, true⟩,
  ⟨(some 41), .ia 1 (.t 31) (.t 32), none, true⟩,
  ⟨none, .st 1 (.t 41) (.t 39), none, true⟩]
@[reducible] def o46_6 : List Ins := [⟨(some 42), .mv (.t 7), none, true⟩,
  ⟨(some 43), .mv (.t 5), none, true⟩,
  ⟨(some 44), .mv (.t 8), none, true⟩,
  ⟨(some 45), .ia 1 (.t 43) (.t 44), none, true⟩,
  ⟨(some 46), .ld true 1 (.t 45), none, true⟩,
  ⟨(some 47), .bin .sub (.t 42) (.t 46), none, true⟩,
  ⟨(some 7), .mv (.t 47), none, true⟩]
@[reducible] def v46_7 : VC := (.seq (.ops o46_5) (.ops o46_6))
@[reducible] def v46_8 : VC := (.seq (.ops o46_4) v46_7)
@[reducible] def o46_9 : List Ins := [⟨(some 48), .bin .add (.t 24) (.k (.c (.int .i64 1))), none, true⟩,
  ⟨(some 24), .mv (.t 48), none, true⟩]
@[reducible] def v46_10 : VC := (.seq (.block 1 v46_8) (.ops o46_9))
@[reducible] def v46_11 : VC := (.seq (.cond (.t 25) .skip (.exit 0)) v46_10)
@[reducible] def v46_12 : VC := (.seq (.ops o46_3) v46_11)
-- K46_1: changed and kept: [24, 7]
@[reducible] def K46_1 : List Nat := [2, 3, 5, 6, 22, 23]
@[reducible] def v46_13 : VC := (.loop v46_12)
@[reducible] def v46_14 : VC := (.block 0 v46_13)
@[reducible] def o46_15 : List Ins := [⟨(some 49), .mv (.t 6), none, true⟩,
  ⟨(some 50), .mkfn 63 [(.t 3), (.t 2)], none, true⟩,
  ⟨(some 51), .call (.k (.fn 62 [])) [(.t 49), (.t 50)], none, true⟩]
@[reducible] def o46_16 : List Ins := [⟨(some 52), .mv (.t 6), none, true⟩,
  ⟨(some 53), .mv (.t 7), none, true⟩,
  ⟨(some 54), .slc 1 (.t 52) none (some (.t 53)), none, true⟩,
  ⟨(some 55), .len (.t 54), none, true⟩,
  ⟨(some 56), .mv (.k (.c (.int .i64 0))), none, true⟩]
@[reducible] def o46_17 : List Ins := [⟨(some 57), .bin .lss (.t 56) (.t 55), none, true⟩]
@[reducible] def o46_18 : List Ins := [⟨(some 58), .ia 1 (.t 54) (.t 56), none, true⟩,
  ⟨(some 59), .ld true 1 (.t 58), none, true⟩,
  ⟨(some 11), .mv (.t 59), none, true⟩]
@[reducible] def o46_19 : List Ins := [⟨(some 60), .mv (.t 5), none, true⟩,
  ⟨(some 61), .mv (.t 11), none, true⟩,
  ⟨(some 62), .ia 1 (.t 60) (.t 61), none, true⟩,
  ⟨(some 63), .ld true 1 (.t 62), none, true⟩,
  ⟨(some 64), .bin .add (.t 63) (.k (.c (.int .i64 1))), none, true⟩,
  ⟨(some 65), .ia 1 (.t 60) (.t 61), none, true⟩,
  ⟨none, .st 1 (.t 65) (.t 64), none, true⟩]
@[reducible] def v46_20 : VC := (.seq (.ops o46_18) (.ops o46_19))
@[reducible] def o46_21 : List Ins := [⟨(some 66), .bin .add (.t 56) (.k (.c (.int .i64 1))), none, true⟩,
  ⟨(some 56), .mv (.t 66), none, true⟩]
@[reducible] def v46_22 : VC := (.seq (.block 3 v46_20) (.ops o46_21))
@[reducible] def v46_23 : VC := (.seq (.cond (.t 57) .skip (.exit 2)) v46_22)
@[reducible] def v46_24 : VC := (.seq (.ops o46_17) v46_23)
-- K46_2: changed and kept: [56]
@[reducible] def K46_2 : List Nat := [5, 54, 55]
@[reducible] def v46_25 : VC := (.loop v46_24)
@[reducible] def v46_26 : VC := (.block 2 v46_25)
@[reducible] def o46_27 : List Ins := [⟨(some 67), .mv (.t 5), none, true⟩,
  ⟨(some 4), .mv (.t 67), none, true⟩]
@[reducible] def v46_28 : VC := (.seq (.ops o46_27) .ret)
@[reducible] def v46_29 : VC := (.seq (.seq (.ops o46_16) v46_26) v46_28)
@[reducible] def v46_30 : VC := (.seq (.ops o46_15) v46_29)
@[reducible] def v46_31 : VC := (.seq (.seq (.ops o46_2) v46_14) v46_30)
@[reducible] def v46_32 : VC := (.seq (.drw t46_1) v46_31)
def ir46 : FC := ⟨2, 68, [.t 4], (.seq (.ops o46_0) v46_32)⟩
theorem c46 : compM Try.prog [] 46 = some ir46 := by kernel_rfl



theorem frz_pureN (n : Nat) (ds : List CD) : ∀ l : List Nat, AV.frzL n ds (cellsN l) = cellsN l
  | [] => rfl
  | a :: l => by
    have := frz_pureN n ds l
    simp only [cellsN] at this
    simp only [cellsN, List.map_cons, AV.frzL, AV.frz, this]
def postSh (pool all : Int) (w : List Int) (r : AV) (os : List Ob) : Prop := r = .vw 1 1000 0 w.length w.length ∧ os = [.box (cellsI (sharesL pool all w))]
set_option maxHeartbeats 8000000 in
theorem tail46 {C : Ctx} (hP : C.P = Try.prog) {pool all : Int} {w : List Int} (hp : 0 ≤ pool ∧ pool ≤ 9999) (hw : ∀ x ∈ w, 0 ≤ x ∧ x ≤ 36000000) (ha : 0 < all) (hs : w.sum = all) (h6 : w.length ≤ 6) :
    WV C v46_31 (RetQN [RV.t 4] (postSh pool all w)) ⟨upd (upd (upd (upd (upd e0 2 (.bp 2 0)) 3 (.bp 3 0)) 5 (.vw 1 15 0 w.length w.length)) 6 (.vw 1 19 0 w.length w.length)) 7 (iv pool),
      upd (upd (upd (upd o0 2 (.box [.c (ints w), iv all])) 3 (.box [iv pool])) 15 (.box (cellsI (zeros w.length)))) 19 (.box (cellsI (zeros w.length)))⟩ := by
  have hmax : maxLen = 9223372036854775807 := rfl
  have hlb := left_bd (pool := pool) ha hs
  have hfs := floors_sum ha hp.1 (fun x hx => (hw x hx).1) hs
  have hn0 : 0 < w.length := by
    cases w with
    | nil => simp at hs; omega
    | cons a l => simp
  have hfl : (floors pool all w).length = w.length := by simp [floors]
  have hz1 : zeros w.length = fillT (floors pool all w) 0 0 := by rw [fillT_none, hfl]; rfl
  have hz2 : cellsI (zeros w.length) = cellsN (fillT (List.range w.length) 0 0) := by
    rw [fillT_none, List.length_range]
    simp [zeros, cellsI, cellsN]
  (repeat ((first | refine WV_seq_ ?_ | refine WV_block ?_ | refine WV_ops ?_ | refine WV_skip ?_ | refine WV_exit ?_); (try simp only [go_sem, init_env', Nat.reduceEqDiff, Nat.reduceAdd, Nat.reduceMul, reduceIte, Nat.reduceLeDiff, Nat.reduceLT, Nat.reduceBEq, reduceCtorEq, hP, ints]); (repeat (refine And.intro (by first | omega | (intros; simp_all; done) | (intros; simp_all; omega)) ?_))))
  rw [hz2]
  have e15 : upd (upd (upd (upd o0 2 (.box [.c (ints w), iv all])) 3 (.box [iv pool])) 15 (.box (cellsN (fillT (List.range w.length) 0 0)))) 19 (.box (cellsN (fillT (List.range w.length) 0 0))) = upd (upd (upd (upd o0 2 (.box [.c (ints w), iv all])) 3 (.box [iv pool])) 15 (.box (cellsI (fillT (floors pool all w) 0 0)))) 19 (.box (cellsN (fillT (List.range w.length) 0 0))) := by
    rw [← hz2, hz1]
  simp only [ints] at e15
  rw [e15]
  refine WV_loopK K46_1 [15, 19] (fun k : Nat => k ≤ w.length) (fun k => w.length - k) (fun k => [(24, iv k), (7, iv (leftT pool all w k))])
    (fun k => [(15, .box (cellsI (fillT (floors pool all w) 0 k))), (19, .box (cellsN (fillT (List.range w.length) 0 k)))]) 0 (Nat.zero_le _) ?_ ?_
  · (refine Sub_of (by simp only [go_sem, init_env', Nat.reduceEqDiff, Nat.reduceAdd, Nat.reduceMul, reduceIte, Nat.reduceLeDiff, Nat.reduceLT, Nat.reduceBEq, reduceCtorEq]; ((repeat' (first | exact EnvLe_e0 _ _ | refine EnvLe_upd ?_ ?_)) <;> ((try simp only [upd_app, e0_app, o0_app, Nat.reduceEqDiff, reduceIte]); first | exact AWk.refl _ _ | exact AWk.int (by omega) | exact AWk.int (by rw [w64 (by omega) (by omega)]; omega) | exact AWk.grow rfl | exact AWk.nil _ | exact AWk.of (by simp [leftT])))) (by simp only [go_sem, init_env', Nat.reduceEqDiff, Nat.reduceAdd, Nat.reduceMul, reduceIte, Nat.reduceLeDiff, Nat.reduceLT, Nat.reduceBEq, reduceCtorEq]; ((repeat' (first | exact ObjLe_o0 _ | exact ObjLe.rfl' _ | refine ObjLe_same ?_ | refine ObjLe_upd ?_ ?_ | refine ObjLe_new rfl ?_)) <;> rfl)))
  · intro k hk
    simp only [go_sem, init_env', Nat.reduceEqDiff, Nat.reduceAdd, Nat.reduceMul, reduceIte, Nat.reduceLeDiff, Nat.reduceLT, Nat.reduceBEq, reduceCtorEq]
    (repeat ((first | refine WV_seq_ ?_ | refine WV_block ?_ | refine WV_ops ?_ | refine WV_skip ?_ | refine WV_exit ?_); (try simp only [go_sem, init_env', Nat.reduceEqDiff, Nat.reduceAdd, Nat.reduceMul, reduceIte, Nat.reduceLeDiff, Nat.reduceLT, Nat.reduceBEq, reduceCtorEq, hP, ]); (repeat (refine And.intro (by first | omega | (intros; simp_all; done) | (intros; simp_all; omega)) ?_))))
    (refine WV_cond rfl (fun h => ?_) (fun h => ?_))
    · have h : k < w.length := by simpa using h
      have hwk := hw _ (List.getElem_mem h)
      have hf1 := hfs k
      have hf2 := hfs (k + 1)
      have hkf : k < (floors pool all w).length := by rw [hfl]; exact h
      have hst : ((floors pool all w).take (k + 1)).sum = ((floors pool all w).take k).sum + (floors pool all w)[k] := by
        rw [List.take_succ_eq_append_getElem hkf, List.sum_append]; simp
      have efl : (floors pool all w)[k] = pool * w[k] / all := by simp [floors]
      have hm := mul_bound hp (⟨hwk.1, by omega⟩ : 0 ≤ w[k] ∧ w[k] ≤ 9999999999)
      have w1 := w64 (n := pool * w[k]) (by omega) (by omega)
      have ed : (pool * w[k]).tdiv all = pool * w[k] / all := Int.tdiv_eq_ediv_of_nonneg hm.1
      have hlt : leftT pool all w (k + 1) = leftT pool all w k - pool * w[k] / all := by unfold leftT; rw [hst, efl]; omega
      have hl2 : leftT pool all w k - pool * w[k] / all = pool - ((floors pool all w).take (k + 1)).sum := by rw [← hlt]; rfl
      have w2 := w64 (n := pool * w[k] / all) (by rw [← efl]; omega) (by rw [← efl]; omega)
      have w3 := w64 (n := leftT pool all w k - pool * w[k] / all) (by omega) (by omega)
      have w4 := w64 (n := (k : Int) + 1) (by omega) (by omega)
      have s1 : (fillT (floors pool all w) 0 k).set k (pool * w[k] / all) = fillT (floors pool all w) 0 (k + 1) := by rw [← efl]; exact fillT_set _ _ hkf
      have hkr : k < (List.range w.length).length := by simpa using h
      have s2 : (fillT (List.range w.length) 0 k).set k k = fillT (List.range w.length) 0 (k + 1) := by
        have := fillT_set (List.range w.length) 0 hkr
        rwa [List.getElem_range] at this
      have g1 : (fillT (floors pool all w) 0 (k + 1)).getD k 0 = pool * w[k] / all := by rw [← efl]; exact fillT_get hkf
      have hkl : k < (fillT (floors pool all w) 0 (k + 1)).length := by rw [fillT_len _ _ (by omega)]; exact hkf
      have ll1 := fillT_len (floors pool all w) 0 (k := k) (by omega)
      have ll2 := fillT_len (List.range w.length) 0 (k := k) (by simp; omega)
      rw [hfl] at ll1
      rw [List.length_range] at ll2
      have hb : (k < w.length) = True := by simp [h]
      have hane : (all = 0) = False := by simp; omega
      (repeat ((first | refine WV_seq_ ?_ | refine WV_block ?_ | refine WV_ops ?_ | refine WV_skip ?_ | refine WV_exit ?_); (try simp only [go_sem, init_env', Nat.reduceEqDiff, Nat.reduceAdd, Nat.reduceMul, reduceIte, Nat.reduceLeDiff, Nat.reduceLT, Nat.reduceBEq, reduceCtorEq, hP, map_getD h, cellsI_set, cellsN_set, w1, ed, w2, w3, w4, s1, s2, cellsI_get hkl, g1, ll1, ll2, hb, hane]); (repeat (refine And.intro (by first | omega | (intros; simp_all; done) | (intros; simp_all; omega)) ?_))))
      refine ⟨k + 1, by omega, by omega, ?_⟩
      rw [hlt]
      (refine Sub_of (by simp only [go_sem, init_env', Nat.reduceEqDiff, Nat.reduceAdd, Nat.reduceMul, reduceIte, Nat.reduceLeDiff, Nat.reduceLT, Nat.reduceBEq, reduceCtorEq]; ((repeat' (first | exact EnvLe_e0 _ _ | refine EnvLe_upd ?_ ?_)) <;> ((try simp only [upd_app, e0_app, o0_app, Nat.reduceEqDiff, reduceIte]); first | exact AWk.refl _ _ | exact AWk.int (by omega) | exact AWk.int (by rw [w64 (by omega) (by omega)]; omega) | exact AWk.grow rfl | exact AWk.nil _ | exact AWk.of (by simp)))) (by simp only [go_sem, init_env', Nat.reduceEqDiff, Nat.reduceAdd, Nat.reduceMul, reduceIte, Nat.reduceLeDiff, Nat.reduceLT, Nat.reduceBEq, reduceCtorEq]; ((repeat' (first | exact ObjLe_o0 _ | exact ObjLe.rfl' _ | refine ObjLe_same ?_ | refine ObjLe_upd ?_ ?_ | refine ObjLe_new rfl ?_)) <;> rfl)))
    · have h : k = w.length := by simp at h; omega
      subst h
      have ef : fillT (floors pool all w) 0 w.length = floors pool all w := by
        have := fillT_all (floors pool all w) 0
        rwa [hfl] at this
      have eo : fillT (List.range w.length) 0 w.length = List.range w.length := by
        have := fillT_all (List.range w.length) 0
        rwa [List.length_range] at this
      have el : leftT pool all w w.length = leftOf pool all w := by
        unfold leftT leftOf
        rw [← hfl, List.take_length]
      rw [ef, eo, el]
      obtain ⟨L, hL⟩ := Int.eq_ofNat_of_zero_le hlb.1
      rw [hL] at hlb ⊢
      clear e15
      (refine WV_exit ?_; simp only [go_sem, init_env', Nat.reduceEqDiff, Nat.reduceAdd, Nat.reduceMul, reduceIte, Nat.reduceLeDiff, Nat.reduceLT, Nat.reduceBEq, reduceCtorEq])
      refine WV_freeze 3 (ds := [.int .i64 pool]) rfl rfl ?_
      simp only [go_sem, init_env', Nat.reduceEqDiff, Nat.reduceAdd, Nat.reduceMul, reduceIte, Nat.reduceLeDiff, Nat.reduceLT, Nat.reduceBEq, reduceCtorEq]
      refine WV_freeze 2 (ds := [ints w, .int .i64 all]) rfl rfl ?_
      simp only [go_sem, init_env', Nat.reduceEqDiff, Nat.reduceAdd, Nat.reduceMul, reduceIte, Nat.reduceLeDiff, Nat.reduceLT, Nat.reduceBEq, reduceCtorEq, ints, frz_pureN]
      (repeat ((first | refine WV_seq_ ?_ | refine WV_block ?_ | refine WV_ops ?_ | refine WV_skip ?_ | refine WV_exit ?_); (try simp only [go_sem, init_env', Nat.reduceEqDiff, Nat.reduceAdd, Nat.reduceMul, reduceIte, Nat.reduceLeDiff, Nat.reduceLT, Nat.reduceBEq, reduceCtorEq, hP, ]); (repeat (refine And.intro (by first | omega | (intros; simp_all; done) | (intros; simp_all; omega)) ?_))))
      refine AS_lend [19] (sort62 (f := restOf pool all w) hn0 (by omega) (fun a b h1 h2 => clos63 hp (fun x hx => by have := hw x hx; omega) ha h1 h2)) rfl rfl rfl (by decide) rfl ?_ ?_
      · simp only [go_sem, init_env', Nat.reduceEqDiff, Nat.reduceAdd, Nat.reduceMul, reduceIte, Nat.reduceLeDiff, Nat.reduceLT, Nat.reduceBEq, reduceCtorEq, obsLend, Ob.lend, lendL_pure (cellsN_pure _) (cellsN_solid _)]
      · rintro r l' ⟨rfl, l, hl, rfl⟩
        have hlen := hl.len
        refine ⟨_, _, rfl, by simp only [obsBack, Ob.back, backs_pure (cellsN_pure _)]; rfl, ?_⟩
        simp only [go_sem, init_env', Nat.reduceEqDiff, Nat.reduceAdd, Nat.reduceMul, reduceIte, Nat.reduceLeDiff, Nat.reduceLT, Nat.reduceBEq, reduceCtorEq, hP, ownBack]
        have hLn : L ≤ w.length := by omega
        have hLi : (L : Int) ≤ (w.length : Int) := by omega
        have hL0 : ((L : Int) - ((0 : Nat) : Int)).toNat = L := by simp
        (repeat ((first | refine WV_seq_ ?_ | refine WV_block ?_ | refine WV_ops ?_ | refine WV_skip ?_ | refine WV_exit ?_); (try simp only [go_sem, init_env', Nat.reduceEqDiff, Nat.reduceAdd, Nat.reduceMul, reduceIte, Nat.reduceLeDiff, Nat.reduceLT, Nat.reduceBEq, reduceCtorEq, hP, hLi, hL0, Nat.sub_zero, Int.natCast_nonneg]); (repeat (refine And.intro (by first | omega | (intros; simp_all; done) | (intros; simp_all; omega)) ?_))))
        refine WV_loopK K46_2 [15, 19] (fun k : Nat => k ≤ L) (fun k => L - k) (fun k => [(56, iv k)])
          (fun k => [(15, .box (cellsI (incd (floors pool all w) (l.take k)))), (19, .box (cellsN l))]) 0 (Nat.zero_le _) ?_ ?_
        · rw [List.take_zero, incd_nil]
          (refine Sub_of (by simp only [go_sem, init_env', Nat.reduceEqDiff, Nat.reduceAdd, Nat.reduceMul, reduceIte, Nat.reduceLeDiff, Nat.reduceLT, Nat.reduceBEq, reduceCtorEq]; ((repeat' (first | exact EnvLe_e0 _ _ | refine EnvLe_upd ?_ ?_)) <;> ((try simp only [upd_app, e0_app, o0_app, Nat.reduceEqDiff, reduceIte]); first | exact AWk.refl _ _ | exact AWk.int (by omega) | exact AWk.int (by rw [w64 (by omega) (by omega)]; omega) | exact AWk.grow rfl | exact AWk.nil _ | exact AWk.of (by simp)))) (by simp only [go_sem, init_env', Nat.reduceEqDiff, Nat.reduceAdd, Nat.reduceMul, reduceIte, Nat.reduceLeDiff, Nat.reduceLT, Nat.reduceBEq, reduceCtorEq]; ((repeat' (first | exact ObjLe_o0 _ | exact ObjLe.rfl' _ | refine ObjLe_same ?_ | refine ObjLe_upd ?_ ?_ | refine ObjLe_new rfl ?_)) <;> rfl)))
        · intro k hk
          simp only [go_sem, init_env', Nat.reduceEqDiff, Nat.reduceAdd, Nat.reduceMul, reduceIte, Nat.reduceLeDiff, Nat.reduceLT, Nat.reduceBEq, reduceCtorEq]
          (repeat ((first | refine WV_seq_ ?_ | refine WV_block ?_ | refine WV_ops ?_ | refine WV_skip ?_ | refine WV_exit ?_); (try simp only [go_sem, init_env', Nat.reduceEqDiff, Nat.reduceAdd, Nat.reduceMul, reduceIte, Nat.reduceLeDiff, Nat.reduceLT, Nat.reduceBEq, reduceCtorEq, hP, ]); (repeat (refine And.intro (by first | omega | (intros; simp_all; done) | (intros; simp_all; omega)) ?_))))
          (refine WV_cond rfl (fun h => ?_) (fun h => ?_))
          · have h : k < L := by simpa using h
            have hkl : k < l.length := by omega
            have hlt := hl.lt hkl
            have gk : l[k]? = some l[k] := List.getElem?_eq_getElem hkl
            have hil : l[k] < (incd (floors pool all w) (l.take k)).length := by rw [incd_len, hfl]; exact hlt
            have hni : l[k] ∉ l.take k := by
              intro hm
              obtain ⟨t, ht, e⟩ := List.mem_take_iff_getElem.1 hm
              have := (List.getElem_inj hl.nodup).1 e
              omega
            have hgv := incd_get (fl := floors pool all w) (l := l.take k) (i := l[k]) (by rw [hfl]; exact hlt)
            rw [if_neg hni] at hgv
            have hwk := hw _ (List.getElem_mem hlt)
            have efl : (floors pool all w).getD l[k] 0 = pool * w[l[k]] / all := by simp [floors, hlt]
            have hm := mul_bound hp (⟨hwk.1, by omega⟩ : 0 ≤ w[l[k]] ∧ w[l[k]] ≤ 9999999999)
            have hd1 := Int.ediv_nonneg hm.1 (Int.le_of_lt ha)
            have hd2 := Int.ediv_le_self all hm.1
            have w1 := w64 (n := (incd (floors pool all w) (l.take k)).getD l[k] 0 + 1) (by omega) (by omega)
            have w4 := w64 (n := (k : Int) + 1) (by omega) (by omega)
            have s1 := incd_set (fl := floors pool all w) (l := l.take k) (i := l[k]) (by rw [hfl]; exact hlt) hni
            rw [← List.take_succ_eq_append_getElem hkl] at s1
            have hb1 : ((l[k] : Nat) : Int) < (w.length : Int) := by omega
            have hb2 : (k : Int) < (L : Int) := by omega
            have ll : (incd (floors pool all w) (l.take k)).length = w.length := by rw [incd_len, hfl]
            (repeat ((first | refine WV_seq_ ?_ | refine WV_block ?_ | refine WV_ops ?_ | refine WV_skip ?_ | refine WV_exit ?_); (try simp only [go_sem, init_env', Nat.reduceEqDiff, Nat.reduceAdd, Nat.reduceMul, reduceIte, Nat.reduceLeDiff, Nat.reduceLT, Nat.reduceBEq, reduceCtorEq, hP, cellsN_get gk, cellsI_get hil, cellsI_set, w1, w4, s1, hb1, hb2, hlen, ll, hlt, hkl, Int.natCast_nonneg]); (repeat (refine And.intro (by first | omega | (intros; simp_all; done) | (intros; simp_all; omega)) ?_))))
            refine ⟨k + 1, by omega, by omega, ?_⟩
            (refine Sub_of (by simp only [go_sem, init_env', Nat.reduceEqDiff, Nat.reduceAdd, Nat.reduceMul, reduceIte, Nat.reduceLeDiff, Nat.reduceLT, Nat.reduceBEq, reduceCtorEq]; ((repeat' (first | exact EnvLe_e0 _ _ | refine EnvLe_upd ?_ ?_)) <;> ((try simp only [upd_app, e0_app, o0_app, Nat.reduceEqDiff, reduceIte]); first | exact AWk.refl _ _ | exact AWk.int (by omega) | exact AWk.int (by rw [w64 (by omega) (by omega)]; omega) | exact AWk.grow rfl | exact AWk.nil _ | exact AWk.of (by simp)))) (by simp only [go_sem, init_env', Nat.reduceEqDiff, Nat.reduceAdd, Nat.reduceMul, reduceIte, Nat.reduceLeDiff, Nat.reduceLT, Nat.reduceBEq, reduceCtorEq]; ((repeat' (first | exact ObjLe_o0 _ | exact ObjLe.rfl' _ | refine ObjLe_same ?_ | refine ObjLe_upd ?_ ?_ | refine ObjLe_new rfl ?_)) <;> rfl)))
          · have h : k = L := by simp at h; omega
            subst h
            (repeat ((first | refine WV_seq_ ?_ | refine WV_block ?_ | refine WV_ops ?_ | refine WV_skip ?_ | refine WV_exit ?_); (try simp only [go_sem, init_env', Nat.reduceEqDiff, Nat.reduceAdd, Nat.reduceMul, reduceIte, Nat.reduceLeDiff, Nat.reduceLT, Nat.reduceBEq, reduceCtorEq, hP, ]); (repeat (refine And.intro (by first | omega | (intros; simp_all; done) | (intros; simp_all; omega)) ?_))))
            (refine WV_ret ?_; simp only [thenQ, inQ, RetQN, RetOkN, resAll, resA]; simp only [go_sem, init_env', Nat.reduceEqDiff, Nat.reduceAdd, Nat.reduceMul, reduceIte, Nat.reduceLeDiff, Nat.reduceLT, Nat.reduceBEq, reduceCtorEq, tupA, ])
            rw [shares_incd hl hL]
            refine ⟨[15], .vw 1 1000 0 w.length w.length, _, [.box (cellsI (sharesL pool all w))], by decide, by decide, ?_, AVle.of rfl, ?_, rfl, rfl⟩
            · simp only [go_sem, init_env', Nat.reduceEqDiff, Nat.reduceAdd, Nat.reduceMul, reduceIte, Nat.reduceLeDiff, Nat.reduceLT, Nat.reduceBEq, reduceCtorEq, AV.lend, AV.lendL]
            · simp only [go_sem, init_env', Nat.reduceEqDiff, Nat.reduceAdd, Nat.reduceMul, reduceIte, Nat.reduceLeDiff, Nat.reduceLT, Nat.reduceBEq, reduceCtorEq, obsLend, Ob.lend, lendL_pure (cellsI_pure _) (cellsI_solid _)]

set_option maxHeartbeats 8000000 in
theorem shares46N {pool all : Int} {w : List Int} (hp : 0 ≤ pool ∧ pool ≤ 9999) (hw : ∀ x ∈ w, 0 ≤ x ∧ x ≤ 36000000) (ha : 0 < all) (hs : w.sum = all) (h6 : w.length ≤ 6) :
    FSpecN Try.prog 46 [.agg [.c (ints w), iv all], iv pool] (postSh pool all w) := by
  have hmax : maxLen = 9223372036854775807 := rfl
  refine FSpecN_of c46 (Nat.le_refl _) (by decide) fun C hP hN hC hL => ?_
  have ht := tail46 hP hp hw ha hs h6
  simp only [ir46, ints]
  (repeat ((first | refine WV_seq_ ?_ | refine WV_block ?_ | refine WV_ops ?_ | refine WV_skip ?_ | refine WV_exit ?_); (try simp only [go_sem, init_env', Nat.reduceEqDiff, Nat.reduceAdd, Nat.reduceMul, reduceIte, Nat.reduceLeDiff, Nat.reduceLT, Nat.reduceBEq, reduceCtorEq, hP, ]); (repeat (refine And.intro (by first | omega | (intros; simp_all; done) | (intros; simp_all; omega)) ?_))))
  (refine WV_drw ?_; simp only [go_sem, init_env', Nat.reduceEqDiff, Nat.reduceAdd, Nat.reduceMul, reduceIte, Nat.reduceLeDiff, Nat.reduceLT, Nat.reduceBEq, reduceCtorEq, hP, ints, cellsI_zero]; (repeat' (refine And.intro ?_ ?_)))
  all_goals first
    | omega
    | exact WV_sub (Sub_of (by simp only [go_sem, init_env', Nat.reduceEqDiff, Nat.reduceAdd, Nat.reduceMul, reduceIte, Nat.reduceLeDiff, Nat.reduceLT, Nat.reduceBEq, reduceCtorEq]; ((repeat' (first | exact EnvLe_e0 _ _ | refine EnvLe_upd ?_ ?_)) <;> ((try simp only [upd_app, e0_app, o0_app, Nat.reduceEqDiff, reduceIte]); first | exact AWk.refl _ _ | exact AWk.int (by omega) | exact AWk.int (by rw [w64 (by omega) (by omega)]; omega) | exact AWk.grow rfl | exact AWk.nil _ | exact AWk.of (by simp)))) (by simp only [go_sem, init_env', Nat.reduceEqDiff, Nat.reduceAdd, Nat.reduceMul, reduceIte, Nat.reduceLeDiff, Nat.reduceLT, Nat.reduceBEq, reduceCtorEq]; ((repeat' (first | exact ObjLe_o0 _ | exact ObjLe.rfl' _ | refine ObjLe_same ?_ | refine ObjLe_upd ?_ ?_ | refine ObjLe_new rfl ?_)) <;> rfl))) ht

theorem shares46 {pool all : Int} {w : List Int} (hp : 0 ≤ pool ∧ pool ≤ 9999) (hw : ∀ x ∈ w, 0 ≤ x ∧ x ≤ 36000000) (ha : 0 < all) (hs : w.sum = all) (h6 : w.length ≤ 6) :
    FSpec Try.prog 46 [.agg [.c (ints w), iv all], iv pool] (.c (ints (sharesL pool all w))) := by
  refine (shares46N hp hw ha hs h6).spec (ds := (sharesL pool all w).map fun n => CD.int .i64 n) (x := .vw 1 1000 0 w.length w.length) ?_ ?_ rfl
  · rintro r os ⟨rfl, rfl⟩
    exact ⟨rfl, [], by simp [cellsI]⟩
  · have hg := grp_ints (sharesL pool all w)
    rw [sharesL_len, Nat.mul_one] at hg
    simp only [AV.frz, if_true, List.drop_zero, Nat.zero_add, Nat.mul_one, List.length_map, sharesL_len, Nat.le_refl, hg]
    rfl
end Go.Proofs.Ytnmchaemhjnkgaa

namespace Go.Proofs.Ytnmchaemhjnkgaa
open Go Go.V

theorem sum_set' : ∀ (l : List Int) (k : Nat) (x : Int), k < l.length → (l.set k (l.getD k 0 + x)).sum = l.sum + x
  | [], k, x, h => by simp at h
  | a :: l, 0, x, _ => by simp; omega
  | a :: l, k + 1, x, h => by
    have := sum_set' l k x (by simpa using h)
    simp only [List.set_cons_succ, List.sum_cons, List.getD_cons_succ, this]
    omega
theorem parts_sum {n : Nat} (pl : Int) : ∀ (ps : List Part) (l : List Int), l.length = n → (∀ p ∈ ps, 0 ≤ p.who ∧ p.who < (n : Int)) → (ps.foldl (addP pl) l).sum = l.sum + pl * (ps.map Part.pc).sum
  | [], l, _, _ => by simp
  | p :: ps, l, hl, h => by
    have hp := h p (by simp)
    have := parts_sum pl ps (addP pl l p) (by simp [addP, hl]) fun q hq => h q (by simp [hq])
    rw [List.foldl_cons, this]
    unfold addP
    rw [sum_set' _ _ _ (by omega), List.map_cons, List.sum_cons, Int.mul_add]
    omega
theorem addS_len (l : List Int) (s : Side) : (addS l s).length = l.length := by
  have : ∀ (ps : List Part) (l : List Int), (ps.foldl (addP s.plays) l).length = l.length := by
    intro ps
    induction ps with
    | nil => intro l; rfl
    | cons p ps ih => intro l; rw [List.foldl_cons, ih]; simp [addP]
  exact this _ _
theorem wts_sum {r : Royal} (hr : RoyalOk r) : (wts r).sum = allW r := by
  have h : ∀ (ss : List Side) (l : List Int), (∀ s ∈ ss, s ∈ r.sides) → l.length = r.n → (ss.foldl addS l).sum = l.sum + (ss.map fun s => 100 * s.plays).sum := by
    intro ss
    induction ss with
    | nil => intro l _ _; simp
    | cons s ss ih =>
      intro l hm hl
      have hs := hm s (by simp)
      rw [List.foldl_cons, ih _ (fun t ht => hm t (by simp [ht])) (by rw [addS_len]; exact hl)]
      have : (addS l s).sum = l.sum + s.plays * (s.parts.map Part.pc).sum := parts_sum (n := r.n) s.plays s.parts l hl fun p hp => ⟨(hr.part s hs p hp).1, (hr.part s hs p hp).2.1⟩
      rw [this, hr.sum s hs, List.map_cons, List.sum_cons]
      omega
  unfold wts allW
  rw [h _ _ (fun s hs => hs) (by simp [zeros])]
  have : (zeros r.n).sum = 0 := by
    unfold zeros
    induction r.n with
    | zero => rfl
    | succ n ih => rw [List.replicate_succ, List.sum_cons, ih]; rfl
  omega

/-- What is so where there is no error. -/
structure Weighed (r : Royal) : Prop where
  ok : r.ok = true
  hr : RoyalOk r
  pos : 0 < allW r
  le : allW r ≤ 5999400
  len : (wts r).length = r.n
  bd : ∀ x ∈ wts r, 0 ≤ x ∧ x ≤ 36000000
  sum : (wts r).sum = allW r
theorem weighE_zero {r : Royal} {b : Bool} (h : weighE r b = 0) : b = true ∧ Weighed r ∧ weighW r b = wts r ∧ weighA r b = allW r := by
  unfold weighE at h
  by_cases hok : r.ok = true
  · rw [if_pos hok] at h
    cases b
    · simp at h
    · have hr := Royal.ok_spec hok
      have hb := allW_bd hr
      by_cases h0 : allW r = 0
      · simp [h0] at h
      · exact ⟨rfl, ⟨hok, hr, by omega, hb.2, wts_len r, wts_bd hr, wts_sum hr⟩, by simp [weighW, hok], by simp [weighA, hok]⟩
  · rw [if_neg hok] at h; simp at h
def isW (r : Royal) (w : Int) : Bool := within w 0 ((r.n : Int) - 1)
theorem isW_spec {r : Royal} {w : Int} (h : isW r w = true) : 0 ≤ w ∧ w < (r.n : Int) := by simp [isW, within] at h; omega

def numOf (r : Royal) (who : Int) : Int := r.pool * (wts r).getD who.toNat 0
def gcdOf (r : Royal) (who : Int) : Int := (Int.gcd (numOf r who) (allW r) : Int)
def exactS (r : Royal) (who : Int) : Int × Int × Int := if weighE r (isW r who) = 0 then (numOf r who / gcdOf r who, allW r / gcdOf r who, 0) else (0, 0, weighE r (isW r who))
def sharesS (r : Royal) : List Int × Int := if weighE r true = 0 then (sharesL r.pool (allW r) (wts r), 0) else ([], weighE r true)
def setl (g : Int → Int → Int) (sh ow : List Int) : List Int := (List.range sh.length).map fun k => max 0 (g (sh.getD k 0) (ow.getD k 0))
def settledS (g : Int → Int → Int) (r : Royal) : List Int × Int := if weighE r true = 0 then (setl g (sharesL r.pool (allW r) (wts r)) r.owed, 0) else ([], weighE r true)

theorem numOf_bd {r : Royal} {who : Int} (h : Weighed r) : 0 ≤ numOf r who ∧ numOf r who ≤ 99999999999999 := by
  refine mul_bound h.hr.pool ?_
  rw [List.getD_eq_getElem?_getD]
  rcases Nat.lt_or_ge who.toNat (wts r).length with hk | hk
  · rw [List.getElem?_eq_getElem hk]
    have := h.bd _ (List.getElem_mem hk)
    simp only [Option.getD_some]; omega
  · rw [List.getElem?_eq_none hk]; simp

theorem gcd_step {a b : Int} (ha : 0 ≤ a) (hb : 0 ≤ b) : Int.gcd b (a % b) = Int.gcd a b := by
  obtain ⟨m, rfl⟩ := Int.eq_ofNat_of_zero_le ha
  obtain ⟨n, rfl⟩ := Int.eq_ofNat_of_zero_le hb
  rw [← Int.natCast_emod, Int.gcd_natCast_natCast, Int.gcd_natCast_natCast, Nat.gcd_comm n, ← Nat.gcd_rec, Nat.gcd_comm]
@[reducible] def o22_0 : List Ins := [⟨(some 2), .box 3 (.t 0), none, true⟩,
  ⟨(some 4), .mv (.k (.c (.int .i64 0))), none, true⟩,
  ⟨(some 5), .mv (.k (.c (.int .i64 0))), none, true⟩,
  ⟨(some 6), .mv (.k (.c (.int .i64 0))), none, true⟩]
@[reducible] def o22_1 : List Ins := [⟨(some 11), .ld false 3 (.t 2), none, false⟩,
  ⟨(some 12), .ld false 3 (.t 2), none, false⟩,
  ⟨(some 13), .mv (.t 1), none, false⟩,
  ⟨(some 7), .alloc [(.c (.raw (.slice none 0 0))), (.c (.int .i64 0))], none, false⟩,
  ⟨(some 14), .call (.k (.fn 48 [])) [(.t 12), (.t 13)], none, false⟩,
  ⟨(some 15), .call (.k (.fn 45 [])) [(.t 11), (.t 14)], none, false⟩,
  ⟨(some 10), .mv (.t 15), none, false⟩,
  ⟨(some 16), .ext (.t 10) 0, none, false⟩,
  ⟨(some 17), .ext (.t 10) 1, none, false⟩,
  ⟨none, .st 2 (.t 7) (.t 16), none, false⟩,
  ⟨(some 6), .mv (.t 17), none, true⟩]
@[reducible] def o22_2 : List Ins := [⟨(some 18), .mv (.t 6), none, true⟩,
  ⟨(some 19), .bin .neq (.t 18) (.k (.c (.int .i64 0))), none, true⟩]
@[reducible] def o22_3 : List Ins := [⟨(some 20), .mv (.t 6), none, true⟩,
  ⟨(some 4), .mv (.k (.c (.int .i64 0))), none, true⟩,
  ⟨(some 5), .mv (.k (.c (.int .i64 0))), none, true⟩,
  ⟨(some 6), .mv (.t 20), none, true⟩]
@[reducible] def v22_4 : VC := (.seq (.ops o22_3) .ret)
@[reducible] def v22_5 : VC := (.cond (.t 19) v22_4 .skip)
@[reducible] def o22_6 : List Ins := [⟨(some 21), .fa 0 (.t 2), none, false⟩,
  ⟨(some 22), .ld true 1 (.t 21), none, false⟩,
  ⟨(some 23), .fa 0 (.t 7), none, false⟩,
  ⟨(some 24), .ld true 1 (.t 23), none, false⟩,
  ⟨(some 25), .mv (.t 1), none, false⟩,
  ⟨(some 26), .ia 1 (.t 24) (.t 25), none, false⟩,
  ⟨(some 27), .ld true 1 (.t 26), none, false⟩,
  ⟨(some 28), .bin .mul (.t 22) (.t 27), none, false⟩,
  ⟨(some 29), .fa 1 (.t 7), none, false⟩,
  ⟨(some 30), .ld true 1 (.t 29), none, false⟩,
  ⟨(some 4), .mv (.t 28), none, false⟩,
  ⟨(some 5), .mv (.t 30), none, true⟩]
@[reducible] def o22_7 : List Ins := [⟨(some 31), .mv (.t 4), none, true⟩,
  ⟨(some 32), .mv (.t 5), none, true⟩,
  ⟨(some 8), .mv (.t 31), none, true⟩,
  ⟨(some 9), .mv (.t 32), none, true⟩]
@[reducible] def o22_8 : List Ins := [⟨(some 33), .mv (.t 9), none, true⟩,
  ⟨(some 34), .bin .neq (.t 33) (.k (.c (.int .i64 0))), none, true⟩]
@[reducible] def v22_9 : VC := (.cond (.t 34) .skip (.exit 0))
@[reducible] def o22_10 : List Ins := [⟨(some 35), .mv (.t 9), none, false⟩,
  ⟨(some 36), .mv (.t 8), none, false⟩,
  ⟨(some 37), .mv (.t 9), none, false⟩,
  ⟨(some 38), .bin .rem (.t 36) (.t 37), none, false⟩,
  ⟨(some 8), .mv (.t 35), none, false⟩,
  ⟨(some 9), .mv (.t 38), none, true⟩]
@[reducible] def v22_11 : VC := (.block 1 (.ops o22_10))
@[reducible] def v22_12 : VC := (.seq (.seq (.ops o22_8) v22_9) v22_11)
-- K22_1: changed and kept: [9, 8]
@[reducible] def K22_1 : List Nat := [4, 5]
@[reducible] def v22_13 : VC := (.loop v22_12)
@[reducible] def o22_14 : List Ins := [⟨(some 39), .mv (.t 4), none, false⟩,
  ⟨(some 40), .mv (.t 8), none, false⟩,
  ⟨(some 41), .bin .quo (.t 39) (.t 40), none, false⟩,
  ⟨(some 42), .mv (.t 5), none, false⟩,
  ⟨(some 43), .mv (.t 8), none, false⟩,
  ⟨(some 44), .bin .quo (.t 42) (.t 43), none, false⟩,
  ⟨(some 4), .mv (.t 41), none, false⟩,
  ⟨(some 5), .mv (.t 44), none, true⟩,
  ⟨(some 6), .mv (.k (.c (.int .i64 0))), none, true⟩]
@[reducible] def v22_15 : VC := (.seq (.ops o22_14) .ret)
@[reducible] def v22_16 : VC := (.seq (.block 0 v22_13) v22_15)
@[reducible] def v22_17 : VC := (.seq (.ops o22_7) v22_16)
@[reducible] def v22_18 : VC := (.seq (.ops o22_6) v22_17)
@[reducible] def v22_19 : VC := (.seq (.seq (.ops o22_2) v22_5) v22_18)
@[reducible] def v22_20 : VC := (.seq (.ops o22_1) v22_19)
def ir22 : FC := ⟨2, 45, [.t 4, .t 5, .t 6], (.seq (.ops o22_0) v22_20)⟩
@[reducible] def o15_0 : List Ins := [⟨(some 1), .box 3 (.t 0), none, true⟩,
  ⟨(some 2), .mv (.k (.c (.raw (.slice none 0 0)))), none, true⟩,
  ⟨(some 3), .mv (.k (.c (.int .i64 0))), none, true⟩]
@[reducible] def o15_1 : List Ins := [⟨(some 7), .ld false 3 (.t 1), none, true⟩,
  ⟨(some 8), .call (.k (.fn 45 [])) [(.t 7), (.k (.c (.bool true)))], none, true⟩,
  ⟨(some 6), .mv (.t 8), none, true⟩,
  ⟨(some 9), .ext (.t 6) 0, none, true⟩,
  ⟨(some 10), .ext (.t 6) 1, none, true⟩,
  ⟨(some 4), .alloc [(.c (.raw (.slice none 0 0))), (.c (.int .i64 0))], none, true⟩,
  ⟨none, .st 2 (.t 4) (.t 9), none, true⟩,
  ⟨(some 5), .mv (.t 10), none, true⟩]
@[reducible] def o15_2 : List Ins := [⟨(some 11), .mv (.t 5), none, true⟩,
  ⟨(some 12), .bin .neq (.t 11) (.k (.c (.int .i64 0))), none, true⟩]
@[reducible] def o15_3 : List Ins := [⟨(some 13), .mv (.t 5), none, true⟩,
  ⟨(some 2), .mv (.k (.c (.raw (.slice none 0 0)))), none, true⟩,
  ⟨(some 3), .mv (.t 13), none, true⟩]
@[reducible] def v15_4 : VC := (.seq (.ops o15_3) .ret)
@[reducible] def v15_5 : VC := (.cond (.t 12) v15_4 .skip)
@[reducible] def o15_6 : List Ins := [⟨(some 14), .ld false 2 (.t 4), none, true⟩,
  ⟨(some 15), .fa 0 (.t 1), none, true⟩,
  ⟨(some 16), .ld true 1 (.t 15), none, true⟩,
  ⟨(some 17), .call (.k (.fn 46 [])) [(.t 14), (.t 16)], none, true⟩,
  ⟨(some 2), .mv (.t 17), none, true⟩,
  ⟨(some 3), .mv (.k (.c (.int .i64 0))), none, true⟩]
@[reducible] def v15_7 : VC := (.seq (.ops o15_6) .ret)
@[reducible] def v15_8 : VC := (.seq (.seq (.ops o15_2) v15_5) v15_7)
@[reducible] def v15_9 : VC := (.seq (.ops o15_1) v15_8)
def ir15 : FC := ⟨1, 18, [.t 2, .t 3], (.seq (.ops o15_0) v15_9)⟩
@[reducible] def o60_0 : List Ins := [⟨(some 4), .mv (.k (.c (.int .i64 0))), none, true⟩]
@[reducible] def o60_1 : List Ins := [⟨(some 5), .mv (.t 0), none, true⟩,
  ⟨(some 6), .mv (.t 1), none, true⟩,
  ⟨(some 7), .bin .sub (.t 5) (.t 6), none, true⟩,
  ⟨(some 4), .mv (.t 7), none, true⟩]
@[reducible] def v60_2 : VC := (.seq (.ops o60_1) .ret)
def ir60 : FC := ⟨2, 8, [.t 4], (.seq (.ops o60_0) v60_2)⟩
@[reducible] def o59_0 : List Ins := [⟨(some 2), .box 3 (.t 0), none, true⟩,
  ⟨(some 4), .mv (.k (.c (.raw (.slice none 0 0)))), none, true⟩,
  ⟨(some 5), .mv (.k (.c (.int .i64 0))), none, true⟩]
@[reducible] def o59_1 : List Ins := [⟨(some 10), .ld false 3 (.t 2), none, true⟩,
  ⟨(some 11), .call (.k (.fn 15 [])) [(.t 10)], none, true⟩,
  ⟨(some 9), .mv (.t 11), none, true⟩,
  ⟨(some 12), .ext (.t 9) 0, none, true⟩,
  ⟨(some 13), .ext (.t 9) 1, none, true⟩,
  ⟨(some 6), .mv (.t 12), none, true⟩,
  ⟨(some 7), .mv (.t 13), none, true⟩]
@[reducible] def o59_2 : List Ins := [⟨(some 14), .mv (.t 6), none, true⟩,
  ⟨(some 15), .len (.t 14), none, true⟩,
  ⟨(some 16), .mv (.k (.c (.int .i64 0))), none, true⟩]
@[reducible] def o59_3 : List Ins := [⟨(some 17), .bin .lss (.t 16) (.t 15), none, true⟩]
@[reducible] def o59_4 : List Ins := [⟨(some 18), .mv (.t 16), none, true⟩,
  ⟨(some 8), .mv (.t 18), none, true⟩]
@[reducible] def o59_5 : List Ins := [⟨(some 19), .mv (.t 6), none, false⟩,
  ⟨(some 20), .mv (.t 8), none, false⟩,
  ⟨(some 21), .mv (.t 1), none, false⟩,
  ⟨(some 22), .mv (.t 6), none, false⟩,
  ⟨(some 23), .mv (.t 8), none, false⟩,
  ⟨(some 24), .ia 1 (.t 22) (.t 23), none, false⟩,
  ⟨(some 25), .ld true 1 (.t 24), none, false⟩,
  ⟨(some 26), .fa 2 (.t 2), none, false⟩,
  ⟨(some 27), .ld true 1 (.t 26), none, false⟩,
  ⟨(some 28), .mv (.t 8), none, false⟩,
  ⟨(some 29), .ia 1 (.t 27) (.t 28), none, false⟩,
  ⟨(some 30), .ld true 1 (.t 29), none, false⟩,
  ⟨(some 31), .call (.t 21) [(.t 25), (.t 30)], none, false⟩,
  ⟨(some 32), .mm true (.k (.c (.int .i64 0))) (.t 31), none, false⟩,
  ⟨(some 33), .ia 1 (.t 19) (.t 20), none, true⟩,
  ⟨none, .st 1 (.t 33) (.t 32), none, true⟩]
@[reducible] def v59_6 : VC := (.seq (.ops o59_4) (.ops o59_5))
@[reducible] def o59_7 : List Ins := [⟨(some 34), .bin .add (.t 16) (.k (.c (.int .i64 1))), none, true⟩,
  ⟨(some 16), .mv (.t 34), none, true⟩]
@[reducible] def v59_8 : VC := (.seq (.block 1 v59_6) (.ops o59_7))
@[reducible] def v59_9 : VC := (.seq (.cond (.t 17) .skip (.exit 0)) v59_8)
@[reducible] def v59_10 : VC := (.seq (.ops o59_3) v59_9)
-- K59_1: changed and kept: [16]
@[reducible] def K59_1 : List Nat := [1, 2, 6, 7, 15]
@[reducible] def v59_11 : VC := (.loop v59_10)
@[reducible] def v59_12 : VC := (.block 0 v59_11)
@[reducible] def o59_13 : List Ins := [⟨(some 35), .mv (.t 6), none, true⟩,
  ⟨(some 36), .mv (.t 7), none, true⟩,
  ⟨(some 4), .mv (.t 35), none, true⟩,
  ⟨(some 5), .mv (.t 36), none, true⟩]
@[reducible] def v59_14 : VC := (.seq (.ops o59_13) .ret)
@[reducible] def v59_15 : VC := (.seq (.seq (.ops o59_2) v59_12) v59_14)
@[reducible] def v59_16 : VC := (.seq (.ops o59_1) v59_15)
def ir59 : FC := ⟨2, 37, [.t 4, .t 5], (.seq (.ops o59_0) v59_16)⟩
theorem c22 : compM Try.prog [] 22 = some ir22 := by kernel_rfl
theorem c15 : compM Try.prog [] 15 = some ir15 := by kernel_rfl
theorem c60 : compM Try.prog [] 60 = some ir60 := by kernel_rfl
theorem c59 : compM Try.prog [] 59 = some ir59 := by kernel_rfl



set_option maxHeartbeats 4000000 in
theorem exact22 (r : Royal) (who : Int) : FSpec Try.prog 22 [r.av, iv who] (.tup [iv (exactS r who).1, iv (exactS r who).2.1, iv (exactS r who).2.2]) := by
  refine FSpec_of c22 (Nat.le_refl _) (by decide) fun C hP hN hC hL => ?_
  simp only [ir22, Royal.av]
  (repeat ((first | refine WV_seq_ ?_ | refine WV_block ?_ | refine WV_ops ?_ | refine WV_skip ?_ | refine WV_exit ?_); (try simp only [go_sem, init_env', Nat.reduceEqDiff, Nat.reduceAdd, Nat.reduceMul, reduceIte, Nat.reduceLeDiff, Nat.reduceLT, Nat.reduceBEq, reduceCtorEq, hP, ]); (repeat (refine And.intro (by first | omega | (intros; simp_all; done) | (intros; simp_all; omega)) ?_))))
  (refine ACall_of (iswho48 r who) rfl rfl rfl rfl rfl ?_; simp only [go_sem, init_env', Nat.reduceEqDiff, Nat.reduceAdd, Nat.reduceMul, reduceIte, Nat.reduceLeDiff, Nat.reduceLT, Nat.reduceBEq, reduceCtorEq, hP, Royal.av]; (repeat (refine And.intro (by first | omega | (intros; simp_all; done) | (intros; simp_all; omega)) ?_)); (repeat ((first | refine WV_seq_ ?_ | refine WV_block ?_ | refine WV_ops ?_ | refine WV_skip ?_ | refine WV_exit ?_); (try simp only [go_sem, init_env', Nat.reduceEqDiff, Nat.reduceAdd, Nat.reduceMul, reduceIte, Nat.reduceLeDiff, Nat.reduceLT, Nat.reduceBEq, reduceCtorEq, hP, Royal.av]); (repeat (refine And.intro (by first | omega | (intros; simp_all; done) | (intros; simp_all; omega)) ?_)))))
  have hw := weigh45 r (isW r who)
  unfold isW at hw
  (refine ACall_of (hw) rfl rfl rfl rfl rfl ?_; simp only [go_sem, init_env', Nat.reduceEqDiff, Nat.reduceAdd, Nat.reduceMul, reduceIte, Nat.reduceLeDiff, Nat.reduceLT, Nat.reduceBEq, reduceCtorEq, hP, Royal.av]; (repeat (refine And.intro (by first | omega | (intros; simp_all; done) | (intros; simp_all; omega)) ?_)); (repeat ((first | refine WV_seq_ ?_ | refine WV_block ?_ | refine WV_ops ?_ | refine WV_skip ?_ | refine WV_exit ?_); (try simp only [go_sem, init_env', Nat.reduceEqDiff, Nat.reduceAdd, Nat.reduceMul, reduceIte, Nat.reduceLeDiff, Nat.reduceLT, Nat.reduceBEq, reduceCtorEq, hP, Royal.av]); (repeat (refine And.intro (by first | omega | (intros; simp_all; done) | (intros; simp_all; omega)) ?_)))))
  rw [show within who 0 ((r.n : Int) - 1) = isW r who from rfl] at hw ⊢
  by_cases he : weighE r (isW r who) = 0
  · obtain ⟨hb, hW, e1, e2⟩ := weighE_zero he
    obtain ⟨h1, h2⟩ := isW_spec hb
    have hx : exactS r who = (numOf r who / gcdOf r who, allW r / gcdOf r who, 0) := by unfold exactS; rw [if_pos he]
    rw [hx, he, e1, e2]
    have hk : who.toNat < (wts r).length := by rw [hW.len]; omega
    have hk2 : who < ((wts r).length : Int) := by rw [hW.len]; exact h2
    have hn := numOf_bd (who := who) hW
    have en : r.pool * (wts r)[who.toNat] = numOf r who := by simp [numOf, hk]
    have w1 := w64 (n := numOf r who) (by omega) (by omega)
    have hle := hW.le
    have hpos := hW.pos
    (refine WV_cond rfl (fun h => ?_) (fun h => ?_))
    · simp at h
    · (repeat ((first | refine WV_seq_ ?_ | refine WV_block ?_ | refine WV_ops ?_ | refine WV_skip ?_ | refine WV_exit ?_); (try simp only [go_sem, init_env', Nat.reduceEqDiff, Nat.reduceAdd, Nat.reduceMul, reduceIte, Nat.reduceLeDiff, Nat.reduceLT, Nat.reduceBEq, reduceCtorEq, hP, ints, map_getD hk, hk2, h1, en, w1]); (repeat (refine And.intro (by first | omega | (intros; simp_all; done) | (intros; simp_all; omega)) ?_))))
      refine WV_loopK K22_1 [] (fun p : Int × Int => 0 ≤ p.1 ∧ 0 ≤ p.2 ∧ Int.gcd p.1 p.2 = Int.gcd (numOf r who) (allW r)) (fun p => p.2.toNat) (fun p => [(8, iv p.1), (9, iv p.2)]) (fun _ => []) (numOf r who, allW r) ⟨hn.1, by omega, rfl⟩ ?_ ?_
      · (refine Sub_of (by simp only [go_sem, init_env', Nat.reduceEqDiff, Nat.reduceAdd, Nat.reduceMul, reduceIte, Nat.reduceLeDiff, Nat.reduceLT, Nat.reduceBEq, reduceCtorEq]; ((repeat' (first | exact EnvLe_e0 _ _ | refine EnvLe_upd ?_ ?_)) <;> ((try simp only [upd_app, e0_app, o0_app, Nat.reduceEqDiff, reduceIte]); first | exact AWk.refl _ _ | exact AWk.int (by omega) | exact AWk.int (by rw [w64 (by omega) (by omega)]; omega) | exact AWk.grow rfl | exact AWk.nil _ | exact AWk.of (by simp)))) (by simp only [go_sem, init_env', Nat.reduceEqDiff, Nat.reduceAdd, Nat.reduceMul, reduceIte, Nat.reduceLeDiff, Nat.reduceLT, Nat.reduceBEq, reduceCtorEq]; ((repeat' (first | exact ObjLe_o0 _ | exact ObjLe.rfl' _ | refine ObjLe_same ?_ | refine ObjLe_upd ?_ ?_ | refine ObjLe_new rfl ?_)) <;> rfl)))
      · rintro ⟨a, b⟩ ⟨ha, hb2, hg⟩
        simp only at ha hb2 hg
        simp only [go_sem, init_env', Nat.reduceEqDiff, Nat.reduceAdd, Nat.reduceMul, reduceIte, Nat.reduceLeDiff, Nat.reduceLT, Nat.reduceBEq, reduceCtorEq]
        (repeat ((first | refine WV_seq_ ?_ | refine WV_block ?_ | refine WV_ops ?_ | refine WV_skip ?_ | refine WV_exit ?_); (try simp only [go_sem, init_env', Nat.reduceEqDiff, Nat.reduceAdd, Nat.reduceMul, reduceIte, Nat.reduceLeDiff, Nat.reduceLT, Nat.reduceBEq, reduceCtorEq, hP, ]); (repeat (refine And.intro (by first | omega | (intros; simp_all; done) | (intros; simp_all; omega)) ?_))))
        (refine WV_cond rfl (fun h => ?_) (fun h => ?_))
        · have h : b ≠ 0 := by simpa using h
          have em : a.tmod b = a % b := Int.tmod_eq_emod_of_nonneg ha
          have hb0 : (b = 0) = False := by simp [h]
          (repeat ((first | refine WV_seq_ ?_ | refine WV_block ?_ | refine WV_ops ?_ | refine WV_skip ?_ | refine WV_exit ?_); (try simp only [go_sem, init_env', Nat.reduceEqDiff, Nat.reduceAdd, Nat.reduceMul, reduceIte, Nat.reduceLeDiff, Nat.reduceLT, Nat.reduceBEq, reduceCtorEq, hP, em, hb0]); (repeat (refine And.intro (by first | omega | (intros; simp_all; done) | (intros; simp_all; omega)) ?_))))
          have h3 := Int.emod_nonneg a h
          have h4 := Int.emod_lt_of_pos a (show 0 < b by omega)
          refine ⟨(b, a % b), ⟨hb2, h3, ?_⟩, by simp only; omega, ?_⟩
          · rw [← hg]; exact gcd_step ha hb2
          · (refine Sub_of (by simp only [go_sem, init_env', Nat.reduceEqDiff, Nat.reduceAdd, Nat.reduceMul, reduceIte, Nat.reduceLeDiff, Nat.reduceLT, Nat.reduceBEq, reduceCtorEq]; ((repeat' (first | exact EnvLe_e0 _ _ | refine EnvLe_upd ?_ ?_)) <;> ((try simp only [upd_app, e0_app, o0_app, Nat.reduceEqDiff, reduceIte]); first | exact AWk.refl _ _ | exact AWk.int (by omega) | exact AWk.int (by rw [w64 (by omega) (by omega)]; omega) | exact AWk.grow rfl | exact AWk.nil _ | exact AWk.of (by simp)))) (by simp only [go_sem, init_env', Nat.reduceEqDiff, Nat.reduceAdd, Nat.reduceMul, reduceIte, Nat.reduceLeDiff, Nat.reduceLT, Nat.reduceBEq, reduceCtorEq]; ((repeat' (first | exact ObjLe_o0 _ | exact ObjLe.rfl' _ | refine ObjLe_same ?_ | refine ObjLe_upd ?_ ?_ | refine ObjLe_new rfl ?_)) <;> rfl)))
        · have h : b = 0 := by simpa using h
          subst h
          have hga : a = gcdOf r who := by
            unfold gcdOf
            rw [← hg, Int.gcd_zero_right]
            omega
          have hgp : 0 < gcdOf r who := by
            unfold gcdOf
            have : Int.gcd (numOf r who) (allW r) ≠ 0 := by
              intro h0
              have := Int.gcd_eq_zero_iff.1 h0
              omega
            omega
          rw [hga]
          have hg0 : (gcdOf r who = 0) = False := by simp; omega
          have d1 : (numOf r who).tdiv (gcdOf r who) = numOf r who / gcdOf r who := Int.tdiv_eq_ediv_of_nonneg hn.1
          have d2 : (allW r).tdiv (gcdOf r who) = allW r / gcdOf r who := Int.tdiv_eq_ediv_of_nonneg (by omega)
          have d3 := Int.ediv_le_self (gcdOf r who) hn.1
          have d4 := Int.ediv_le_self (gcdOf r who) (show 0 ≤ allW r by omega)
          have d5 := Int.ediv_nonneg hn.1 (Int.le_of_lt hgp)
          have d6 := Int.ediv_nonneg (show 0 ≤ allW r by omega) (Int.le_of_lt hgp)
          have w2 := w64 (n := numOf r who / gcdOf r who) (by omega) (by omega)
          have w3 := w64 (n := allW r / gcdOf r who) (by omega) (by omega)
          (refine WV_exit ?_; simp only [go_sem, init_env', Nat.reduceEqDiff, Nat.reduceAdd, Nat.reduceMul, reduceIte, Nat.reduceLeDiff, Nat.reduceLT, Nat.reduceBEq, reduceCtorEq])
          (repeat ((first | refine WV_seq_ ?_ | refine WV_block ?_ | refine WV_ops ?_ | refine WV_skip ?_ | refine WV_exit ?_); (try simp only [go_sem, init_env', Nat.reduceEqDiff, Nat.reduceAdd, Nat.reduceMul, reduceIte, Nat.reduceLeDiff, Nat.reduceLT, Nat.reduceBEq, reduceCtorEq, hP, hg0, d1, d2, w2, w3]); (repeat (refine And.intro (by first | omega | (intros; simp_all; done) | (intros; simp_all; omega)) ?_))))
          (refine WV_ret ?_; simp only [thenQ, inQ, RetQ, RetOk, resAll, resA]; simp only [go_sem, init_env', Nat.reduceEqDiff, Nat.reduceAdd, Nat.reduceMul, reduceIte, Nat.reduceLeDiff, Nat.reduceLT, Nat.reduceBEq, reduceCtorEq, tupA, AV.port, AV.portL, exists_eq_left', ]; (first | exact AVle.of rfl | refine AVle.of ?_ | skip))
  · have hx : exactS r who = (0, 0, weighE r (isW r who)) := by unfold exactS; rw [if_neg he]
    rw [hx]
    (refine WV_cond rfl (fun h => ?_) (fun h => ?_))
    · (repeat ((first | refine WV_seq_ ?_ | refine WV_block ?_ | refine WV_ops ?_ | refine WV_skip ?_ | refine WV_exit ?_); (try simp only [go_sem, init_env', Nat.reduceEqDiff, Nat.reduceAdd, Nat.reduceMul, reduceIte, Nat.reduceLeDiff, Nat.reduceLT, Nat.reduceBEq, reduceCtorEq, hP, ]); (repeat (refine And.intro (by first | omega | (intros; simp_all; done) | (intros; simp_all; omega)) ?_))))
      (refine WV_ret ?_; simp only [thenQ, inQ, RetQ, RetOk, resAll, resA]; simp only [go_sem, init_env', Nat.reduceEqDiff, Nat.reduceAdd, Nat.reduceMul, reduceIte, Nat.reduceLeDiff, Nat.reduceLT, Nat.reduceBEq, reduceCtorEq, tupA, AV.port, AV.portL, exists_eq_left', ]; (first | exact AVle.of rfl | refine AVle.of ?_ | skip))
    · simp at h; exact absurd h he

def postS (r : Royal) (res : AV) (os : List Ob) : Prop :=
  if weighE r true = 0 then res = .tup [.vw 1 1000 0 r.n r.n, iv 0] ∧ os = [.box (cellsI (sharesL r.pool (allW r) (wts r)))] else res = .tup [.c (ints []), iv (weighE r true)] ∧ os = []
set_option maxHeartbeats 4000000 in
theorem shares15N (r : Royal) : FSpecN Try.prog 15 [r.av] (postS r) := by
  refine FSpecN_of c15 (Nat.le_refl _) (by decide) fun C hP hN hC hL => ?_
  simp only [ir15, Royal.av]
  (repeat ((first | refine WV_seq_ ?_ | refine WV_block ?_ | refine WV_ops ?_ | refine WV_skip ?_ | refine WV_exit ?_); (try simp only [go_sem, init_env', Nat.reduceEqDiff, Nat.reduceAdd, Nat.reduceMul, reduceIte, Nat.reduceLeDiff, Nat.reduceLT, Nat.reduceBEq, reduceCtorEq, hP, ]); (repeat (refine And.intro (by first | omega | (intros; simp_all; done) | (intros; simp_all; omega)) ?_))))
  (refine AS_pure (weigh45 r true) rfl rfl rfl rfl rfl ?_; simp only [go_sem, init_env', Nat.reduceEqDiff, Nat.reduceAdd, Nat.reduceMul, reduceIte, Nat.reduceLeDiff, Nat.reduceLT, Nat.reduceBEq, reduceCtorEq, hP, Royal.av]; (repeat (refine And.intro (by first | omega | (intros; simp_all; done) | (intros; simp_all; omega)) ?_)); (repeat ((first | refine WV_seq_ ?_ | refine WV_block ?_ | refine WV_ops ?_ | refine WV_skip ?_ | refine WV_exit ?_); (try simp only [go_sem, init_env', Nat.reduceEqDiff, Nat.reduceAdd, Nat.reduceMul, reduceIte, Nat.reduceLeDiff, Nat.reduceLT, Nat.reduceBEq, reduceCtorEq, hP, Royal.av]); (repeat (refine And.intro (by first | omega | (intros; simp_all; done) | (intros; simp_all; omega)) ?_)))))
  by_cases he : weighE r true = 0
  · obtain ⟨_, hW, e1, e2⟩ := weighE_zero he
    rw [he, e1, e2]
    have hp := hW.hr.pool
    have hl := hW.len
    have h6 := hW.hr.n6
    (refine WV_cond rfl (fun h => ?_) (fun h => ?_))
    · simp at h
    · (repeat ((first | refine WV_seq_ ?_ | refine WV_block ?_ | refine WV_ops ?_ | refine WV_skip ?_ | refine WV_exit ?_); (try simp only [go_sem, init_env', Nat.reduceEqDiff, Nat.reduceAdd, Nat.reduceMul, reduceIte, Nat.reduceLeDiff, Nat.reduceLT, Nat.reduceBEq, reduceCtorEq, hP, ]); (repeat (refine And.intro (by first | omega | (intros; simp_all; done) | (intros; simp_all; omega)) ?_))))
      refine AS_new (shares46N hp hW.bd hW.pos hW.sum (by omega)) rfl rfl rfl rfl ?_
      rintro res os ⟨rfl, rfl⟩
      refine ⟨[900], .vw 1 900 0 (wts r).length (wts r).length, [.box (cellsI (sharesL r.pool (allW r) (wts r)))], by decide, rfl, by simp only [go_sem, init_env', Nat.reduceEqDiff, Nat.reduceAdd, Nat.reduceMul, reduceIte, Nat.reduceLeDiff, Nat.reduceLT, Nat.reduceBEq, reduceCtorEq, decide_true], rfl, ?_, ?_⟩
      · simp only [obsBack, Ob.back, backs_pure (cellsI_pure _)]; rfl
      simp only [go_sem, init_env', Nat.reduceEqDiff, Nat.reduceAdd, Nat.reduceMul, reduceIte, Nat.reduceLeDiff, Nat.reduceLT, Nat.reduceBEq, reduceCtorEq, hP, ownBack]
      (repeat (refine And.intro (by first | omega | (intros; simp_all; done) | (intros; simp_all; omega)) ?_))
      (repeat ((first | refine WV_seq_ ?_ | refine WV_block ?_ | refine WV_ops ?_ | refine WV_skip ?_ | refine WV_exit ?_); (try simp only [go_sem, init_env', Nat.reduceEqDiff, Nat.reduceAdd, Nat.reduceMul, reduceIte, Nat.reduceLeDiff, Nat.reduceLT, Nat.reduceBEq, reduceCtorEq, hP, ]); (repeat (refine And.intro (by first | omega | (intros; simp_all; done) | (intros; simp_all; omega)) ?_))))
      (refine WV_ret ?_; simp only [thenQ, inQ, RetQN, RetOkN, resAll, resA]; simp only [go_sem, init_env', Nat.reduceEqDiff, Nat.reduceAdd, Nat.reduceMul, reduceIte, Nat.reduceLeDiff, Nat.reduceLT, Nat.reduceBEq, reduceCtorEq, tupA, ])
      rw [hl]
      refine ⟨[900], .tup [.vw 1 1000 0 r.n r.n, iv 0], _, [.box (cellsI (sharesL r.pool (allW r) (wts r)))], by decide, by decide, ?_, AVle.of rfl, ?_, ?_⟩
      · simp only [go_sem, init_env', Nat.reduceEqDiff, Nat.reduceAdd, Nat.reduceMul, reduceIte, Nat.reduceLeDiff, Nat.reduceLT, Nat.reduceBEq, reduceCtorEq, AV.lend, AV.lendL]
      · simp only [go_sem, init_env', Nat.reduceEqDiff, Nat.reduceAdd, Nat.reduceMul, reduceIte, Nat.reduceLeDiff, Nat.reduceLT, Nat.reduceBEq, reduceCtorEq, obsLend, Ob.lend, lendL_pure (cellsI_pure _) (cellsI_solid _)]
      · unfold postS; rw [if_pos he]; exact ⟨rfl, rfl⟩
  · (refine WV_cond rfl (fun h => ?_) (fun h => ?_))
    · (repeat ((first | refine WV_seq_ ?_ | refine WV_block ?_ | refine WV_ops ?_ | refine WV_skip ?_ | refine WV_exit ?_); (try simp only [go_sem, init_env', Nat.reduceEqDiff, Nat.reduceAdd, Nat.reduceMul, reduceIte, Nat.reduceLeDiff, Nat.reduceLT, Nat.reduceBEq, reduceCtorEq, hP, ]); (repeat (refine And.intro (by first | omega | (intros; simp_all; done) | (intros; simp_all; omega)) ?_))))
      (refine WV_ret ?_; simp only [thenQ, inQ, RetQN, RetOkN, resAll, resA]; simp only [go_sem, init_env', Nat.reduceEqDiff, Nat.reduceAdd, Nat.reduceMul, reduceIte, Nat.reduceLeDiff, Nat.reduceLT, Nat.reduceBEq, reduceCtorEq, tupA, ])
      refine ⟨[], .tup [.c (.raw (.slice none 0 0)), iv (weighE r true)], .tup [.c (ints []), iv (weighE r true)], [], by decide, by decide, rfl, ?_, rfl, ?_⟩
      · exact AVle.tup (AVles.cons (AVle.nil 1) (AVles.refl _))
      · unfold postS; rw [if_neg he]; exact ⟨rfl, rfl⟩
    · simp at h; exact absurd h he
theorem shares15 (r : Royal) : FSpec Try.prog 15 [r.av] (.tup [.c (ints (sharesS r).1), iv (sharesS r).2]) := by
  refine FSpec_of c15 (Nat.le_refl _) (by decide) fun C hP hN hC hL => ?_
  simp only [ir15, Royal.av]
  (repeat ((first | refine WV_seq_ ?_ | refine WV_block ?_ | refine WV_ops ?_ | refine WV_skip ?_ | refine WV_exit ?_); (try simp only [go_sem, init_env', Nat.reduceEqDiff, Nat.reduceAdd, Nat.reduceMul, reduceIte, Nat.reduceLeDiff, Nat.reduceLT, Nat.reduceBEq, reduceCtorEq, hP, ]); (repeat (refine And.intro (by first | omega | (intros; simp_all; done) | (intros; simp_all; omega)) ?_))))
  (refine AS_pure (weigh45 r true) rfl rfl rfl rfl rfl ?_; simp only [go_sem, init_env', Nat.reduceEqDiff, Nat.reduceAdd, Nat.reduceMul, reduceIte, Nat.reduceLeDiff, Nat.reduceLT, Nat.reduceBEq, reduceCtorEq, hP, Royal.av]; (repeat (refine And.intro (by first | omega | (intros; simp_all; done) | (intros; simp_all; omega)) ?_)); (repeat ((first | refine WV_seq_ ?_ | refine WV_block ?_ | refine WV_ops ?_ | refine WV_skip ?_ | refine WV_exit ?_); (try simp only [go_sem, init_env', Nat.reduceEqDiff, Nat.reduceAdd, Nat.reduceMul, reduceIte, Nat.reduceLeDiff, Nat.reduceLT, Nat.reduceBEq, reduceCtorEq, hP, Royal.av]); (repeat (refine And.intro (by first | omega | (intros; simp_all; done) | (intros; simp_all; omega)) ?_)))))
  by_cases he : weighE r true = 0
  · obtain ⟨_, hW, e1, e2⟩ := weighE_zero he
    rw [he, e1, e2]
    (refine WV_cond rfl (fun h => ?_) (fun h => ?_))
    · simp at h
    · (repeat ((first | refine WV_seq_ ?_ | refine WV_block ?_ | refine WV_ops ?_ | refine WV_skip ?_ | refine WV_exit ?_); (try simp only [go_sem, init_env', Nat.reduceEqDiff, Nat.reduceAdd, Nat.reduceMul, reduceIte, Nat.reduceLeDiff, Nat.reduceLT, Nat.reduceBEq, reduceCtorEq, hP, ]); (repeat (refine And.intro (by first | omega | (intros; simp_all; done) | (intros; simp_all; omega)) ?_))))
      (refine AS_pure (shares46 hW.hr.pool hW.bd hW.pos hW.sum (by rw [hW.len]; exact hW.hr.n6)) rfl rfl rfl rfl rfl ?_; simp only [go_sem, init_env', Nat.reduceEqDiff, Nat.reduceAdd, Nat.reduceMul, reduceIte, Nat.reduceLeDiff, Nat.reduceLT, Nat.reduceBEq, reduceCtorEq, hP, ]; (repeat (refine And.intro (by first | omega | (intros; simp_all; done) | (intros; simp_all; omega)) ?_)); (repeat ((first | refine WV_seq_ ?_ | refine WV_block ?_ | refine WV_ops ?_ | refine WV_skip ?_ | refine WV_exit ?_); (try simp only [go_sem, init_env', Nat.reduceEqDiff, Nat.reduceAdd, Nat.reduceMul, reduceIte, Nat.reduceLeDiff, Nat.reduceLT, Nat.reduceBEq, reduceCtorEq, hP, ]); (repeat (refine And.intro (by first | omega | (intros; simp_all; done) | (intros; simp_all; omega)) ?_)))))
      (refine WV_ret ?_; simp only [thenQ, inQ, RetQ, RetOk, resAll, resA]; simp only [go_sem, init_env', Nat.reduceEqDiff, Nat.reduceAdd, Nat.reduceMul, reduceIte, Nat.reduceLeDiff, Nat.reduceLT, Nat.reduceBEq, reduceCtorEq, tupA, AV.port, AV.portL, exists_eq_left', ]; (first | exact AVle.of rfl | refine AVle.of ?_ | skip))
      simp [sharesS, he]
  · (refine WV_cond rfl (fun h => ?_) (fun h => ?_))
    · (repeat ((first | refine WV_seq_ ?_ | refine WV_block ?_ | refine WV_ops ?_ | refine WV_skip ?_ | refine WV_exit ?_); (try simp only [go_sem, init_env', Nat.reduceEqDiff, Nat.reduceAdd, Nat.reduceMul, reduceIte, Nat.reduceLeDiff, Nat.reduceLT, Nat.reduceBEq, reduceCtorEq, hP, ]); (repeat (refine And.intro (by first | omega | (intros; simp_all; done) | (intros; simp_all; omega)) ?_))))
      (refine WV_ret ?_; simp only [thenQ, inQ, RetQ, RetOk, resAll, resA]; simp only [go_sem, init_env', Nat.reduceEqDiff, Nat.reduceAdd, Nat.reduceMul, reduceIte, Nat.reduceLeDiff, Nat.reduceLT, Nat.reduceBEq, reduceCtorEq, tupA, AV.port, AV.portL, exists_eq_left', ])
      rw [show sharesS r = ([], weighE r true) from by unfold sharesS; rw [if_neg he]]
      exact AVle.tup (AVles.cons (AVle.nil 1) (AVles.refl _))
    · simp at h; exact absurd h he

def gPaid (s o : Int) : Int := s - o
theorem paid60 (s o : Int) (hs : 0 ≤ s ∧ s ≤ 9999999) (ho : 0 ≤ o ∧ o ≤ 9999) : FSpec Try.prog 60 [iv s, iv o] (iv (gPaid s o)) := by
  have w1 := w64 (n := s - o) (by omega) (by omega)
  refine FSpec_of c60 (Nat.le_refl _) (by decide) fun C hP hN hC hL => ?_
  simp only [ir60]
  (repeat ((first | refine WV_seq_ ?_ | refine WV_block ?_ | refine WV_ops ?_ | refine WV_skip ?_ | refine WV_exit ?_); (try simp only [go_sem, init_env', Nat.reduceEqDiff, Nat.reduceAdd, Nat.reduceMul, reduceIte, Nat.reduceLeDiff, Nat.reduceLT, Nat.reduceBEq, reduceCtorEq, hP, w1]); (repeat (refine And.intro (by first | omega | (intros; simp_all; done) | (intros; simp_all; omega)) ?_))))
  (refine WV_ret ?_; simp only [thenQ, inQ, RetQ, RetOk, resAll, resA]; simp only [go_sem, init_env', Nat.reduceEqDiff, Nat.reduceAdd, Nat.reduceMul, reduceIte, Nat.reduceLeDiff, Nat.reduceLT, Nat.reduceBEq, reduceCtorEq, tupA, AV.port, AV.portL, exists_eq_left', ]; (first | exact AVle.of rfl | refine AVle.of ?_ | skip))
theorem sharesL_bd {pool all : Int} {w : List Int} (hp : 0 ≤ pool ∧ pool ≤ 9999) (hw : ∀ x ∈ w, 0 ≤ x) (ha : 0 < all) (hs : w.sum = all) : ∀ x ∈ sharesL pool all w, 0 ≤ x ∧ x ≤ pool + 1 := by
  intro x hx
  obtain ⟨k, hk, rfl⟩ := List.mem_map.1 hx
  have hk := List.mem_range.1 hk
  have e : pool * w.getD k 0 / all = (floors pool all w)[k]'(by simpa [floors] using hk) := by simp [floors, hk]
  have h0 : ∀ x ∈ floors pool all w, 0 ≤ x := by
    intro x hx
    obtain ⟨y, hy, rfl⟩ := List.mem_map.1 hx
    exact Int.ediv_nonneg (Int.mul_nonneg hp.1 (hw y hy)) (Int.le_of_lt ha)
  have h1 := h0 _ (List.getElem_mem (by simpa [floors] using hk : k < (floors pool all w).length))
  have h2 := floors_sum ha hp.1 hw hs (k + 1)
  have h3 := floors_sum ha hp.1 hw hs k
  rw [List.take_succ_eq_append_getElem (by simpa [floors] using hk), List.sum_append] at h2
  simp only [List.sum_cons, List.sum_nil] at h2
  rw [e]
  split <;> omega

set_option maxHeartbeats 4000000 in
theorem settled59 (r : Royal) {fc : FuncId} {g : Int → Int → Int} (hg : ∀ s o, 0 ≤ s ∧ s ≤ 9999999 → 0 ≤ o ∧ o ≤ 9999 → FSpec Try.prog fc [iv s, iv o] (iv (g s o))) : FSpec Try.prog 59 [r.av, .fn fc []] (.tup [.c (ints (settledS g r).1), iv (settledS g r).2]) := by
  refine FSpec_of c59 (Nat.le_refl _) (by decide) fun C hP hN hC hL => ?_
  simp only [ir59, Royal.av]
  (repeat ((first | refine WV_seq_ ?_ | refine WV_block ?_ | refine WV_ops ?_ | refine WV_skip ?_ | refine WV_exit ?_); (try simp only [go_sem, init_env', Nat.reduceEqDiff, Nat.reduceAdd, Nat.reduceMul, reduceIte, Nat.reduceLeDiff, Nat.reduceLT, Nat.reduceBEq, reduceCtorEq, hP, ]); (repeat (refine And.intro (by first | omega | (intros; simp_all; done) | (intros; simp_all; omega)) ?_))))
  refine AS_new (shares15N r) rfl rfl rfl rfl ?_
  intro res os hpost
  unfold postS at hpost
  by_cases he : weighE r true = 0
  · rw [if_pos he] at hpost
    obtain ⟨rfl, rfl⟩ := hpost
    obtain ⟨_, hW, e1, e2⟩ := weighE_zero he
    have hx : settledS g r = (setl g (sharesL r.pool (allW r) (wts r)) r.owed, 0) := by unfold settledS; rw [if_pos he]
    have hbd := sharesL_bd hW.hr.pool (fun x hx => (hW.bd x hx).1) hW.pos hW.sum
    have hpool := hW.hr.pool
    have hlen : (sharesL r.pool (allW r) (wts r)).length = r.n := by rw [sharesL_len, hW.len]
    have h6 := hW.hr.n6
    rw [hx]
    generalize sharesL r.pool (allW r) (wts r) = S at *
    refine ⟨[900], .tup [.vw 1 900 0 r.n r.n, iv 0], [.box (cellsI S)], by decide, rfl, by simp only [go_sem, init_env', Nat.reduceEqDiff, Nat.reduceAdd, Nat.reduceMul, reduceIte, Nat.reduceLeDiff, Nat.reduceLT, Nat.reduceBEq, reduceCtorEq, decide_true], rfl, ?_, ?_⟩
    · simp only [obsBack, Ob.back, backs_pure (cellsI_pure _)]; rfl
    simp only [go_sem, init_env', Nat.reduceEqDiff, Nat.reduceAdd, Nat.reduceMul, reduceIte, Nat.reduceLeDiff, Nat.reduceLT, Nat.reduceBEq, reduceCtorEq, hP, ownBack]
    (repeat (refine And.intro (by first | omega | (intros; simp_all; done) | (intros; simp_all; omega)) ?_))
    (repeat ((first | refine WV_seq_ ?_ | refine WV_block ?_ | refine WV_ops ?_ | refine WV_skip ?_ | refine WV_exit ?_); (try simp only [go_sem, init_env', Nat.reduceEqDiff, Nat.reduceAdd, Nat.reduceMul, reduceIte, Nat.reduceLeDiff, Nat.reduceLT, Nat.reduceBEq, reduceCtorEq, hP, ]); (repeat (refine And.intro (by first | omega | (intros; simp_all; done) | (intros; simp_all; omega)) ?_))))
    have hsl : (setl g S r.owed).length = r.n := by simp [setl, hlen]
    refine WV_loopK K59_1 [900] (fun k : Nat => k ≤ r.n) (fun k => r.n - k) (fun k => [(16, iv k)]) (fun k => [(900, .box (cellsI ((setl g S r.owed).take k ++ S.drop k)))]) 0 (Nat.zero_le _) ?_ ?_
    · (refine Sub_of (by simp only [go_sem, init_env', Nat.reduceEqDiff, Nat.reduceAdd, Nat.reduceMul, reduceIte, Nat.reduceLeDiff, Nat.reduceLT, Nat.reduceBEq, reduceCtorEq]; ((repeat' (first | exact EnvLe_e0 _ _ | refine EnvLe_upd ?_ ?_)) <;> ((try simp only [upd_app, e0_app, o0_app, Nat.reduceEqDiff, reduceIte]); first | exact AWk.refl _ _ | exact AWk.int (by omega) | exact AWk.int (by rw [w64 (by omega) (by omega)]; omega) | exact AWk.grow rfl | exact AWk.nil _ | exact AWk.of (by simp)))) (by simp only [go_sem, init_env', Nat.reduceEqDiff, Nat.reduceAdd, Nat.reduceMul, reduceIte, Nat.reduceLeDiff, Nat.reduceLT, Nat.reduceBEq, reduceCtorEq]; ((repeat' (first | exact ObjLe_o0 _ | exact ObjLe.rfl' _ | refine ObjLe_same ?_ | refine ObjLe_upd ?_ ?_ | refine ObjLe_new rfl ?_)) <;> rfl)))
    · intro k hk
      simp only [go_sem, init_env', Nat.reduceEqDiff, Nat.reduceAdd, Nat.reduceMul, reduceIte, Nat.reduceLeDiff, Nat.reduceLT, Nat.reduceBEq, reduceCtorEq]
      (repeat ((first | refine WV_seq_ ?_ | refine WV_block ?_ | refine WV_ops ?_ | refine WV_skip ?_ | refine WV_exit ?_); (try simp only [go_sem, init_env', Nat.reduceEqDiff, Nat.reduceAdd, Nat.reduceMul, reduceIte, Nat.reduceLeDiff, Nat.reduceLT, Nat.reduceBEq, reduceCtorEq, hP, ]); (repeat (refine And.intro (by first | omega | (intros; simp_all; done) | (intros; simp_all; omega)) ?_))))
      (refine WV_cond rfl (fun h => ?_) (fun h => ?_))
      · have h : k < r.n := by simpa using h
        have hkS : k < S.length := by omega
        have hko : k < r.owed.length := h
        have hmid : ((setl g S r.owed).take k ++ S.drop k).length = r.n := by simp; omega
        have hkm : k < ((setl g S r.owed).take k ++ S.drop k).length := by omega
        have gk : ((setl g S r.owed).take k ++ S.drop k).getD k 0 = S[k] := by
          rw [List.getD_eq_getElem?_getD, List.getElem?_append_right (by simp; omega), List.length_take, Nat.min_eq_left (by omega), Nat.sub_self, List.getElem?_drop, Nat.add_zero, List.getElem?_eq_getElem hkS]
          rfl
        have hb := hbd _ (List.getElem_mem hkS)
        have ho := hW.hr.owed _ (List.getElem_mem hko)
        have es : (setl g S r.owed)[k]'(by omega) = max 0 (g S[k] r.owed[k]) := by simp [setl, hkS, hko]
        have s1 : ((setl g S r.owed).take k ++ S.drop k).set k (max 0 (g S[k] r.owed[k])) = (setl g S r.owed).take (k + 1) ++ S.drop (k + 1) := by
          rw [List.set_append_right _ _ (by simp; omega), List.length_take, Nat.min_eq_left (by omega), Nat.sub_self, List.drop_eq_getElem_cons hkS, List.set_cons_zero, List.take_succ_eq_append_getElem (by omega), es, List.append_assoc]
          rfl
        have hkI : (k : Int) < (r.n : Int) := by omega
        have hkI2 : (k : Int) < (r.owed.length : Int) := by omega
        have w4 := w64 (n := (k : Int) + 1) (by omega) (by omega)
        (repeat ((first | refine WV_seq_ ?_ | refine WV_block ?_ | refine WV_ops ?_ | refine WV_skip ?_ | refine WV_exit ?_); (try simp only [go_sem, init_env', Nat.reduceEqDiff, Nat.reduceAdd, Nat.reduceMul, reduceIte, Nat.reduceLeDiff, Nat.reduceLT, Nat.reduceBEq, reduceCtorEq, hP, ints, map_getD hko, hkI, hkI2, cellsI_get hkm, gk, Int.natCast_nonneg]); (repeat (refine And.intro (by first | omega | (intros; simp_all; done) | (intros; simp_all; omega)) ?_))))
        (refine ACall_of (hg S[k] r.owed[k] (by omega) ho) rfl rfl rfl rfl rfl ?_; simp only [go_sem, init_env', Nat.reduceEqDiff, Nat.reduceAdd, Nat.reduceMul, reduceIte, Nat.reduceLeDiff, Nat.reduceLT, Nat.reduceBEq, reduceCtorEq, hP, cellsI_set, s1, hkI, hmid, h, w4, cond_true]; (repeat (refine And.intro (by first | omega | (intros; simp_all; done) | (intros; simp_all; omega)) ?_)); (repeat ((first | refine WV_seq_ ?_ | refine WV_block ?_ | refine WV_ops ?_ | refine WV_skip ?_ | refine WV_exit ?_); (try simp only [go_sem, init_env', Nat.reduceEqDiff, Nat.reduceAdd, Nat.reduceMul, reduceIte, Nat.reduceLeDiff, Nat.reduceLT, Nat.reduceBEq, reduceCtorEq, hP, cellsI_set, s1, hkI, hmid, h, w4, cond_true]); (repeat (refine And.intro (by first | omega | (intros; simp_all; done) | (intros; simp_all; omega)) ?_)))))
        refine ⟨k + 1, by omega, by omega, ?_⟩
        (refine Sub_of (by simp only [go_sem, init_env', Nat.reduceEqDiff, Nat.reduceAdd, Nat.reduceMul, reduceIte, Nat.reduceLeDiff, Nat.reduceLT, Nat.reduceBEq, reduceCtorEq]; ((repeat' (first | exact EnvLe_e0 _ _ | refine EnvLe_upd ?_ ?_)) <;> ((try simp only [upd_app, e0_app, o0_app, Nat.reduceEqDiff, reduceIte]); first | exact AWk.refl _ _ | exact AWk.int (by omega) | exact AWk.int (by rw [w64 (by omega) (by omega)]; omega) | exact AWk.grow rfl | exact AWk.nil _ | exact AWk.of (by simp)))) (by simp only [go_sem, init_env', Nat.reduceEqDiff, Nat.reduceAdd, Nat.reduceMul, reduceIte, Nat.reduceLeDiff, Nat.reduceLT, Nat.reduceBEq, reduceCtorEq]; ((repeat' (first | exact ObjLe_o0 _ | exact ObjLe.rfl' _ | refine ObjLe_same ?_ | refine ObjLe_upd ?_ ?_ | refine ObjLe_new rfl ?_)) <;> rfl)))
      · have h : k = r.n := by simp at h; omega
        subst h
        rw [List.take_of_length_le (by omega), List.drop_eq_nil_of_le (by omega), List.append_nil]
        (refine WV_exit ?_; simp only [go_sem, init_env', Nat.reduceEqDiff, Nat.reduceAdd, Nat.reduceMul, reduceIte, Nat.reduceLeDiff, Nat.reduceLT, Nat.reduceBEq, reduceCtorEq])
        refine WV_freeze 900 (ds := (setl g S r.owed).map fun n => CD.int .i64 n) rfl (toCD_cellsI _ _) ?_
        have hgr := grp_ints (setl g S r.owed)
        rw [hsl, Nat.mul_one] at hgr
        have hfl : (r.n ≤ (setl g S r.owed).length) = True := by rw [hsl]; simp
        simp only [go_sem, init_env', Nat.reduceEqDiff, Nat.reduceAdd, Nat.reduceMul, reduceIte, Nat.reduceLeDiff, Nat.reduceLT, Nat.reduceBEq, reduceCtorEq, hfl, hgr]
        (repeat ((first | refine WV_seq_ ?_ | refine WV_block ?_ | refine WV_ops ?_ | refine WV_skip ?_ | refine WV_exit ?_); (try simp only [go_sem, init_env', Nat.reduceEqDiff, Nat.reduceAdd, Nat.reduceMul, reduceIte, Nat.reduceLeDiff, Nat.reduceLT, Nat.reduceBEq, reduceCtorEq, hP, ]); (repeat (refine And.intro (by first | omega | (intros; simp_all; done) | (intros; simp_all; omega)) ?_))))
        (refine WV_ret ?_; simp only [thenQ, inQ, RetQ, RetOk, resAll, resA]; simp only [go_sem, init_env', Nat.reduceEqDiff, Nat.reduceAdd, Nat.reduceMul, reduceIte, Nat.reduceLeDiff, Nat.reduceLT, Nat.reduceBEq, reduceCtorEq, tupA, AV.port, AV.portL, exists_eq_left', ]; (first | exact AVle.of rfl | refine AVle.of ?_ | skip))
  · rw [if_neg he] at hpost
    obtain ⟨rfl, rfl⟩ := hpost
    rw [show settledS g r = ([], weighE r true) from by unfold settledS; rw [if_neg he]]
    refine ⟨[], .tup [.c (ints []), iv (weighE r true)], [], by decide, rfl, rfl, rfl, rfl, ?_⟩
    simp only [go_sem, init_env', Nat.reduceEqDiff, Nat.reduceAdd, Nat.reduceMul, reduceIte, Nat.reduceLeDiff, Nat.reduceLT, Nat.reduceBEq, reduceCtorEq, hP, ownBack]
    (repeat ((first | refine WV_seq_ ?_ | refine WV_block ?_ | refine WV_ops ?_ | refine WV_skip ?_ | refine WV_exit ?_); (try simp only [go_sem, init_env', Nat.reduceEqDiff, Nat.reduceAdd, Nat.reduceMul, reduceIte, Nat.reduceLeDiff, Nat.reduceLT, Nat.reduceBEq, reduceCtorEq, hP, ints, List.map_nil, List.length_nil]); (repeat (refine And.intro (by first | omega | (intros; simp_all; done) | (intros; simp_all; omega)) ?_))))
    refine WV_loopK K59_1 [] (fun k : Nat => k = 0) (fun k => 0) (fun k => [(16, iv 0)]) (fun _ => []) 0 rfl ?_ ?_
    · (refine Sub_of (by simp only [go_sem, init_env', Nat.reduceEqDiff, Nat.reduceAdd, Nat.reduceMul, reduceIte, Nat.reduceLeDiff, Nat.reduceLT, Nat.reduceBEq, reduceCtorEq]; ((repeat' (first | exact EnvLe_e0 _ _ | refine EnvLe_upd ?_ ?_)) <;> ((try simp only [upd_app, e0_app, o0_app, Nat.reduceEqDiff, reduceIte]); first | exact AWk.refl _ _ | exact AWk.int (by omega) | exact AWk.int (by rw [w64 (by omega) (by omega)]; omega) | exact AWk.grow rfl | exact AWk.nil _ | exact AWk.of (by simp)))) (by simp only [go_sem, init_env', Nat.reduceEqDiff, Nat.reduceAdd, Nat.reduceMul, reduceIte, Nat.reduceLeDiff, Nat.reduceLT, Nat.reduceBEq, reduceCtorEq]; ((repeat' (first | exact ObjLe_o0 _ | exact ObjLe.rfl' _ | refine ObjLe_same ?_ | refine ObjLe_upd ?_ ?_ | refine ObjLe_new rfl ?_)) <;> rfl)))
    · rintro k rfl
      simp only [go_sem, init_env', Nat.reduceEqDiff, Nat.reduceAdd, Nat.reduceMul, reduceIte, Nat.reduceLeDiff, Nat.reduceLT, Nat.reduceBEq, reduceCtorEq]
      (repeat ((first | refine WV_seq_ ?_ | refine WV_block ?_ | refine WV_ops ?_ | refine WV_skip ?_ | refine WV_exit ?_); (try simp only [go_sem, init_env', Nat.reduceEqDiff, Nat.reduceAdd, Nat.reduceMul, reduceIte, Nat.reduceLeDiff, Nat.reduceLT, Nat.reduceBEq, reduceCtorEq, hP, ]); (repeat (refine And.intro (by first | omega | (intros; simp_all; done) | (intros; simp_all; omega)) ?_))))
      (refine WV_cond rfl (fun h => ?_) (fun h => ?_))
      · simp at h
      · (repeat ((first | refine WV_seq_ ?_ | refine WV_block ?_ | refine WV_ops ?_ | refine WV_skip ?_ | refine WV_exit ?_); (try simp only [go_sem, init_env', Nat.reduceEqDiff, Nat.reduceAdd, Nat.reduceMul, reduceIte, Nat.reduceLeDiff, Nat.reduceLT, Nat.reduceBEq, reduceCtorEq, hP, ]); (repeat (refine And.intro (by first | omega | (intros; simp_all; done) | (intros; simp_all; omega)) ?_))))
        (refine WV_ret ?_; simp only [thenQ, inQ, RetQ, RetOk, resAll, resA]; simp only [go_sem, init_env', Nat.reduceEqDiff, Nat.reduceAdd, Nat.reduceMul, reduceIte, Nat.reduceLeDiff, Nat.reduceLT, Nat.reduceBEq, reduceCtorEq, tupA, AV.port, AV.portL, exists_eq_left', ]; (first | exact AVle.of rfl | refine AVle.of ?_ | skip))
end Go.Proofs.Ytnmchaemhjnkgaa
