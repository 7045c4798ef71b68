/-
  Contracts of the layer's functions, of the laws' helpers and of the law; conditions: as each theorem states.
-/
import Derived.Test.YtkpgpgaojjobgaaV2
import Derived.Test.YtkpgpgaojjobgaaChecked
set_option linter.unusedVariables false
set_option linter.unusedSimpArgs false
/-
  Trays as data: plain.
-/
namespace Go.Proofs.Ytkpgpgaojjobgaa
open Go Go.V

abbrev iv (n : Int) : AV := .c (.int .i64 n)
abbrev bv (b : Bool) : AV := .c (.bool b)
structure Rec where
  front : Int
  back : Int
  deriving DecidableEq, Inhabited
/-- A press, or a play. -/
structure Pr where
  side : Int
  time : Int
  deriving DecidableEq, Inhabited
structure Tray where
  recs : List Rec
  at_ : Int
  way : Int
  step : Int
  pres : List Pr
  deriving DecidableEq, Inhabited

def Rec.cds (s : Rec) : List CD := [.int .i64 s.front, .int .i64 s.back]
def recsC (l : List Rec) : CD := .sl 2 (l.map Rec.cds)
def Pr.cds (p : Pr) : List CD := [.int .i64 p.side, .int .i64 p.time]
def prsC (l : List Pr) : CD := .sl 2 (l.map Pr.cds)
def Tray.cds (t : Tray) : List CD := [recsC t.recs, .int .i64 t.at_, .int .i64 t.way, .int .i64 t.step, prsC t.pres]
def Tray.av (t : Tray) : AV := .agg [.c (recsC t.recs), iv t.at_, iv t.way, iv t.step, .c (prsC t.pres)]

def within (n lo hi : Int) : Bool := decide (lo ≤ n) && decide (n ≤ hi)
def Tray.n (t : Tray) : Nat := t.recs.length
def okRec (r : Rec) : Bool := within r.front 1 999 && within r.back 1 999
def isSide (n : Nat) (s : Int) : Bool := within s 0 (2 * (n : Int) - 1)
def isTime (x : Int) : Bool := within x 0 9999
def okPr (n : Nat) (p : Pr) : Bool := isSide n p.side && isTime p.time
def Tray.okHead (t : Tray) : Bool := within t.n 1 6 && within t.at_ 0 ((t.n : Int) - 1) && (t.way == 1 || t.way == -1) && within t.step 0 60
def Tray.ok (t : Tray) : Bool := t.okHead && t.recs.all okRec && decide (t.pres.length ≤ 12) && t.pres.all (okPr t.n)

theorem recsC_lens {l : List Rec} (h : (recsC l).lens) : l.length ≤ 9223372036854775807 := by
  simp only [recsC, CD.lens, List.length_map, maxLen] at h; omega
theorem prsC_lens {l : List Pr} (h : (prsC l).lens) : l.length ≤ 9223372036854775807 := by
  simp only [prsC, CD.lens, List.length_map, maxLen] at h; omega
theorem Tray.lens {t : Tray} {xs : List AV} (h : AV.lensL (t.av :: xs)) : t.recs.length ≤ 9223372036854775807 ∧ t.pres.length ≤ 9223372036854775807 := by
  simp only [AV.lensL, Tray.av, AV.lens] at h
  exact ⟨recsC_lens h.1.1, prsC_lens h.1.2.2.2.2.1⟩

theorem map_getD {α β : Type} {l : List α} {f : α → β} {k : Nat} {d : β} (h : k < l.length) : (l.map f).getD k d = f l[k] := by
  simp [h]
theorem take_all {α : Type} {l : List α} {k : Nat} (p : α → Bool) (h : k < l.length) : (l.take (k + 1)).all p = ((l.take k).all p && p l[k]) := by
  rw [List.take_succ_eq_append_getElem h, List.all_append]; simp [List.all_cons]
theorem rec_two (r : Rec) : r.cds.length = 2 := rfl
theorem pr_two (r : Pr) : r.cds.length = 2 := rfl
theorem recs_two (l : List Rec) : ((l.map Rec.cds).all fun e => e.length == 2) = true := by
  rw [List.all_eq_true]; intro e he; obtain ⟨n, _, rfl⟩ := List.mem_map.1 he; rfl
theorem prs_two (l : List Pr) : ((l.map Pr.cds).all fun e => e.length == 2) = true := by
  rw [List.all_eq_true]; intro e he; obtain ⟨n, _, rfl⟩ := List.mem_map.1 he; rfl

attribute [go_sem] Int.toNat_natCast List.length_map List.length_set Nat.mul_one Nat.zero_add Int.natCast_nonneg

/-- A tray that can be run. -/
structure TrayOk (t : Tray) : Prop where
  n1 : 1 ≤ t.n
  n6 : t.n ≤ 6
  at_ : 0 ≤ t.at_ ∧ t.at_ < (t.n : Int)
  way : t.way = 1 ∨ t.way = -1
  step : 0 ≤ t.step ∧ t.step ≤ 60
  recs : ∀ r ∈ t.recs, (1 ≤ r.front ∧ r.front ≤ 999) ∧ (1 ≤ r.back ∧ r.back ≤ 999)
  pres : ∀ p ∈ t.pres, (0 ≤ p.side ∧ p.side < 2 * (t.n : Int)) ∧ (0 ≤ p.time ∧ p.time ≤ 9999)
  p13 : t.pres.length ≤ 13
theorem Tray.ok_spec {t : Tray} (h : t.ok = true) : TrayOk t ∧ t.pres.length ≤ 12 := by
  simp only [Tray.ok, Tray.okHead, Bool.and_eq_true, Bool.or_eq_true, beq_iff_eq, decide_eq_true_eq, List.all_eq_true, okRec, okPr, isSide, isTime, within] at h
  obtain ⟨⟨⟨⟨⟨⟨h1, h2⟩, h3⟩, h4⟩, h5⟩, h6⟩, h7⟩ := h
  exact ⟨⟨by omega, by omega, by omega, h3, h4, h5, fun p hp => by have := h7 p hp; omega, by omega⟩, h6⟩
end Go.Proofs.Ytkpgpgaojjobgaa

/-
  Ranks: the greater rest first, and of two equal ones the lesser number: plain.
-/
namespace Go.Proofs.Ytkpgpgaojjobgaa
open Go Go.V

/-- a comes before b. -/
def before (f : Nat → Int) (a b : Nat) : Bool := decide (f b < f a) || (f a == f b && decide (a < b))
theorem before_irr (f : Nat → Int) (a : Nat) : before f a a = false := by simp [before]
theorem before_trans (f : Nat → Int) {a b c : Nat} (h : before f a b = true) (k : before f b c = true) : before f a c = true := by
  unfold before at *
  simp only [Bool.or_eq_true, decide_eq_true_eq, Bool.and_eq_true, beq_iff_eq] at *
  omega
def rank (f : Nat → Int) (n i : Nat) : Nat := ((List.range n).filter fun k => before f k i).length

/-- An order: the places, one behind the other. -/
structure Ordered (f : Nat → Int) (n : Nat) (l : List Nat) : Prop where
  perm : l.Perm (List.range n)
  sorted : l.Pairwise fun a b => before f a b = true

theorem Ordered.len {f : Nat → Int} {n : Nat} {l : List Nat} (h : Ordered f n l) : l.length = n := by
  rw [h.perm.length_eq, List.length_range]
theorem Ordered.rank {f : Nat → Int} {n : Nat} {l : List Nat} (h : Ordered f n l) {j : Nat} (hj : j < l.length) : rank f n l[j] = j := by
  unfold Go.Proofs.Ytkpgpgaojjobgaa.rank
  rw [← (h.perm.filter _).length_eq]
  have e : l = l.take j ++ l[j] :: l.drop (j + 1) := by rw [List.getElem_cons_drop, List.take_append_drop]
  have hs := List.pairwise_iff_getElem.1 h.sorted
  have h1 : (l.take j).filter (fun k => before f k l[j]) = l.take j := by
    rw [List.filter_eq_self]
    intro x hx
    obtain ⟨i, hi, rfl⟩ := List.mem_take_iff_getElem.1 hx
    exact hs i j (by omega) hj (by omega)
  have h2 : (l.drop (j + 1)).filter (fun k => before f k l[j]) = [] := by
    rw [List.filter_eq_nil_iff]
    intro x hx
    obtain ⟨i, hi, rfl⟩ := List.mem_drop_iff_getElem.1 hx
    have := hs j (j + 1 + i) hj (by omega) (by omega)
    intro hb
    have h3 := before_trans f this hb
    rw [before_irr] at h3
    cases h3
  have e2 : l.filter (fun k => before f k l[j]) = (l.take j ++ l[j] :: l.drop (j + 1)).filter (fun k => before f k l[j]) := congrArg (List.filter (fun k => before f k l[j])) e
  rw [e2, List.filter_append, List.filter_cons, h1, h2, before_irr]
  simp
  omega
theorem Ordered.mem {f : Nat → Int} {n : Nat} {l : List Nat} (h : Ordered f n l) {i : Nat} (hi : i < n) : ∃ j, ∃ hj : j < l.length, l[j] = i := by
  have : i ∈ l := h.perm.mem_iff.2 (List.mem_range.2 hi)
  obtain ⟨j, hj, e⟩ := List.mem_iff_getElem.1 this
  exact ⟨j, hj, e⟩
theorem Ordered.lt {f : Nat → Int} {n : Nat} {l : List Nat} (h : Ordered f n l) {j : Nat} (hj : j < l.length) : l[j] < n :=
  List.mem_range.1 (h.perm.mem_iff.1 (List.getElem_mem hj))
theorem Ordered.nodup {f : Nat → Int} {n : Nat} {l : List Nat} (h : Ordered f n l) : l.Nodup := h.perm.nodup_iff.2 List.nodup_range
theorem Ordered.take {f : Nat → Int} {n : Nat} {l : List Nat} (h : Ordered f n l) (t i : Nat) (hi : i < n) : i ∈ l.take t ↔ Go.Proofs.Ytkpgpgaojjobgaa.rank f n i < t := by
  obtain ⟨j, hj, rfl⟩ := h.mem hi
  rw [h.rank hj, List.mem_take_iff_getElem]
  constructor
  · rintro ⟨k, hk, e⟩
    have : k = j := (List.getElem_inj h.nodup).1 e
    omega
  · intro hjt
    exact ⟨j, by omega, rfl⟩

/-! ### One is put behind those that it does not come before -/
/-- The i-th one has gone down to place j. -/
def mv {α : Type} (l : List α) (i j : Nat) : List α := l.take j ++ ((l.drop i).take 1 ++ ((l.drop j).take (i - j) ++ l.drop (i + 1)))
theorem mv_len {α : Type} {l : List α} {i j : Nat} (hi : i < l.length) (hj : j ≤ i) : (mv l i j).length = l.length := by
  simp [mv]; omega
theorem mv_get {α : Type} {l : List α} {i j : Nat} (hi : i < l.length) (hj : j ≤ i) (t : Nat) : (mv l i j)[t]? = if t < j then l[t]? else if t = j then l[i]? else if t ≤ i then l[t - 1]? else l[t]? := by
  unfold mv
  rw [List.getElem?_append]
  have e1 : (l.take j).length = j := by simp; omega
  have e2 : ((l.drop i).take 1).length = 1 := by simp; omega
  have e3 : ((l.drop j).take (i - j)).length = i - j := by simp; omega
  rw [e1]
  split
  · rename_i h
    rw [List.getElem?_take, if_pos h]
  · rename_i h
    rw [List.getElem?_append, e2]
    split
    · rename_i h2
      have : t = j := by omega
      subst this
      rw [if_pos rfl, List.getElem?_take, if_pos (by omega), List.getElem?_drop]
      congr 1
      omega
    · rename_i h2
      rw [if_neg (by omega), List.getElem?_append, e3]
      split
      · rename_i h3
        rw [if_pos (by omega), List.getElem?_take, if_pos h3, List.getElem?_drop]
        congr 1
        omega
      · rename_i h3
        rw [if_neg (by omega), List.getElem?_drop]
        congr 1
        omega
theorem mv_self {α : Type} {l : List α} {i : Nat} (hi : i < l.length) : mv l i i = l := by
  apply List.ext_getElem?
  intro t
  rw [mv_get hi (Nat.le_refl _)]
  split
  · rfl
  · split
    · rename_i h; rw [h]
    · rw [if_neg (by omega)]
theorem mv_step {α : Type} {l : List α} {i j : Nat} (hi : i < l.length) (hj : j < i) (x y : α) (hx : l[i]? = some x) (hy : l[j]? = some y) : ((mv l i (j + 1)).set (j + 1) y).set j x = mv l i j := by
  apply List.ext_getElem?
  intro t
  rw [List.getElem?_set, List.getElem?_set, List.length_set, mv_len hi hj, mv_get hi hj, mv_get hi (by omega)]
  by_cases h1 : j = t
  · subst h1
    rw [if_pos rfl, if_pos (by omega), if_neg (by omega), if_pos rfl, hx]
  · rw [if_neg h1]
    by_cases h2 : j + 1 = t
    · subst h2
      rw [if_pos rfl, if_pos (by omega), if_neg (by omega), if_neg (by omega), if_pos (by omega), Nat.add_sub_cancel, hy]
    · rw [if_neg h2]
      by_cases h3 : t < j
      · rw [if_pos (by omega), if_pos h3]
      · rw [if_neg (by omega), if_neg (by omega), if_neg h3, if_neg (show ¬ t = j from fun e => h1 e.symm)]
/-- The first i ones are in order, the others where they were. -/
structure SortI (f : Nat → Int) (n i : Nat) (l : List Nat) : Prop where
  len : l.length = n
  perm : (l.take i).Perm (List.range i)
  sorted : (l.take i).Pairwise fun a b => before f a b = true
  rest : ∀ t, i ≤ t → t < n → l[t]? = some t
theorem SortI.first (f : Nat → Int) {n : Nat} (hn : 0 < n) : SortI f n 1 (List.range n) := by
  have e : (List.range n).take 1 = [0] := by
    cases n with
    | zero => omega
    | succ n => rw [List.range_succ_eq_map]; rfl
  refine ⟨by simp, ?_, ?_, fun t _ h => by simp [h]⟩
  · rw [e]; exact List.Perm.refl _
  · rw [e]; simp
theorem SortI.lt {f : Nat → Int} {n i : Nat} {l : List Nat} (h : SortI f n i l) {t : Nat} (ht : t < i) (hi : i ≤ n) {x : Nat} (hx : l[t]? = some x) : x < i := by
  have : x ∈ l.take i := by
    rw [List.mem_take_iff_getElem]
    obtain ⟨h1, h2⟩ := List.getElem?_eq_some_iff.1 hx
    exact ⟨t, by omega, h2⟩
  exact List.mem_range.1 (h.perm.mem_iff.1 this)
theorem SortI.step {f : Nat → Int} {n i j : Nat} {l : List Nat} (h : SortI f n i l) (hi : i < n) (hj : j ≤ i) (h1 : ∀ t x, j ≤ t → t < i → l[t]? = some x → f x < f i) (h2 : ∀ x, 0 < j → l[j - 1]? = some x → f i ≤ f x) : SortI f n (i + 1) (mv l i j) := by
  have hl := h.len
  have hx : (l.drop i).take 1 = [i] := by
    rw [List.drop_eq_getElem_cons (by omega)]
    have := h.rest i (Nat.le_refl _) hi
    rw [List.getElem?_eq_getElem (by omega)] at this
    simp only [Option.some.injEq] at this
    simp [this]
  have ht : (mv l i j).take (i + 1) = l.take j ++ (i :: (l.drop j).take (i - j)) := by
    unfold mv
    rw [hx, ← List.append_assoc [i], ← List.append_assoc (l.take j), List.take_left' (by simp; omega)]
    rfl
  have hp : l.take i = l.take j ++ (l.drop j).take (i - j) := by
    have := List.take_append_drop j (l.take i)
    rw [List.take_take, List.drop_take, Nat.min_eq_left hj] at this
    exact this.symm
  have hs := h.sorted
  rw [hp, List.pairwise_append] at hs
  have hA : ∀ x ∈ l.take j, before f x i = true := by
    intro x hxm
    obtain ⟨t, htl, rfl⟩ := List.mem_take_iff_getElem.1 hxm
    have hti : l[t] < i := h.lt (t := t) (by omega) (by omega) (List.getElem?_eq_getElem (by omega))
    have hlast : before f (l[j - 1]'(by omega)) i = true := by
      have h3 := h2 _ (by omega) (List.getElem?_eq_getElem (by omega))
      have h4 : l[j - 1]'(by omega) < i := h.lt (t := j - 1) (by omega) (by omega) (List.getElem?_eq_getElem (by omega))
      simp only [before, Bool.or_eq_true, decide_eq_true_eq, Bool.and_eq_true, beq_iff_eq]
      omega
    by_cases htj : t = j - 1
    · subst htj; exact hlast
    · refine before_trans f ?_ hlast
      have := List.pairwise_iff_getElem.1 h.sorted t (j - 1) (by simp; omega) (by simp; omega) (by omega)
      simpa using this
  have hB : ∀ x ∈ (l.drop j).take (i - j), before f i x = true := by
    intro x hxm
    obtain ⟨t, htl, rfl⟩ := List.mem_take_iff_getElem.1 hxm
    simp only [List.getElem_drop]
    have h3 := h1 (j + t) _ (by omega) (by simp at htl; omega) (List.getElem?_eq_getElem (by simp at htl; omega))
    simp only [before, Bool.or_eq_true, decide_eq_true_eq]
    exact .inl h3
  refine ⟨by rw [mv_len (by omega) hj]; exact hl, ?_, ?_, fun t h3 h4 => ?_⟩
  · rw [ht, List.range_succ]
    refine List.perm_middle.trans ?_
    rw [← hp]
    exact (List.Perm.cons i h.perm).trans (List.perm_append_comm (l₁ := [i]))
  · rw [ht, List.pairwise_append, List.pairwise_cons]
    refine ⟨hs.1, ⟨hB, hs.2.1⟩, fun a ha b hb => ?_⟩
    rcases List.mem_cons.1 hb with rfl | hb
    · exact hA a ha
    · exact hs.2.2 a ha b hb
  · rw [mv_get (by omega) hj, if_neg (by omega), if_neg (by omega), if_neg (by omega)]
    exact h.rest t (by omega) h4
theorem SortI.done {f : Nat → Int} {n i : Nat} {l : List Nat} (h : SortI f n i l) (hi : n ≤ i) : Ordered f n l := by
  have hl := h.len
  have h1 := h.perm
  have h2 := h.sorted
  rw [List.take_of_length_le (by omega)] at h1 h2
  have : i = n := by
    have := h1.length_eq
    simp at this; omega
  subst this
  exact ⟨h1, h2⟩
end Go.Proofs.Ytkpgpgaojjobgaa

namespace Go.Proofs.Ytkpgpgaojjobgaa
open Go Go.V
@[reducible] def o40_0 : List Ins := [⟨(some 1), .box 5 (.t 0), none, true⟩,
  ⟨(some 2), .mv (.k (.c (.int .i64 0))), none, true⟩]
@[reducible] def o40_1 : List Ins := [⟨(some 8), .fa 0 (.t 1), none, true⟩,
  ⟨(some 9), .ld true 1 (.t 8), none, true⟩,
  ⟨(some 10), .len (.t 9), none, true⟩,
  ⟨(some 11), .bin .geq (.t 10) (.k (.c (.int .i64 1))), none, true⟩,
  ⟨(some 12), .mv (.t 11), none, true⟩,
  ⟨(some 13), .fa 0 (.t 1), (some (12, true)), true⟩,
  ⟨(some 14), .ld true 1 (.t 13), (some (12, true)), true⟩,
  ⟨(some 15), .len (.t 14), (some (12, true)), true⟩,
  ⟨(some 16), .bin .leq (.t 15) (.k (.c (.int .i64 6))), (some (12, true)), true⟩,
  ⟨(some 17), .pick (.t 12) (.t 16) (.k (.c (.bool false))), none, true⟩,
  ⟨(some 18), .mv (.t 17), none, true⟩,
  ⟨(some 19), .fa 1 (.t 1), (some (18, true)), true⟩,
  ⟨(some 20), .ld true 1 (.t 19), (some (18, true)), true⟩,
  ⟨(some 21), .bin .geq (.t 20) (.k (.c (.int .i64 0))), (some (18, true)), true⟩,
  ⟨(some 22), .pick (.t 18) (.t 21) (.k (.c (.bool false))), none, true⟩,
  ⟨(some 23), .mv (.t 22), none, true⟩,
  ⟨(some 24), .fa 1 (.t 1), (some (23, true)), true⟩,
  ⟨(some 25), .ld true 1 (.t 24), (some (23, true)), true⟩,
  ⟨(some 26), .fa 0 (.t 1), (some (23, true)), true⟩,
  ⟨(some 27), .ld true 1 (.t 26), (some (23, true)), true⟩,
  ⟨(some 28), .len (.t 27), (some (23, true)), true⟩,
  ⟨(some 29), .bin .lss (.t 25) (.t 28), (some (23, true)), true⟩,
  ⟨(some 30), .pick (.t 23) (.t 29) (.k (.c (.bool false))), none, true⟩,
  ⟨(some 31), .mv (.t 30), none, true⟩,
  ⟨(some 32), .fa 2 (.t 1), (some (31, true)), true⟩,
  ⟨(some 33), .ld true 1 (.t 32), (some (31, true)), true⟩,
  ⟨(some 34), .bin .eql (.t 33) (.k (.c (.int .i64 1))), (some (31, true)), true⟩,
  ⟨(some 35), .mv (.t 34), (some (31, true)), true⟩,
  ⟨(some 36), .fa 2 (.t 1), (some (35, false)), true⟩,
  ⟨(some 37), .ld true 1 (.t 36), (some (35, false)), true⟩,
  ⟨(some 38), .bin .eql (.t 37) (.k (.c (.int .i64 (-1)))), (some (35, false)), true⟩,
  ⟨(some 39), .pick (.t 35) (.k (.c (.bool true))) (.t 38), (some (31, true)), true⟩,
  ⟨(some 40), .pick (.t 31) (.t 39) (.k (.c (.bool false))), none, true⟩,
  ⟨(some 41), .mv (.t 40), none, true⟩,
  ⟨(some 42), .fa 3 (.t 1), (some (41, true)), true⟩,
  ⟨(some 43), .ld true 1 (.t 42), (some (41, true)), true⟩,
  ⟨(some 44), .bin .geq (.t 43) (.k (.c (.int .i64 0))), (some (41, true)), true⟩,
  ⟨(some 45), .pick (.t 41) (.t 44) (.k (.c (.bool false))), none, true⟩,
  ⟨(some 46), .mv (.t 45), none, true⟩,
  ⟨(some 47), .fa 3 (.t 1), (some (46, true)), true⟩,
  ⟨(some 48), .ld true 1 (.t 47), (some (46, true)), true⟩,
  ⟨(some 49), .bin .leq (.t 48) (.k (.c (.int .i64 60))), (some (46, true)), true⟩,
  ⟨(some 50), .pick (.t 46) (.t 49) (.k (.c (.bool false))), none, true⟩,
  ⟨(some 51), .mv (.t 50), none, true⟩,
  ⟨(some 52), .fa 4 (.t 1), (some (51, true)), true⟩,
  ⟨(some 53), .ld true 1 (.t 52), (some (51, true)), true⟩,
  ⟨(some 54), .len (.t 53), (some (51, true)), true⟩,
  ⟨(some 55), .bin .leq (.t 54) (.k (.c (.int .i64 12))), (some (51, true)), true⟩,
  ⟨(some 56), .pick (.t 51) (.t 55) (.k (.c (.bool false))), none, true⟩,
  ⟨(some 3), .mv (.t 56), none, true⟩]
@[reducible] def o40_2 : List Ins := [⟨(some 57), .fa 0 (.t 1), none, true⟩,
  ⟨(some 58), .ld true 1 (.t 57), none, true⟩,
  ⟨(some 59), .len (.t 58), none, true⟩,
  ⟨(some 60), .mv (.k (.c (.int .i64 0))), none, true⟩]
@[reducible] def o40_3 : List Ins := [⟨(some 61), .bin .lss (.t 60) (.t 59), none, true⟩]
@[reducible] def o40_4 : List Ins := [⟨(some 62), .ia 2 (.t 58) (.t 60), none, true⟩,
  ⟨(some 63), .ld false 2 (.t 62), none, true⟩,
  ⟨(some 5), .alloc [(.c (.int .i64 0)), (.c (.int .i64 0))], none, true⟩,
  ⟨none, .st 2 (.t 5) (.t 63), none, true⟩]
@[reducible] def o40_5 : List Ins := [⟨(some 64), .mv (.t 3), none, true⟩,
  ⟨(some 65), .mv (.t 64), none, true⟩,
  ⟨(some 66), .fa 0 (.t 5), (some (65, true)), true⟩,
  ⟨(some 67), .ld true 1 (.t 66), (some (65, true)), true⟩,
  ⟨(some 68), .bin .geq (.t 67) (.k (.c (.int .i64 1))), (some (65, true)), true⟩,
  ⟨(some 69), .pick (.t 65) (.t 68) (.k (.c (.bool false))), none, true⟩,
  ⟨(some 70), .mv (.t 69), none, true⟩,
  ⟨(some 71), .fa 0 (.t 5), (some (70, true)), true⟩,
  ⟨(some 72), .ld true 1 (.t 71), (some (70, true)), true⟩,
  ⟨(some 73), .bin .leq (.t 72) (.k (.c (.int .i64 999))), (some (70, true)), true⟩,
  ⟨(some 74), .pick (.t 70) (.t 73) (.k (.c (.bool false))), none, true⟩,
  ⟨(some 75), .mv (.t 74), none, true⟩,
  ⟨(some 76), .fa 1 (.t 5), (some (75, true)), true⟩,
  ⟨(some 77), .ld true 1 (.t 76), (some (75, true)), true⟩,
  ⟨(some 78), .bin .geq (.t 77) (.k (.c (.int .i64 1))), (some (75, true)), true⟩,
  ⟨(some 79), .pick (.t 75) (.t 78) (.k (.c (.bool false))), none, true⟩,
  ⟨(some 80), .mv (.t 79), none, true⟩,
  ⟨(some 81), .fa 1 (.t 5), (some (80, true)), true⟩,
  ⟨(some 82), .ld true 1 (.t 81), (some (80, true)), true⟩,
  ⟨(some 83), .bin .leq (.t 82) (.k (.c (.int .i64 999))), (some (80, true)), true⟩,
  ⟨(some 84), .pick (.t 80) (.t 83) (.k (.c (.bool false))), none, true⟩,
  ⟨(some 3), .mv (.t 84), none, true⟩]
@[reducible] def v40_6 : VC := (.seq (.ops o40_4) (.ops o40_5))
@[reducible] def o40_7 : List Ins := [⟨(some 85), .bin .add (.t 60) (.k (.c (.int .i64 1))), none, true⟩,
  ⟨(some 60), .mv (.t 85), none, true⟩]
@[reducible] def v40_8 : VC := (.seq (.block 1 v40_6) (.ops o40_7))
@[reducible] def v40_9 : VC := (.seq (.cond (.t 61) .skip (.exit 0)) v40_8)
@[reducible] def v40_10 : VC := (.seq (.ops o40_3) v40_9)
-- K40_1: changed and kept: [60, 3]
@[reducible] def K40_1 : List Nat := [1, 58, 59]
@[reducible] def v40_11 : VC := (.loop v40_10)
@[reducible] def v40_12 : VC := (.block 0 v40_11)
@[reducible] def o40_13 : List Ins := [⟨(some 86), .fa 4 (.t 1), none, true⟩,
  ⟨(some 87), .ld true 1 (.t 86), none, true⟩,
  ⟨(some 88), .len (.t 87), none, true⟩,
  ⟨(some 89), .mv (.k (.c (.int .i64 0))), none, true⟩]
@[reducible] def o40_14 : List Ins := [⟨(some 90), .bin .lss (.t 89) (.t 88), none, true⟩]
@[reducible] def o40_15 : List Ins := [⟨(some 91), .ia 2 (.t 87) (.t 89), none, true⟩,
  ⟨(some 92), .ld false 2 (.t 91), none, true⟩,
  ⟨(some 7), .alloc [(.c (.int .i64 0)), (.c (.int .i64 0))], none, true⟩,
  ⟨none, .st 2 (.t 7) (.t 92), none, true⟩]
@[reducible] def o40_16 : List Ins := [⟨(some 93), .mv (.t 3), none, true⟩,
  ⟨(some 94), .mv (.t 93), none, true⟩,
  ⟨(some 95), .ld false 5 (.t 1), (some (94, true)), true⟩,
  ⟨(some 96), .fa 0 (.t 7), (some (94, true)), true⟩,
  ⟨(some 97), .ld true 1 (.t 96), (some (94, true)), true⟩,
  ⟨(some 98), .call (.k (.fn 55 [])) [(.t 95), (.t 97)], (some (94, true)), true⟩,
  ⟨(some 99), .pick (.t 94) (.t 98) (.k (.c (.bool false))), none, true⟩,
  ⟨(some 100), .mv (.t 99), none, true⟩,
  ⟨(some 101), .fa 1 (.t 7), (some (100, true)), true⟩,
  ⟨(some 102), .ld true 1 (.t 101), (some (100, true)), true⟩,
  ⟨(some 103), .call (.k (.fn 53 [])) [(.t 102)], (some (100, true)), true⟩,
  ⟨(some 104), .pick (.t 100) (.t 103) (.k (.c (.bool false))), none, true⟩,
  ⟨(some 3), .mv (.t 104), none, true⟩]
@[reducible] def v40_17 : VC := (.seq (.ops o40_15) (.ops o40_16))
@[reducible] def o40_18 : List Ins := [⟨(some 105), .bin .add (.t 89) (.k (.c (.int .i64 1))), none, true⟩,
  ⟨(some 89), .mv (.t 105), none, true⟩]
@[reducible] def v40_19 : VC := (.seq (.block 3 v40_17) (.ops o40_18))
@[reducible] def v40_20 : VC := (.seq (.cond (.t 90) .skip (.exit 2)) v40_19)
@[reducible] def v40_21 : VC := (.seq (.ops o40_14) v40_20)
-- K40_2: changed and kept: [89, 3]
@[reducible] def K40_2 : List Nat := [1, 87, 88]
@[reducible] def v40_22 : VC := (.loop v40_21)
@[reducible] def v40_23 : VC := (.block 2 v40_22)
@[reducible] def o40_24 : List Ins := [⟨(some 106), .mv (.t 3), none, true⟩,
  ⟨(some 107), .un .not (.t 106), none, true⟩]
@[reducible] def o40_25 : List Ins := [⟨(some 2), .mv (.k (.c (.int .i64 20))), none, true⟩]
@[reducible] def v40_26 : VC := (.seq (.ops o40_25) .ret)
@[reducible] def v40_27 : VC := (.cond (.t 107) v40_26 .skip)
@[reducible] def o40_28 : List Ins := [⟨(some 2), .mv (.k (.c (.int .i64 0))), none, true⟩]
@[reducible] def v40_29 : VC := (.seq (.ops o40_28) .ret)
@[reducible] def v40_30 : VC := (.seq (.seq (.ops o40_24) v40_27) v40_29)
@[reducible] def v40_31 : VC := (.seq (.seq (.ops o40_13) v40_23) v40_30)
@[reducible] def v40_32 : VC := (.seq (.seq (.ops o40_2) v40_12) v40_31)
@[reducible] def v40_33 : VC := (.seq (.ops o40_1) v40_32)
def ir40 : FC := ⟨1, 108, [.t 2], (.seq (.ops o40_0) v40_33)⟩
@[reducible] def o53_0 : List Ins := [⟨(some 2), .mv (.k (.c (.bool false))), none, true⟩]
@[reducible] def o53_1 : List Ins := [⟨(some 3), .mv (.t 0), none, true⟩,
  ⟨(some 4), .bin .geq (.t 3) (.k (.c (.int .i64 0))), none, true⟩,
  ⟨(some 5), .mv (.t 4), none, true⟩,
  ⟨(some 6), .mv (.t 0), (some (5, true)), true⟩,
  ⟨(some 7), .bin .leq (.t 6) (.k (.c (.int .i64 9999))), (some (5, true)), true⟩,
  ⟨(some 8), .pick (.t 5) (.t 7) (.k (.c (.bool false))), none, true⟩,
  ⟨(some 2), .mv (.t 8), none, true⟩]
@[reducible] def v53_2 : VC := (.seq (.ops o53_1) .ret)
def ir53 : FC := ⟨1, 9, [.t 2], (.seq (.ops o53_0) v53_2)⟩
@[reducible] def o55_0 : List Ins := [⟨(some 2), .box 5 (.t 0), none, true⟩,
  ⟨(some 4), .mv (.k (.c (.bool false))), none, true⟩]
@[reducible] def o55_1 : List Ins := [⟨(some 5), .mv (.t 1), none, true⟩,
  ⟨(some 6), .bin .geq (.t 5) (.k (.c (.int .i64 0))), none, true⟩,
  ⟨(some 7), .mv (.t 6), none, true⟩,
  ⟨(some 8), .mv (.t 1), (some (7, true)), true⟩,
  ⟨(some 9), .fa 0 (.t 2), (some (7, true)), true⟩,
  ⟨(some 10), .ld true 1 (.t 9), (some (7, true)), true⟩,
  ⟨(some 11), .len (.t 10), (some (7, true)), true⟩,
  ⟨(some 12), .bin .mul (.k (.c (.int .i64 2))) (.t 11), (some (7, true)), true⟩,
  ⟨(some 13), .bin .lss (.t 8) (.t 12), (some (7, true)), true⟩,
  ⟨(some 14), .pick (.t 7) (.t 13) (.k (.c (.bool false))), none, true⟩,
  ⟨(some 4), .mv (.t 14), none, true⟩]
@[reducible] def v55_2 : VC := (.seq (.ops o55_1) .ret)
def ir55 : FC := ⟨2, 15, [.t 4], (.seq (.ops o55_0) v55_2)⟩
@[reducible] def o41_0 : List Ins := [⟨(some 1), .box 5 (.t 0), none, true⟩,
  ⟨(some 2), .mv (.k (.c (.int .i64 0))), none, true⟩]
@[reducible] def o41_1 : List Ins := [⟨(some 4), .fa 0 (.t 1), none, true⟩,
  ⟨(some 5), .ld true 1 (.t 4), none, true⟩,
  ⟨(some 6), .len (.t 5), none, true⟩,
  ⟨(some 7), .call (.k (.fn 51 [])) [(.t 6), (.k (.c (.int .i64 1))), (.k (.c (.int .i64 6)))], none, true⟩,
  ⟨(some 8), .un .not (.t 7), none, true⟩,
  ⟨(some 9), .mv (.t 8), none, true⟩,
  ⟨(some 10), .fa 1 (.t 1), (some (9, false)), true⟩,
  ⟨(some 11), .ld true 1 (.t 10), (some (9, false)), true⟩,
  ⟨(some 12), .fa 0 (.t 1), (some (9, false)), true⟩,
  ⟨(some 13), .ld true 1 (.t 12), (some (9, false)), true⟩,
  ⟨(some 14), .len (.t 13), (some (9, false)), true⟩,
  ⟨(some 15), .bin .sub (.t 14) (.k (.c (.int .i64 1))), (some (9, false)), true⟩,
  ⟨(some 16), .call (.k (.fn 51 [])) [(.t 11), (.k (.c (.int .i64 0))), (.t 15)], (some (9, false)), true⟩,
  ⟨(some 17), .un .not (.t 16), (some (9, false)), true⟩,
  ⟨(some 18), .pick (.t 9) (.k (.c (.bool true))) (.t 17), none, true⟩,
  ⟨(some 19), .mv (.t 18), none, true⟩,
  ⟨(some 20), .fa 2 (.t 1), (some (19, false)), true⟩,
  ⟨(some 21), .ld true 1 (.t 20), (some (19, false)), true⟩,
  ⟨(some 22), .bin .neq (.t 21) (.k (.c (.int .i64 1))), (some (19, false)), true⟩,
  ⟨(some 23), .mv (.t 22), (some (19, false)), true⟩,
  ⟨(some 24), .fa 2 (.t 1), (some (23, true)), true⟩,
  ⟨(some 25), .ld true 1 (.t 24), (some (23, true)), true⟩,
  ⟨(some 26), .bin .neq (.t 25) (.k (.c (.int .i64 (-1)))), (some (23, true)), true⟩,
  ⟨(some 27), .pick (.t 23) (.t 26) (.k (.c (.bool false))), (some (19, false)), true⟩,
  ⟨(some 28), .pick (.t 19) (.k (.c (.bool true))) (.t 27), none, true⟩,
  ⟨(some 29), .mv (.t 28), none, true⟩,
  ⟨(some 30), .fa 3 (.t 1), (some (29, false)), true⟩,
  ⟨(some 31), .ld true 1 (.t 30), (some (29, false)), true⟩,
  ⟨(some 32), .call (.k (.fn 51 [])) [(.t 31), (.k (.c (.int .i64 0))), (.k (.c (.int .i64 60)))], (some (29, false)), true⟩,
  ⟨(some 33), .un .not (.t 32), (some (29, false)), true⟩,
  ⟨(some 34), .pick (.t 29) (.k (.c (.bool true))) (.t 33), none, true⟩]
@[reducible] def o41_2 : List Ins := [⟨(some 2), .mv (.k (.c (.int .i64 20))), none, true⟩]
@[reducible] def v41_3 : VC := (.seq (.ops o41_2) .ret)
@[reducible] def v41_4 : VC := (.cond (.t 34) v41_3 .skip)
@[reducible] def o41_5 : List Ins := [⟨(some 3), .mv (.k (.c (.int .i64 0))), none, true⟩]
@[reducible] def o41_6 : List Ins := [⟨(some 35), .mv (.t 3), none, true⟩,
  ⟨(some 36), .fa 0 (.t 1), none, true⟩,
  ⟨(some 37), .ld true 1 (.t 36), none, true⟩,
  ⟨(some 38), .len (.t 37), none, true⟩,
  ⟨(some 39), .bin .lss (.t 35) (.t 38), none, true⟩]
@[reducible] def v41_7 : VC := (.cond (.t 39) .skip (.exit 0))
@[reducible] def o41_8 : List Ins := [⟨(some 42), .fa 0 (.t 1), none, true⟩,
  ⟨(some 43), .ld true 1 (.t 42), none, true⟩,
  ⟨(some 44), .mv (.t 3), none, true⟩,
  ⟨(some 45), .ia 2 (.t 43) (.t 44), none, true⟩,
  ⟨(some 46), .fa 0 (.t 45), none, true⟩,
  ⟨(some 47), .ld true 1 (.t 46), none, true⟩,
  ⟨(some 48), .call (.k (.fn 51 [])) [(.t 47), (.k (.c (.int .i64 1))), (.k (.c (.int .i64 999)))], none, true⟩,
  ⟨(some 49), .un .not (.t 48), none, true⟩,
  ⟨(some 50), .mv (.t 49), none, true⟩,
  ⟨(some 51), .fa 0 (.t 1), (some (50, false)), true⟩,
  ⟨(some 52), .ld true 1 (.t 51), (some (50, false)), true⟩,
  ⟨(some 53), .mv (.t 3), (some (50, false)), true⟩,
  ⟨(some 54), .ia 2 (.t 52) (.t 53), (some (50, false)), true⟩,
  ⟨(some 55), .fa 1 (.t 54), (some (50, false)), true⟩,
  ⟨(some 56), .ld true 1 (.t 55), (some (50, false)), true⟩,
  ⟨(some 57), .call (.k (.fn 51 [])) [(.t 56), (.k (.c (.int .i64 1))), (.k (.c (.int .i64 999)))], (some (50, false)), true⟩,
  ⟨(some 58), .un .not (.t 57), (some (50, false)), true⟩,
  ⟨(some 59), .pick (.t 50) (.k (.c (.bool true))) (.t 58), none, true⟩]
@[reducible] def o41_9 : List Ins := [⟨(some 2), .mv (.k (.c (.int .i64 20))), none, true⟩]
@[reducible] def v41_10 : VC := (.seq (.ops o41_9) .ret)
@[reducible] def v41_11 : VC := (.cond (.t 59) v41_10 .skip)
@[reducible] def v41_12 : VC := (.seq (.ops o41_8) v41_11)
@[reducible] def o41_13 : List Ins := [⟨(some 40), .mv (.t 3), none, true⟩,
  ⟨(some 41), .bin .add (.t 40) (.k (.c (.int .i64 1))), none, true⟩,
  ⟨(some 3), .mv (.t 41), none, true⟩]
@[reducible] def v41_14 : VC := (.seq (.block 1 v41_12) (.ops o41_13))
@[reducible] def v41_15 : VC := (.seq (.seq (.ops o41_6) v41_7) v41_14)
-- K41_1: changed and kept: [3]
@[reducible] def K41_1 : List Nat := [1]
@[reducible] def v41_16 : VC := (.loop v41_15)
@[reducible] def v41_17 : VC := (.block 0 v41_16)
@[reducible] def o41_18 : List Ins := [⟨(some 60), .ld false 5 (.t 1), none, true⟩,
  ⟨(some 61), .call (.k (.fn 64 [])) [(.t 60), (.k (.c (.int .i64 12)))], none, true⟩,
  ⟨(some 2), .mv (.t 61), none, true⟩]
@[reducible] def v41_19 : VC := (.seq (.ops o41_18) .ret)
@[reducible] def v41_20 : VC := (.seq (.seq (.ops o41_5) v41_17) v41_19)
@[reducible] def v41_21 : VC := (.seq (.seq (.ops o41_1) v41_4) v41_20)
def ir41 : FC := ⟨1, 62, [.t 2], (.seq (.ops o41_0) v41_21)⟩
@[reducible] def o64_0 : List Ins := [⟨(some 2), .box 5 (.t 0), none, true⟩,
  ⟨(some 4), .mv (.k (.c (.int .i64 0))), none, true⟩]
@[reducible] def o64_1 : List Ins := [⟨(some 6), .fa 4 (.t 2), none, true⟩,
  ⟨(some 7), .ld true 1 (.t 6), none, true⟩,
  ⟨(some 8), .len (.t 7), none, true⟩,
  ⟨(some 9), .mv (.t 1), none, true⟩,
  ⟨(some 10), .bin .gtr (.t 8) (.t 9), none, true⟩]
@[reducible] def o64_2 : List Ins := [⟨(some 4), .mv (.k (.c (.int .i64 20))), none, true⟩]
@[reducible] def v64_3 : VC := (.seq (.ops o64_2) .ret)
@[reducible] def v64_4 : VC := (.cond (.t 10) v64_3 .skip)
@[reducible] def o64_5 : List Ins := [⟨(some 5), .mv (.k (.c (.int .i64 0))), none, true⟩]
@[reducible] def o64_6 : List Ins := [⟨(some 11), .mv (.t 5), none, true⟩,
  ⟨(some 12), .fa 4 (.t 2), none, true⟩,
  ⟨(some 13), .ld true 1 (.t 12), none, true⟩,
  ⟨(some 14), .len (.t 13), none, true⟩,
  ⟨(some 15), .bin .lss (.t 11) (.t 14), none, true⟩]
@[reducible] def v64_7 : VC := (.cond (.t 15) .skip (.exit 0))
@[reducible] def o64_8 : List Ins := [⟨(some 18), .ld false 5 (.t 2), none, false⟩,
  ⟨(some 19), .fa 4 (.t 2), none, false⟩,
  ⟨(some 20), .ld true 1 (.t 19), none, false⟩,
  ⟨(some 21), .mv (.t 5), none, false⟩,
  ⟨(some 22), .ia 2 (.t 20) (.t 21), none, false⟩,
  ⟨(some 23), .fa 0 (.t 22), none, false⟩,
  ⟨(some 24), .ld true 1 (.t 23), none, false⟩,
  ⟨(some 25), .call (.k (.fn 17 [])) [(.t 18), (.t 24)], none, true⟩,
  ⟨(some 26), .un .not (.t 25), none, true⟩,
  ⟨(some 27), .mv (.t 26), none, true⟩,
  ⟨(some 28), .fa 4 (.t 2), (some (27, false)), false⟩,
  ⟨(some 29), .ld true 1 (.t 28), (some (27, false)), false⟩,
  ⟨(some 30), .mv (.t 5), (some (27, false)), false⟩,
  ⟨(some 31), .ia 2 (.t 29) (.t 30), (some (27, false)), true⟩,
  ⟨(some 32), .fa 1 (.t 31), (some (27, false)), true⟩,
  ⟨(some 33), .ld true 1 (.t 32), (some (27, false)), true⟩,
  ⟨(some 34), .call (.k (.fn 18 [])) [(.t 33)], (some (27, false)), true⟩,
  ⟨(some 35), .un .not (.t 34), (some (27, false)), true⟩,
  ⟨(some 36), .pick (.t 27) (.k (.c (.bool true))) (.t 35), none, true⟩]
@[reducible] def o64_9 : List Ins := [⟨(some 4), .mv (.k (.c (.int .i64 20))), none, true⟩]
@[reducible] def v64_10 : VC := (.seq (.ops o64_9) .ret)
@[reducible] def v64_11 : VC := (.cond (.t 36) v64_10 .skip)
@[reducible] def v64_12 : VC := (.seq (.ops o64_8) v64_11)
@[reducible] def o64_13 : List Ins := [⟨(some 16), .mv (.t 5), none, true⟩,
  ⟨(some 17), .bin .add (.t 16) (.k (.c (.int .i64 1))), none, true⟩,
  ⟨(some 5), .mv (.t 17), none, true⟩]
@[reducible] def v64_14 : VC := (.seq (.block 1 v64_12) (.ops o64_13))
@[reducible] def v64_15 : VC := (.seq (.seq (.ops o64_6) v64_7) v64_14)
-- K64_1: changed and kept: [5]
@[reducible] def K64_1 : List Nat := [2]
@[reducible] def v64_16 : VC := (.loop v64_15)
@[reducible] def v64_17 : VC := (.block 0 v64_16)
@[reducible] def o64_18 : List Ins := [⟨(some 4), .mv (.k (.c (.int .i64 0))), none, true⟩]
@[reducible] def v64_19 : VC := (.seq (.ops o64_18) .ret)
@[reducible] def v64_20 : VC := (.seq (.seq (.ops o64_5) v64_17) v64_19)
@[reducible] def v64_21 : VC := (.seq (.seq (.ops o64_1) v64_4) v64_20)
def ir64 : FC := ⟨2, 37, [.t 4], (.seq (.ops o64_0) v64_21)⟩
@[reducible] def o51_0 : List Ins := [⟨(some 6), .mv (.k (.c (.bool false))), none, true⟩]
@[reducible] def o51_1 : List Ins := [⟨(some 7), .mv (.t 1), none, true⟩,
  ⟨(some 8), .mv (.t 0), none, true⟩,
  ⟨(some 9), .bin .leq (.t 7) (.t 8), none, true⟩,
  ⟨(some 10), .mv (.t 9), none, true⟩,
  ⟨(some 11), .mv (.t 0), (some (10, true)), true⟩,
  ⟨(some 12), .mv (.t 2), (some (10, true)), true⟩,
  ⟨(some 13), .bin .leq (.t 11) (.t 12), (some (10, true)), true⟩,
  ⟨(some 14), .pick (.t 10) (.t 13) (.k (.c (.bool false))), none, true⟩,
  ⟨(some 6), .mv (.t 14), none, true⟩]
@[reducible] def v51_2 : VC := (.seq (.ops o51_1) .ret)
def ir51 : FC := ⟨3, 15, [.t 6], (.seq (.ops o51_0) v51_2)⟩
@[reducible] def o17_0 : List Ins := [⟨(some 2), .box 5 (.t 0), none, true⟩,
  ⟨(some 4), .mv (.k (.c (.bool false))), none, true⟩]
@[reducible] def o17_1 : List Ins := [⟨(some 5), .mv (.t 1), none, true⟩,
  ⟨(some 6), .fa 0 (.t 2), none, true⟩,
  ⟨(some 7), .ld true 1 (.t 6), none, true⟩,
  ⟨(some 8), .len (.t 7), none, true⟩,
  ⟨(some 9), .bin .mul (.k (.c (.int .i64 2))) (.t 8), none, true⟩,
  ⟨(some 10), .bin .sub (.t 9) (.k (.c (.int .i64 1))), none, true⟩,
  ⟨(some 11), .call (.k (.fn 51 [])) [(.t 5), (.k (.c (.int .i64 0))), (.t 10)], none, true⟩,
  ⟨(some 4), .mv (.t 11), none, true⟩]
@[reducible] def v17_2 : VC := (.seq (.ops o17_1) .ret)
def ir17 : FC := ⟨2, 12, [.t 4], (.seq (.ops o17_0) v17_2)⟩
@[reducible] def o18_0 : List Ins := [⟨(some 2), .mv (.k (.c (.bool false))), none, true⟩]
@[reducible] def o18_1 : List Ins := [⟨(some 3), .mv (.t 0), none, true⟩,
  ⟨(some 4), .call (.k (.fn 51 [])) [(.t 3), (.k (.c (.int .i64 0))), (.k (.c (.int .i64 9999)))], none, true⟩,
  ⟨(some 2), .mv (.t 4), none, true⟩]
@[reducible] def v18_2 : VC := (.seq (.ops o18_1) .ret)
def ir18 : FC := ⟨1, 5, [.t 2], (.seq (.ops o18_0) v18_2)⟩
@[reducible] def o28_0 : List Ins := [⟨(some 1), .box 5 (.t 0), none, true⟩,
  ⟨(some 2), .mv (.k (.c (.bool false))), none, true⟩]
@[reducible] def o28_1 : List Ins := [⟨(some 3), .fa 0 (.t 1), none, true⟩,
  ⟨(some 4), .ld true 1 (.t 3), none, true⟩,
  ⟨(some 5), .len (.t 4), none, true⟩,
  ⟨(some 6), .bin .gtr (.t 5) (.k (.c (.int .i64 40))), none, true⟩,
  ⟨(some 7), .mv (.t 6), none, true⟩,
  ⟨(some 8), .fa 4 (.t 1), (some (7, false)), true⟩,
  ⟨(some 9), .ld true 1 (.t 8), (some (7, false)), true⟩,
  ⟨(some 10), .len (.t 9), (some (7, false)), true⟩,
  ⟨(some 11), .bin .gtr (.t 10) (.k (.c (.int .i64 40))), (some (7, false)), true⟩,
  ⟨(some 12), .pick (.t 7) (.k (.c (.bool true))) (.t 11), none, true⟩,
  ⟨(some 2), .mv (.t 12), none, true⟩]
@[reducible] def v28_2 : VC := (.seq (.ops o28_1) .ret)
def ir28 : FC := ⟨1, 13, [.t 2], (.seq (.ops o28_0) v28_2)⟩
theorem c40 : compM Try.prog [] 40 = some ir40 := by kernel_rfl
theorem c53 : compM Try.prog [] 53 = some ir53 := by kernel_rfl
theorem c55 : compM Try.prog [] 55 = some ir55 := by kernel_rfl
theorem c41 : compM Try.prog [] 41 = some ir41 := by kernel_rfl
theorem c64 : compM Try.prog [] 64 = some ir64 := by kernel_rfl
theorem c51 : compM Try.prog [] 51 = some ir51 := by kernel_rfl
theorem c17 : compM Try.prog [] 17 = some ir17 := by kernel_rfl
theorem c18 : compM Try.prog [] 18 = some ir18 := by kernel_rfl
theorem c28 : compM Try.prog [] 28 = some ir28 := by kernel_rfl



theorem wi51 (a b c : Int) : FSpec Try.prog 51 [iv a, iv b, iv c] (.c (.bool (within a b c))) := by
  refine FSpec_of c51 (Nat.le_refl _) (by decide) fun C hP hN hC hL => ?_
  simp only [ir51]
  (repeat ((first | refine WV_seq_ ?_ | refine WV_block ?_ | refine WV_ops ?_ | refine WV_skip ?_ | refine WV_exit ?_); (try simp only [go_sem, init_env', Nat.reduceEqDiff, Nat.reduceAdd, Nat.reduceMul, reduceIte, Nat.reduceLeDiff, Nat.reduceLT, Nat.reduceBEq, reduceCtorEq, hP, ]); (repeat refine qI ?_)))
  (refine WV_ret ?_; simp only [thenQ, inQ, RetQ, RetOk, resAll, resA]; simp only [go_sem, init_env', Nat.reduceEqDiff, Nat.reduceAdd, Nat.reduceMul, reduceIte, Nat.reduceLeDiff, Nat.reduceLT, Nat.reduceBEq, reduceCtorEq, tupA, AV.port, AV.portL, exists_eq_left', ]; (first | exact AVle.of rfl | refine AVle.of ?_ | skip))
theorem istime53 (a : Int) : FSpec Try.prog 53 [iv a] (.c (.bool (isTime a))) := by
  refine FSpec_of c53 (Nat.le_refl _) (by decide) fun C hP hN hC hL => ?_
  simp only [ir53]
  (repeat ((first | refine WV_seq_ ?_ | refine WV_block ?_ | refine WV_ops ?_ | refine WV_skip ?_ | refine WV_exit ?_); (try simp only [go_sem, init_env', Nat.reduceEqDiff, Nat.reduceAdd, Nat.reduceMul, reduceIte, Nat.reduceLeDiff, Nat.reduceLT, Nat.reduceBEq, reduceCtorEq, hP, ]); (repeat refine qI ?_)))
  (refine WV_ret ?_; simp only [thenQ, inQ, RetQ, RetOk, resAll, resA]; simp only [go_sem, init_env', Nat.reduceEqDiff, Nat.reduceAdd, Nat.reduceMul, reduceIte, Nat.reduceLeDiff, Nat.reduceLT, Nat.reduceBEq, reduceCtorEq, tupA, AV.port, AV.portL, exists_eq_left', ]; (first | exact AVle.of rfl | refine AVle.of ?_ | skip))
theorem ristime18 (a : Int) : FSpec Try.prog 18 [iv a] (.c (.bool (isTime a))) := by
  refine FSpec_of c18 (Nat.le_refl _) (by decide) fun C hP hN hC hL => ?_
  simp only [ir18]
  (repeat ((first | refine WV_seq_ ?_ | refine WV_block ?_ | refine WV_ops ?_ | refine WV_skip ?_ | refine WV_exit ?_); (try simp only [go_sem, init_env', Nat.reduceEqDiff, Nat.reduceAdd, Nat.reduceMul, reduceIte, Nat.reduceLeDiff, Nat.reduceLT, Nat.reduceBEq, reduceCtorEq, hP, ]); (repeat refine qI ?_)))
  (refine AS_pure (wi51 _ _ _) rfl rfl rfl rfl rfl ?_; simp only [go_sem, init_env', Nat.reduceEqDiff, Nat.reduceAdd, Nat.reduceMul, reduceIte, Nat.reduceLeDiff, Nat.reduceLT, Nat.reduceBEq, reduceCtorEq, hP, ]; (repeat refine qI ?_); (repeat ((first | refine WV_seq_ ?_ | refine WV_block ?_ | refine WV_ops ?_ | refine WV_skip ?_ | refine WV_exit ?_); (try simp only [go_sem, init_env', Nat.reduceEqDiff, Nat.reduceAdd, Nat.reduceMul, reduceIte, Nat.reduceLeDiff, Nat.reduceLT, Nat.reduceBEq, reduceCtorEq, hP, ]); (repeat refine qI ?_))))
  (refine WV_ret ?_; simp only [thenQ, inQ, RetQ, RetOk, resAll, resA]; simp only [go_sem, init_env', Nat.reduceEqDiff, Nat.reduceAdd, Nat.reduceMul, reduceIte, Nat.reduceLeDiff, Nat.reduceLT, Nat.reduceBEq, reduceCtorEq, tupA, AV.port, AV.portL, exists_eq_left', ]; (first | exact AVle.of rfl | refine AVle.of ?_ | skip))
theorem side_lt (n : Nat) (s : Int) : (decide (0 ≤ s) && decide (s < 2 * (n : Int))) = isSide n s := by
  unfold isSide within
  rw [Bool.eq_iff_iff]; simp; omega
theorem isside55 (t : Tray) (s : Int) (hn : t.n ≤ 1000) : FSpec Try.prog 55 [t.av, iv s] (.c (.bool (isSide t.n s))) := by
  refine FSpec_of c55 (Nat.le_refl _) (by decide) fun C hP hN hC hL => ?_
  simp only [ir55, Tray.av]
  have hn' : t.recs.length = t.n := rfl
  have w1 := w64 (n := 2 * (t.n : Int)) (by omega) (by omega)
  (repeat ((first | refine WV_seq_ ?_ | refine WV_block ?_ | refine WV_ops ?_ | refine WV_skip ?_ | refine WV_exit ?_); (try simp only [go_sem, init_env', Nat.reduceEqDiff, Nat.reduceAdd, Nat.reduceMul, reduceIte, Nat.reduceLeDiff, Nat.reduceLT, Nat.reduceBEq, reduceCtorEq, hP, recsC, List.length_map, hn', w1]); (repeat refine qI ?_)))
  (refine WV_ret ?_; simp only [thenQ, inQ, RetQ, RetOk, resAll, resA]; simp only [go_sem, init_env', Nat.reduceEqDiff, Nat.reduceAdd, Nat.reduceMul, reduceIte, Nat.reduceLeDiff, Nat.reduceLT, Nat.reduceBEq, reduceCtorEq, tupA, AV.port, AV.portL, exists_eq_left', ]; (first | exact AVle.of rfl | refine AVle.of ?_ | skip))
  exact congrArg (fun b => AV.c (CD.bool b)) (side_lt _ _)
theorem risside17 (t : Tray) (s : Int) (hn : t.n ≤ 1000) : FSpec Try.prog 17 [t.av, iv s] (.c (.bool (isSide t.n s))) := by
  refine FSpec_of c17 (Nat.le_refl _) (by decide) fun C hP hN hC hL => ?_
  simp only [ir17, Tray.av]
  have hn' : t.recs.length = t.n := rfl
  have w1 := w64 (n := 2 * (t.n : Int)) (by omega) (by omega)
  have w2 := w64 (n := 2 * (t.n : Int) - 1) (by omega) (by omega)
  (repeat ((first | refine WV_seq_ ?_ | refine WV_block ?_ | refine WV_ops ?_ | refine WV_skip ?_ | refine WV_exit ?_); (try simp only [go_sem, init_env', Nat.reduceEqDiff, Nat.reduceAdd, Nat.reduceMul, reduceIte, Nat.reduceLeDiff, Nat.reduceLT, Nat.reduceBEq, reduceCtorEq, hP, recsC, List.length_map, hn', w1, w2]); (repeat refine qI ?_)))
  (refine AS_pure (wi51 _ _ _) rfl rfl rfl rfl rfl ?_; simp only [go_sem, init_env', Nat.reduceEqDiff, Nat.reduceAdd, Nat.reduceMul, reduceIte, Nat.reduceLeDiff, Nat.reduceLT, Nat.reduceBEq, reduceCtorEq, hP, ]; (repeat refine qI ?_); (repeat ((first | refine WV_seq_ ?_ | refine WV_block ?_ | refine WV_ops ?_ | refine WV_skip ?_ | refine WV_exit ?_); (try simp only [go_sem, init_env', Nat.reduceEqDiff, Nat.reduceAdd, Nat.reduceMul, reduceIte, Nat.reduceLeDiff, Nat.reduceLT, Nat.reduceBEq, reduceCtorEq, hP, ]); (repeat refine qI ?_))))
  (refine WV_ret ?_; simp only [thenQ, inQ, RetQ, RetOk, resAll, resA]; simp only [go_sem, init_env', Nat.reduceEqDiff, Nat.reduceAdd, Nat.reduceMul, reduceIte, Nat.reduceLeDiff, Nat.reduceLT, Nat.reduceBEq, reduceCtorEq, tupA, AV.port, AV.portL, exists_eq_left', ]; (first | exact AVle.of rfl | refine AVle.of ?_ | skip))
def farB (t : Tray) : Bool := decide (40 < t.n) || decide (40 < t.pres.length)
theorem far28 (t : Tray) : FSpec Try.prog 28 [t.av] (.c (.bool (farB t))) := by
  refine FSpec_of c28 (Nat.le_refl _) (by decide) fun C hP hN hC hL => ?_
  simp only [ir28, Tray.av]
  (repeat ((first | refine WV_seq_ ?_ | refine WV_block ?_ | refine WV_ops ?_ | refine WV_skip ?_ | refine WV_exit ?_); (try simp only [go_sem, init_env', Nat.reduceEqDiff, Nat.reduceAdd, Nat.reduceMul, reduceIte, Nat.reduceLeDiff, Nat.reduceLT, Nat.reduceBEq, reduceCtorEq, hP, recsC, prsC, List.length_map]); (repeat refine qI ?_)))
  (refine WV_ret ?_; simp only [thenQ, inQ, RetQ, RetOk, resAll, resA]; simp only [go_sem, init_env', Nat.reduceEqDiff, Nat.reduceAdd, Nat.reduceMul, reduceIte, Nat.reduceLeDiff, Nat.reduceLT, Nat.reduceBEq, reduceCtorEq, tupA, AV.port, AV.portL, exists_eq_left', ]; (first | exact AVle.of rfl | refine AVle.of ?_ | skip))
  have e1 : decide ((40 : Int) < (t.recs.length : Int)) = decide (40 < t.recs.length) := by simp; omega
  have e2 : decide ((40 : Int) < (t.pres.length : Int)) = decide (40 < t.pres.length) := by simp; omega
  rw [e1, e2]
  rfl

set_option maxRecDepth 20000 in
set_option maxHeartbeats 8000000 in
theorem check40 (t : Tray) : FSpec Try.prog 40 [t.av] (iv (if t.ok then 0 else 20)) := by
  refine FSpec_of c40 (Nat.le_refl _) (by decide) fun C hP hN hC hL => ?_
  obtain ⟨h1, h2⟩ := Tray.lens hL
  have hn' : t.recs.length = t.n := rfl
  simp only [ir40, Tray.av, recsC, prsC]
  (repeat ((first | refine WV_seq_ ?_ | refine WV_block ?_ | refine WV_ops ?_ | refine WV_skip ?_ | refine WV_exit ?_); (try simp only [go_sem, init_env', Nat.reduceEqDiff, Nat.reduceAdd, Nat.reduceMul, reduceIte, Nat.reduceLeDiff, Nat.reduceLT, Nat.reduceBEq, reduceCtorEq, hP, List.length_map, hn']); (repeat refine qI ?_)))
  have hh : (decide (1 ≤ (t.n : Int)) && (decide ((t.n : Int) ≤ 6) && (decide (0 ≤ t.at_) && (decide (t.at_ < (t.n : Int)) && ((t.way == 1 || t.way == -1) && (decide (0 ≤ t.step) && (decide (t.step ≤ 60) && decide ((t.pres.length : Int) ≤ 12)))))))) = (t.okHead && decide (t.pres.length ≤ 12)) := by
    unfold Tray.okHead within
    rw [Bool.eq_iff_iff]; simp; omega
  have hh2 : (((((((decide (1 ≤ (t.n : Int)) && decide ((t.n : Int) ≤ 6)) && decide (0 ≤ t.at_)) && decide (t.at_ < (t.n : Int))) && (t.way == 1 || t.way == -1)) && decide (0 ≤ t.step)) && decide (t.step ≤ 60)) && decide ((t.pres.length : Int) ≤ 12)) = (t.okHead && decide (t.pres.length ≤ 12)) := by
    rw [← hh]; simp only [Bool.and_assoc]
  rw [hh2]
  generalize hg0 : (t.okHead && decide (t.pres.length ≤ 12)) = g0
  refine WV_loopK K40_1 [5] (fun k : Nat => k ≤ t.n) (fun k => t.n - k) (fun k => [(3, .c (.bool (g0 && (t.recs.take k).all okRec))), (60, iv k)]) (fun _ => []) 0 (Nat.zero_le _) ?_ ?_
  · exact Sub_au
  · intro k hk
    simp only [go_sem, init_env', Nat.reduceEqDiff, Nat.reduceAdd, Nat.reduceMul, reduceIte, Nat.reduceLeDiff, Nat.reduceLT, Nat.reduceBEq, reduceCtorEq]
    (repeat ((first | refine WV_seq_ ?_ | refine WV_block ?_ | refine WV_ops ?_ | refine WV_skip ?_ | refine WV_exit ?_); (try simp only [go_sem, init_env', Nat.reduceEqDiff, Nat.reduceAdd, Nat.reduceMul, reduceIte, Nat.reduceLeDiff, Nat.reduceLT, Nat.reduceBEq, reduceCtorEq, hP, ]); (repeat refine qI ?_)))
    (refine WV_cond rfl (fun h => ?_) (fun h => ?_))
    · have h : k < t.recs.length := by simp at h; omega
      have hkl := h
      have hI : (k : Int) < (t.n : Int) := by omega
      have hw2 := w64 (n := (k : Int) + 1) (by omega) (by omega)
      (repeat ((first | refine WV_seq_ ?_ | refine WV_block ?_ | refine WV_ops ?_ | refine WV_skip ?_ | refine WV_exit ?_); (try simp only [go_sem, init_env', Nat.reduceEqDiff, Nat.reduceAdd, Nat.reduceMul, reduceIte, Nat.reduceLeDiff, Nat.reduceLT, Nat.reduceBEq, reduceCtorEq, hP, Int.toNat_natCast, map_getD h, List.length_map, hn', hI, Int.natCast_nonneg, Rec.cds, hw2]); (repeat refine qI ?_)))
      refine ⟨k + 1, by omega, by omega, ?_⟩
      (refine Sub_of (by simp only [go_sem, init_env', Nat.reduceEqDiff, Nat.reduceAdd, Nat.reduceMul, reduceIte, Nat.reduceLeDiff, Nat.reduceLT, Nat.reduceBEq, reduceCtorEq]; ((repeat' (first | exact EnvLe_e0 _ _ | refine EnvLe_upd ?_ ?_)) <;> ((try simp only [upd_app, e0_app, o0_app, Nat.reduceEqDiff, reduceIte]); first | exact AWk.refl _ _ | exact AWk.int (by omega) | exact AWk.int (by rw [w64 (by omega) (by omega)]; omega) | exact AWk.grow rfl | exact AWk.nil _ | exact AWk.of (by (rw [take_all okRec h]; simp [Bool.and_assoc, okRec, within]))))) (by simp only [go_sem, init_env', Nat.reduceEqDiff, Nat.reduceAdd, Nat.reduceMul, reduceIte, Nat.reduceLeDiff, Nat.reduceLT, Nat.reduceBEq, reduceCtorEq]; ((repeat' (first | exact ObjLe_o0 _ | exact ObjLe.rfl' _ | refine ObjLe_same ?_ | refine ObjLe_upd ?_ ?_ | refine ObjLe_new rfl ?_)) <;> rfl)))
    · have h : k = t.recs.length := by simp at h; omega
      subst h
      rw [List.take_length]
      generalize hg1 : (g0 && t.recs.all okRec) = g1
      (repeat ((first | refine WV_seq_ ?_ | refine WV_block ?_ | refine WV_ops ?_ | refine WV_skip ?_ | refine WV_exit ?_); (try simp only [go_sem, init_env', Nat.reduceEqDiff, Nat.reduceAdd, Nat.reduceMul, reduceIte, Nat.reduceLeDiff, Nat.reduceLT, Nat.reduceBEq, reduceCtorEq, hP, List.length_map]); (repeat refine qI ?_)))
      refine WV_loopK K40_2 [7] (fun k : Nat => k ≤ t.pres.length) (fun k => t.pres.length - k) (fun k => [(3, .c (.bool (g1 && (t.pres.take k).all (okPr t.n)))), (89, iv k)]) (fun _ => []) 0 (Nat.zero_le _) ?_ ?_
      · exact Sub_au
      · intro k hk
        simp only [go_sem, init_env', Nat.reduceEqDiff, Nat.reduceAdd, Nat.reduceMul, reduceIte, Nat.reduceLeDiff, Nat.reduceLT, Nat.reduceBEq, reduceCtorEq]
        (repeat ((first | refine WV_seq_ ?_ | refine WV_block ?_ | refine WV_ops ?_ | refine WV_skip ?_ | refine WV_exit ?_); (try simp only [go_sem, init_env', Nat.reduceEqDiff, Nat.reduceAdd, Nat.reduceMul, reduceIte, Nat.reduceLeDiff, Nat.reduceLT, Nat.reduceBEq, reduceCtorEq, hP, List.length_map]); (repeat refine qI ?_)))
        (refine WV_cond rfl (fun h => ?_) (fun h => ?_))
        · have h : k < t.pres.length := by simpa using h
          have hI : (k : Int) < (t.pres.length : Int) := by omega
          have hw2 := w64 (n := (k : Int) + 1) (by omega) (by omega)
          (repeat ((first | refine WV_seq_ ?_ | refine WV_block ?_ | refine WV_ops ?_ | refine WV_skip ?_ | refine WV_exit ?_); (try simp only [go_sem, init_env', Nat.reduceEqDiff, Nat.reduceAdd, Nat.reduceMul, reduceIte, Nat.reduceLeDiff, Nat.reduceLT, Nat.reduceBEq, reduceCtorEq, hP, Int.toNat_natCast, map_getD h, List.length_map, hI, Int.natCast_nonneg, Pr.cds]); (repeat refine qI ?_)))
          refine AG_pure (fun hG => isside55 t t.pres[k].side ?_) rfl (fun hG => by simp only [go_sem, init_env', Nat.reduceEqDiff, Nat.reduceAdd, Nat.reduceMul, reduceIte, Nat.reduceLeDiff, Nat.reduceLT, Nat.reduceBEq, reduceCtorEq, hG]) rfl rfl rfl ?_
          · simp only [Bool.and_eq_true] at hG
            have : g0 = true := by
              have := hG.1
              rw [← hg1] at this
              simp only [Bool.and_eq_true] at this
              exact this.1
            rw [← hg0] at this
            simp only [Bool.and_eq_true, decide_eq_true_eq, Tray.okHead, within] at this
            omega
          simp only [go_sem, init_env', Nat.reduceEqDiff, Nat.reduceAdd, Nat.reduceMul, reduceIte, Nat.reduceLeDiff, Nat.reduceLT, Nat.reduceBEq, reduceCtorEq, hP, Tray.av, recsC, prsC]
          (repeat ((first | refine WV_seq_ ?_ | refine WV_block ?_ | refine WV_ops ?_ | refine WV_skip ?_ | refine WV_exit ?_); (try simp only [go_sem, init_env', Nat.reduceEqDiff, Nat.reduceAdd, Nat.reduceMul, reduceIte, Nat.reduceLeDiff, Nat.reduceLT, Nat.reduceBEq, reduceCtorEq, hP, ]); (repeat refine qI ?_)))
          (refine AG_pure (fun hG => istime53 _) rfl (fun hG => by first | (simp only [go_sem, init_env', Nat.reduceEqDiff, Nat.reduceAdd, Nat.reduceMul, reduceIte, Nat.reduceLeDiff, Nat.reduceLT, Nat.reduceBEq, reduceCtorEq, hG]; done) | (simp only [go_sem, init_env', Nat.reduceEqDiff, Nat.reduceAdd, Nat.reduceMul, reduceIte, Nat.reduceLeDiff, Nat.reduceLT, Nat.reduceBEq, reduceCtorEq]; revert hG; simp; done) | (simp only [go_sem, init_env', Nat.reduceEqDiff, Nat.reduceAdd, Nat.reduceMul, reduceIte, Nat.reduceLeDiff, Nat.reduceLT, Nat.reduceBEq, reduceCtorEq, hG]; simp_all; done) | (revert hG; simp; done) | simp_all) rfl rfl rfl ?_; simp only [go_sem, init_env', Nat.reduceEqDiff, Nat.reduceAdd, Nat.reduceMul, reduceIte, Nat.reduceLeDiff, Nat.reduceLT, Nat.reduceBEq, reduceCtorEq, hP, hw2]; (repeat refine qI ?_); (repeat ((first | refine WV_seq_ ?_ | refine WV_block ?_ | refine WV_ops ?_ | refine WV_skip ?_ | refine WV_exit ?_); (try simp only [go_sem, init_env', Nat.reduceEqDiff, Nat.reduceAdd, Nat.reduceMul, reduceIte, Nat.reduceLeDiff, Nat.reduceLT, Nat.reduceBEq, reduceCtorEq, hP, hw2]); (repeat refine qI ?_))))
          refine ⟨k + 1, by omega, by omega, ?_⟩
          (refine Sub_of (by simp only [go_sem, init_env', Nat.reduceEqDiff, Nat.reduceAdd, Nat.reduceMul, reduceIte, Nat.reduceLeDiff, Nat.reduceLT, Nat.reduceBEq, reduceCtorEq]; ((repeat' (first | exact EnvLe_e0 _ _ | refine EnvLe_upd ?_ ?_)) <;> ((try simp only [upd_app, e0_app, o0_app, Nat.reduceEqDiff, reduceIte]); first | exact AWk.refl _ _ | exact AWk.int (by omega) | exact AWk.int (by rw [w64 (by omega) (by omega)]; omega) | exact AWk.grow rfl | exact AWk.nil _ | exact AWk.of (by (rw [take_all (okPr t.n) h]; simp [Bool.and_assoc, okPr]))))) (by simp only [go_sem, init_env', Nat.reduceEqDiff, Nat.reduceAdd, Nat.reduceMul, reduceIte, Nat.reduceLeDiff, Nat.reduceLT, Nat.reduceBEq, reduceCtorEq]; ((repeat' (first | exact ObjLe_o0 _ | exact ObjLe.rfl' _ | refine ObjLe_same ?_ | refine ObjLe_upd ?_ ?_ | refine ObjLe_new rfl ?_)) <;> rfl)))
        · have h : k = t.pres.length := by simp at h; omega
          subst h
          rw [List.take_length]
          have hok : (g1 && t.pres.all (okPr t.n)) = t.ok := by
            rw [← hg1, ← hg0]; unfold Tray.ok
            cases t.okHead <;> cases t.recs.all okRec <;> cases decide (t.pres.length ≤ 12) <;> rfl
          rw [hok]
          (repeat ((first | refine WV_seq_ ?_ | refine WV_block ?_ | refine WV_ops ?_ | refine WV_skip ?_ | refine WV_exit ?_); (try simp only [go_sem, init_env', Nat.reduceEqDiff, Nat.reduceAdd, Nat.reduceMul, reduceIte, Nat.reduceLeDiff, Nat.reduceLT, Nat.reduceBEq, reduceCtorEq, hP, ]); (repeat refine qI ?_)))
          cases t.ok
          · (refine WV_cond rfl (fun h => ?_) (fun h => ?_))
            · (repeat ((first | refine WV_seq_ ?_ | refine WV_block ?_ | refine WV_ops ?_ | refine WV_skip ?_ | refine WV_exit ?_); (try simp only [go_sem, init_env', Nat.reduceEqDiff, Nat.reduceAdd, Nat.reduceMul, reduceIte, Nat.reduceLeDiff, Nat.reduceLT, Nat.reduceBEq, reduceCtorEq, hP, ]); (repeat refine qI ?_)))
              (refine WV_ret ?_; simp only [thenQ, inQ, RetQ, RetOk, resAll, resA]; simp only [go_sem, init_env', Nat.reduceEqDiff, Nat.reduceAdd, Nat.reduceMul, reduceIte, Nat.reduceLeDiff, Nat.reduceLT, Nat.reduceBEq, reduceCtorEq, tupA, AV.port, AV.portL, exists_eq_left', ]; (first | exact AVle.of rfl | refine AVle.of ?_ | skip))
            · simp at h
          · (refine WV_cond rfl (fun h => ?_) (fun h => ?_))
            · simp at h
            · (repeat ((first | refine WV_seq_ ?_ | refine WV_block ?_ | refine WV_ops ?_ | refine WV_skip ?_ | refine WV_exit ?_); (try simp only [go_sem, init_env', Nat.reduceEqDiff, Nat.reduceAdd, Nat.reduceMul, reduceIte, Nat.reduceLeDiff, Nat.reduceLT, Nat.reduceBEq, reduceCtorEq, hP, ]); (repeat refine qI ?_)))
              (refine WV_ret ?_; simp only [thenQ, inQ, RetQ, RetOk, resAll, resA]; simp only [go_sem, init_env', Nat.reduceEqDiff, Nat.reduceAdd, Nat.reduceMul, reduceIte, Nat.reduceLeDiff, Nat.reduceLT, Nat.reduceBEq, reduceCtorEq, tupA, AV.port, AV.portL, exists_eq_left', ]; (first | exact AVle.of rfl | refine AVle.of ?_ | skip))

def presB (t : Tray) (most : Int) : Bool := decide ((t.pres.length : Int) ≤ most) && t.pres.all (okPr t.n)
set_option maxRecDepth 20000 in
set_option maxHeartbeats 8000000 in
theorem presses64 (t : Tray) (most : Int) (hn : t.n ≤ 1000) : FSpec Try.prog 64 [t.av, iv most] (iv (if presB t most then 0 else 20)) := by
  refine FSpec_of c64 (Nat.le_refl _) (by decide) fun C hP hN hC hL => ?_
  obtain ⟨h1, h2⟩ := Tray.lens hL
  simp only [ir64, Tray.av]
  (repeat ((first | refine WV_seq_ ?_ | refine WV_block ?_ | refine WV_ops ?_ | refine WV_skip ?_ | refine WV_exit ?_); (try simp only [go_sem, init_env', Nat.reduceEqDiff, Nat.reduceAdd, Nat.reduceMul, reduceIte, Nat.reduceLeDiff, Nat.reduceLT, Nat.reduceBEq, reduceCtorEq, hP, prsC, List.length_map]); (repeat refine qI ?_)))
  (refine WV_cond rfl (fun h => ?_) (fun h => ?_))
  · have h : most < (t.pres.length : Int) := by simpa using h
    (repeat ((first | refine WV_seq_ ?_ | refine WV_block ?_ | refine WV_ops ?_ | refine WV_skip ?_ | refine WV_exit ?_); (try simp only [go_sem, init_env', Nat.reduceEqDiff, Nat.reduceAdd, Nat.reduceMul, reduceIte, Nat.reduceLeDiff, Nat.reduceLT, Nat.reduceBEq, reduceCtorEq, hP, ]); (repeat refine qI ?_)))
    (refine WV_ret ?_; simp only [thenQ, inQ, RetQ, RetOk, resAll, resA]; simp only [go_sem, init_env', Nat.reduceEqDiff, Nat.reduceAdd, Nat.reduceMul, reduceIte, Nat.reduceLeDiff, Nat.reduceLT, Nat.reduceBEq, reduceCtorEq, tupA, AV.port, AV.portL, exists_eq_left', ]; (first | exact AVle.of rfl | refine AVle.of ?_ | skip))
    have : presB t most = false := by simp [presB]; intro h'; omega
    rw [this]; rfl
  have hm : (t.pres.length : Int) ≤ most := by simp at h; omega
  clear h
  have hpb : presB t most = t.pres.all (okPr t.n) := by unfold presB; rw [decide_eq_true hm]; rfl
  rw [hpb]
  (repeat ((first | refine WV_seq_ ?_ | refine WV_block ?_ | refine WV_ops ?_ | refine WV_skip ?_ | refine WV_exit ?_); (try simp only [go_sem, init_env', Nat.reduceEqDiff, Nat.reduceAdd, Nat.reduceMul, reduceIte, Nat.reduceLeDiff, Nat.reduceLT, Nat.reduceBEq, reduceCtorEq, hP, ]); (repeat refine qI ?_)))
  (refine WV_loopK K64_1 [] (fun k : Nat => k ≤ t.pres.length ∧ (t.pres.take k).all (okPr t.n) = true) (fun k => t.pres.length - k) (fun k => [(5, iv k)]) (fun _ => []) 0 ⟨Nat.zero_le _, by simp⟩ ?_ ?_)
  · exact Sub_au
  · intro k ⟨hk, ha⟩
    simp only [go_sem, init_env', Nat.reduceEqDiff, Nat.reduceAdd, Nat.reduceMul, reduceIte, Nat.reduceLeDiff, Nat.reduceLT, Nat.reduceBEq, reduceCtorEq]
    (repeat ((first | refine WV_seq_ ?_ | refine WV_block ?_ | refine WV_ops ?_ | refine WV_skip ?_ | refine WV_exit ?_); (try simp only [go_sem, init_env', Nat.reduceEqDiff, Nat.reduceAdd, Nat.reduceMul, reduceIte, Nat.reduceLeDiff, Nat.reduceLT, Nat.reduceBEq, reduceCtorEq, hP, prsC, List.length_map]); (repeat refine qI ?_)))
    (refine WV_cond rfl (fun h => ?_) (fun h => ?_))
    · have h : k < t.pres.length := by simpa using h
      have hkl := h
      have hI : (k : Int) < (t.pres.length : Int) := by omega
      have hw2 := w64 (n := (k : Int) + 1) (by omega) (by omega)
      (repeat ((first | refine WV_seq_ ?_ | refine WV_block ?_ | refine WV_ops ?_ | refine WV_skip ?_ | refine WV_exit ?_); (try simp only [go_sem, init_env', Nat.reduceEqDiff, Nat.reduceAdd, Nat.reduceMul, reduceIte, Nat.reduceLeDiff, Nat.reduceLT, Nat.reduceBEq, reduceCtorEq, hP, prsC, map_getD h, List.length_map, hI, Int.natCast_nonneg, Pr.cds]); (repeat refine qI ?_)))
      (refine AS_pure (risside17 t _ hn) rfl rfl rfl rfl rfl ?_; simp only [go_sem, init_env', Nat.reduceEqDiff, Nat.reduceAdd, Nat.reduceMul, reduceIte, Nat.reduceLeDiff, Nat.reduceLT, Nat.reduceBEq, reduceCtorEq, hP, Tray.av, prsC, map_getD h, List.length_map, hI, Int.natCast_nonneg, Pr.cds]; (repeat refine qI ?_); (repeat ((first | refine WV_seq_ ?_ | refine WV_block ?_ | refine WV_ops ?_ | refine WV_skip ?_ | refine WV_exit ?_); (try simp only [go_sem, init_env', Nat.reduceEqDiff, Nat.reduceAdd, Nat.reduceMul, reduceIte, Nat.reduceLeDiff, Nat.reduceLT, Nat.reduceBEq, reduceCtorEq, hP, Tray.av, prsC, map_getD h, List.length_map, hI, Int.natCast_nonneg, Pr.cds]); (repeat refine qI ?_))))
      (refine AG_pure (fun hG => ristime18 _) rfl (fun hG => by first | (simp only [go_sem, init_env', Nat.reduceEqDiff, Nat.reduceAdd, Nat.reduceMul, reduceIte, Nat.reduceLeDiff, Nat.reduceLT, Nat.reduceBEq, reduceCtorEq, hG]; done) | (simp only [go_sem, init_env', Nat.reduceEqDiff, Nat.reduceAdd, Nat.reduceMul, reduceIte, Nat.reduceLeDiff, Nat.reduceLT, Nat.reduceBEq, reduceCtorEq]; revert hG; simp; done) | (simp only [go_sem, init_env', Nat.reduceEqDiff, Nat.reduceAdd, Nat.reduceMul, reduceIte, Nat.reduceLeDiff, Nat.reduceLT, Nat.reduceBEq, reduceCtorEq, hG]; simp_all; done) | (revert hG; simp; done) | simp_all) rfl rfl rfl ?_; simp only [go_sem, init_env', Nat.reduceEqDiff, Nat.reduceAdd, Nat.reduceMul, reduceIte, Nat.reduceLeDiff, Nat.reduceLT, Nat.reduceBEq, reduceCtorEq, hP, ]; (repeat refine qI ?_); (repeat ((first | refine WV_seq_ ?_ | refine WV_block ?_ | refine WV_ops ?_ | refine WV_skip ?_ | refine WV_exit ?_); (try simp only [go_sem, init_env', Nat.reduceEqDiff, Nat.reduceAdd, Nat.reduceMul, reduceIte, Nat.reduceLeDiff, Nat.reduceLT, Nat.reduceBEq, reduceCtorEq, hP, ]); (repeat refine qI ?_))))
      have hb : (!isSide t.n t.pres[k].side || !isTime t.pres[k].time) = !okPr t.n t.pres[k] := by unfold okPr; cases isSide t.n t.pres[k].side <;> cases isTime t.pres[k].time <;> rfl
      rw [hb]
      cases hbb : okPr t.n t.pres[k]
      · (refine WV_cond rfl (fun h => ?_) (fun h => ?_))
        · (repeat ((first | refine WV_seq_ ?_ | refine WV_block ?_ | refine WV_ops ?_ | refine WV_skip ?_ | refine WV_exit ?_); (try simp only [go_sem, init_env', Nat.reduceEqDiff, Nat.reduceAdd, Nat.reduceMul, reduceIte, Nat.reduceLeDiff, Nat.reduceLT, Nat.reduceBEq, reduceCtorEq, hP, ]); (repeat refine qI ?_)))
          (refine WV_ret ?_; simp only [thenQ, inQ, RetQ, RetOk, resAll, resA]; simp only [go_sem, init_env', Nat.reduceEqDiff, Nat.reduceAdd, Nat.reduceMul, reduceIte, Nat.reduceLeDiff, Nat.reduceLT, Nat.reduceBEq, reduceCtorEq, tupA, AV.port, AV.portL, exists_eq_left', ]; (first | exact AVle.of rfl | refine AVle.of ?_ | skip))
          have : t.pres.all (okPr t.n) = false := List.all_eq_false.2 ⟨_, List.getElem_mem hkl, by simp [hbb]⟩
          rw [this]; rfl
        · simp at h
      · (refine WV_cond rfl (fun h => ?_) (fun h => ?_))
        · simp at h
        · (repeat ((first | refine WV_seq_ ?_ | refine WV_block ?_ | refine WV_ops ?_ | refine WV_skip ?_ | refine WV_exit ?_); (try simp only [go_sem, init_env', Nat.reduceEqDiff, Nat.reduceAdd, Nat.reduceMul, reduceIte, Nat.reduceLeDiff, Nat.reduceLT, Nat.reduceBEq, reduceCtorEq, hP, hw2]); (repeat refine qI ?_)))
          refine ⟨k + 1, ⟨by omega, by rw [take_all (okPr t.n) (by assumption), ha, hbb]; rfl⟩, by omega, ?_⟩
          exact Sub_au
    · have h : k = t.pres.length := by simp at h; omega
      subst h
      rw [List.take_length] at ha
      (repeat ((first | refine WV_seq_ ?_ | refine WV_block ?_ | refine WV_ops ?_ | refine WV_skip ?_ | refine WV_exit ?_); (try simp only [go_sem, init_env', Nat.reduceEqDiff, Nat.reduceAdd, Nat.reduceMul, reduceIte, Nat.reduceLeDiff, Nat.reduceLT, Nat.reduceBEq, reduceCtorEq, hP, ]); (repeat refine qI ?_)))
      (refine WV_ret ?_; simp only [thenQ, inQ, RetQ, RetOk, resAll, resA]; simp only [go_sem, init_env', Nat.reduceEqDiff, Nat.reduceAdd, Nat.reduceMul, reduceIte, Nat.reduceLeDiff, Nat.reduceLT, Nat.reduceBEq, reduceCtorEq, tupA, AV.port, AV.portL, exists_eq_left', ]; (first | exact AVle.of rfl | refine AVle.of ?_ | skip))
      rw [ha]; rfl

set_option maxRecDepth 20000 in
set_option maxHeartbeats 8000000 in
theorem rcheck41 (t : Tray) : FSpec Try.prog 41 [t.av] (iv (if t.ok then 0 else 20)) := by
  refine FSpec_of c41 (Nat.le_refl _) (by decide) fun C hP hN hC hL => ?_
  obtain ⟨h1, h2⟩ := Tray.lens hL
  have hn' : t.recs.length = t.n := rfl
  simp only [ir41, Tray.av]
  have w1 := w64 (n := (t.n : Int) - 1) (by omega) (by omega)
  (repeat ((first | refine WV_seq_ ?_ | refine WV_block ?_ | refine WV_ops ?_ | refine WV_skip ?_ | refine WV_exit ?_); (try simp only [go_sem, init_env', Nat.reduceEqDiff, Nat.reduceAdd, Nat.reduceMul, reduceIte, Nat.reduceLeDiff, Nat.reduceLT, Nat.reduceBEq, reduceCtorEq, hP, recsC, List.length_map, hn']); (repeat refine qI ?_)))
  (refine AS_pure (wi51 _ _ _) rfl rfl rfl rfl rfl ?_; simp only [go_sem, init_env', Nat.reduceEqDiff, Nat.reduceAdd, Nat.reduceMul, reduceIte, Nat.reduceLeDiff, Nat.reduceLT, Nat.reduceBEq, reduceCtorEq, hP, w1, recsC, List.length_map, hn']; (repeat refine qI ?_); (repeat ((first | refine WV_seq_ ?_ | refine WV_block ?_ | refine WV_ops ?_ | refine WV_skip ?_ | refine WV_exit ?_); (try simp only [go_sem, init_env', Nat.reduceEqDiff, Nat.reduceAdd, Nat.reduceMul, reduceIte, Nat.reduceLeDiff, Nat.reduceLT, Nat.reduceBEq, reduceCtorEq, hP, w1, recsC, List.length_map, hn']); (repeat refine qI ?_))))
  (refine AG_pure (fun hG => wi51 _ _ _) rfl (fun hG => by first | (simp only [go_sem, init_env', Nat.reduceEqDiff, Nat.reduceAdd, Nat.reduceMul, reduceIte, Nat.reduceLeDiff, Nat.reduceLT, Nat.reduceBEq, reduceCtorEq, hG]; done) | (simp only [go_sem, init_env', Nat.reduceEqDiff, Nat.reduceAdd, Nat.reduceMul, reduceIte, Nat.reduceLeDiff, Nat.reduceLT, Nat.reduceBEq, reduceCtorEq]; revert hG; simp; done) | (simp only [go_sem, init_env', Nat.reduceEqDiff, Nat.reduceAdd, Nat.reduceMul, reduceIte, Nat.reduceLeDiff, Nat.reduceLT, Nat.reduceBEq, reduceCtorEq, hG]; simp_all; done) | (revert hG; simp; done) | simp_all) rfl rfl rfl ?_; simp only [go_sem, init_env', Nat.reduceEqDiff, Nat.reduceAdd, Nat.reduceMul, reduceIte, Nat.reduceLeDiff, Nat.reduceLT, Nat.reduceBEq, reduceCtorEq, hP, ]; (repeat refine qI ?_); (repeat ((first | refine WV_seq_ ?_ | refine WV_block ?_ | refine WV_ops ?_ | refine WV_skip ?_ | refine WV_exit ?_); (try simp only [go_sem, init_env', Nat.reduceEqDiff, Nat.reduceAdd, Nat.reduceMul, reduceIte, Nat.reduceLeDiff, Nat.reduceLT, Nat.reduceBEq, reduceCtorEq, hP, ]); (repeat refine qI ?_))))
  (refine AG_pure (fun hG => wi51 _ _ _) rfl (fun hG => by first | (simp only [go_sem, init_env', Nat.reduceEqDiff, Nat.reduceAdd, Nat.reduceMul, reduceIte, Nat.reduceLeDiff, Nat.reduceLT, Nat.reduceBEq, reduceCtorEq, hG]; done) | (simp only [go_sem, init_env', Nat.reduceEqDiff, Nat.reduceAdd, Nat.reduceMul, reduceIte, Nat.reduceLeDiff, Nat.reduceLT, Nat.reduceBEq, reduceCtorEq]; revert hG; simp; done) | (simp only [go_sem, init_env', Nat.reduceEqDiff, Nat.reduceAdd, Nat.reduceMul, reduceIte, Nat.reduceLeDiff, Nat.reduceLT, Nat.reduceBEq, reduceCtorEq, hG]; simp_all; done) | (revert hG; simp; done) | simp_all) rfl rfl rfl ?_; simp only [go_sem, init_env', Nat.reduceEqDiff, Nat.reduceAdd, Nat.reduceMul, reduceIte, Nat.reduceLeDiff, Nat.reduceLT, Nat.reduceBEq, reduceCtorEq, hP, ]; (repeat refine qI ?_); (repeat ((first | refine WV_seq_ ?_ | refine WV_block ?_ | refine WV_ops ?_ | refine WV_skip ?_ | refine WV_exit ?_); (try simp only [go_sem, init_env', Nat.reduceEqDiff, Nat.reduceAdd, Nat.reduceMul, reduceIte, Nat.reduceLeDiff, Nat.reduceLT, Nat.reduceBEq, reduceCtorEq, hP, ]); (repeat refine qI ?_))))
  have hh : (!within (t.n : Int) 1 6 || (!within t.at_ 0 ((t.n : Int) - 1) || ((t.way != 1 && t.way != -1) || !within t.step 0 60))) = !t.okHead := by
    unfold Tray.okHead
    cases within (t.n : Int) 1 6 <;> cases within t.at_ 0 ((t.n : Int) - 1) <;> cases within t.step 0 60 <;> cases h5 : (t.way == 1) <;> cases h6 : (t.way == -1) <;> simp [bne, h5, h6]
  have hh2 : (((!within (t.n : Int) 1 6 || !within t.at_ 0 ((t.n : Int) - 1)) || (t.way != 1 && t.way != -1)) || !within t.step 0 60) = !t.okHead := by
    rw [← hh]; simp only [Bool.or_assoc]
  rw [hh2]
  cases hhd : t.okHead
  · (refine WV_cond rfl (fun h => ?_) (fun h => ?_))
    · (repeat ((first | refine WV_seq_ ?_ | refine WV_block ?_ | refine WV_ops ?_ | refine WV_skip ?_ | refine WV_exit ?_); (try simp only [go_sem, init_env', Nat.reduceEqDiff, Nat.reduceAdd, Nat.reduceMul, reduceIte, Nat.reduceLeDiff, Nat.reduceLT, Nat.reduceBEq, reduceCtorEq, hP, ]); (repeat refine qI ?_)))
      (refine WV_ret ?_; simp only [thenQ, inQ, RetQ, RetOk, resAll, resA]; simp only [go_sem, init_env', Nat.reduceEqDiff, Nat.reduceAdd, Nat.reduceMul, reduceIte, Nat.reduceLeDiff, Nat.reduceLT, Nat.reduceBEq, reduceCtorEq, tupA, AV.port, AV.portL, exists_eq_left', ]; (first | exact AVle.of rfl | refine AVle.of ?_ | skip))
      simp [Tray.ok, hhd]
    · simp at h
  (refine WV_cond rfl (fun h => ?_) (fun h => ?_))
  · simp at h
  clear h
  have hn6 : t.n ≤ 6 := by
    simp only [Tray.okHead, within, Bool.and_eq_true, decide_eq_true_eq] at hhd
    omega
  have hok : t.ok = (t.recs.all okRec && presB t 12) := by
    unfold Tray.ok presB
    rw [hhd]
    have e : decide ((t.pres.length : Int) ≤ 12) = decide (t.pres.length ≤ 12) := by simp; omega
    rw [e]
    cases t.recs.all okRec <;> cases decide (t.pres.length ≤ 12) <;> rfl
  rw [hok]
  (repeat ((first | refine WV_seq_ ?_ | refine WV_block ?_ | refine WV_ops ?_ | refine WV_skip ?_ | refine WV_exit ?_); (try simp only [go_sem, init_env', Nat.reduceEqDiff, Nat.reduceAdd, Nat.reduceMul, reduceIte, Nat.reduceLeDiff, Nat.reduceLT, Nat.reduceBEq, reduceCtorEq, hP, ]); (repeat refine qI ?_)))
  (refine WV_loopK K41_1 [] (fun k : Nat => k ≤ t.n ∧ (t.recs.take k).all okRec = true) (fun k => t.n - k) (fun k => [(3, iv k)]) (fun _ => []) 0 ⟨Nat.zero_le _, by simp⟩ ?_ ?_)
  · exact Sub_au
  · intro k ⟨hk, ha⟩
    simp only [go_sem, init_env', Nat.reduceEqDiff, Nat.reduceAdd, Nat.reduceMul, reduceIte, Nat.reduceLeDiff, Nat.reduceLT, Nat.reduceBEq, reduceCtorEq]
    (repeat ((first | refine WV_seq_ ?_ | refine WV_block ?_ | refine WV_ops ?_ | refine WV_skip ?_ | refine WV_exit ?_); (try simp only [go_sem, init_env', Nat.reduceEqDiff, Nat.reduceAdd, Nat.reduceMul, reduceIte, Nat.reduceLeDiff, Nat.reduceLT, Nat.reduceBEq, reduceCtorEq, hP, recsC, List.length_map, hn']); (repeat refine qI ?_)))
    (refine WV_cond rfl (fun h => ?_) (fun h => ?_))
    · have h : k < t.recs.length := by simp at h; omega
      have hkl := h
      have hI : (k : Int) < (t.n : Int) := by omega
      have hw2 := w64 (n := (k : Int) + 1) (by omega) (by omega)
      (repeat ((first | refine WV_seq_ ?_ | refine WV_block ?_ | refine WV_ops ?_ | refine WV_skip ?_ | refine WV_exit ?_); (try simp only [go_sem, init_env', Nat.reduceEqDiff, Nat.reduceAdd, Nat.reduceMul, reduceIte, Nat.reduceLeDiff, Nat.reduceLT, Nat.reduceBEq, reduceCtorEq, hP, recsC, map_getD h, List.length_map, hn', hI, Int.natCast_nonneg, Rec.cds]); (repeat refine qI ?_)))
      (refine AS_pure (wi51 _ _ _) rfl rfl rfl rfl rfl ?_; simp only [go_sem, init_env', Nat.reduceEqDiff, Nat.reduceAdd, Nat.reduceMul, reduceIte, Nat.reduceLeDiff, Nat.reduceLT, Nat.reduceBEq, reduceCtorEq, hP, recsC, map_getD h, List.length_map, hn', hI, Int.natCast_nonneg, Rec.cds]; (repeat refine qI ?_); (repeat ((first | refine WV_seq_ ?_ | refine WV_block ?_ | refine WV_ops ?_ | refine WV_skip ?_ | refine WV_exit ?_); (try simp only [go_sem, init_env', Nat.reduceEqDiff, Nat.reduceAdd, Nat.reduceMul, reduceIte, Nat.reduceLeDiff, Nat.reduceLT, Nat.reduceBEq, reduceCtorEq, hP, recsC, map_getD h, List.length_map, hn', hI, Int.natCast_nonneg, Rec.cds]); (repeat refine qI ?_))))
      (refine AG_pure (fun hG => wi51 _ _ _) rfl (fun hG => by first | (simp only [go_sem, init_env', Nat.reduceEqDiff, Nat.reduceAdd, Nat.reduceMul, reduceIte, Nat.reduceLeDiff, Nat.reduceLT, Nat.reduceBEq, reduceCtorEq, hG]; done) | (simp only [go_sem, init_env', Nat.reduceEqDiff, Nat.reduceAdd, Nat.reduceMul, reduceIte, Nat.reduceLeDiff, Nat.reduceLT, Nat.reduceBEq, reduceCtorEq]; revert hG; simp; done) | (simp only [go_sem, init_env', Nat.reduceEqDiff, Nat.reduceAdd, Nat.reduceMul, reduceIte, Nat.reduceLeDiff, Nat.reduceLT, Nat.reduceBEq, reduceCtorEq, hG]; simp_all; done) | (revert hG; simp; done) | simp_all) rfl rfl rfl ?_; simp only [go_sem, init_env', Nat.reduceEqDiff, Nat.reduceAdd, Nat.reduceMul, reduceIte, Nat.reduceLeDiff, Nat.reduceLT, Nat.reduceBEq, reduceCtorEq, hP, ]; (repeat refine qI ?_); (repeat ((first | refine WV_seq_ ?_ | refine WV_block ?_ | refine WV_ops ?_ | refine WV_skip ?_ | refine WV_exit ?_); (try simp only [go_sem, init_env', Nat.reduceEqDiff, Nat.reduceAdd, Nat.reduceMul, reduceIte, Nat.reduceLeDiff, Nat.reduceLT, Nat.reduceBEq, reduceCtorEq, hP, ]); (repeat refine qI ?_))))
      have hb : (!within t.recs[k].front 1 999 || !within t.recs[k].back 1 999) = !okRec t.recs[k] := by unfold okRec; cases within t.recs[k].front 1 999 <;> cases within t.recs[k].back 1 999 <;> rfl
      rw [hb]
      cases hbb : okRec t.recs[k]
      · (refine WV_cond rfl (fun h => ?_) (fun h => ?_))
        · (repeat ((first | refine WV_seq_ ?_ | refine WV_block ?_ | refine WV_ops ?_ | refine WV_skip ?_ | refine WV_exit ?_); (try simp only [go_sem, init_env', Nat.reduceEqDiff, Nat.reduceAdd, Nat.reduceMul, reduceIte, Nat.reduceLeDiff, Nat.reduceLT, Nat.reduceBEq, reduceCtorEq, hP, ]); (repeat refine qI ?_)))
          (refine WV_ret ?_; simp only [thenQ, inQ, RetQ, RetOk, resAll, resA]; simp only [go_sem, init_env', Nat.reduceEqDiff, Nat.reduceAdd, Nat.reduceMul, reduceIte, Nat.reduceLeDiff, Nat.reduceLT, Nat.reduceBEq, reduceCtorEq, tupA, AV.port, AV.portL, exists_eq_left', ]; (first | exact AVle.of rfl | refine AVle.of ?_ | skip))
          have : t.recs.all okRec = false := List.all_eq_false.2 ⟨_, List.getElem_mem hkl, by simp [hbb]⟩
          rw [this]; rfl
        · simp at h
      · (refine WV_cond rfl (fun h => ?_) (fun h => ?_))
        · simp at h
        · (repeat ((first | refine WV_seq_ ?_ | refine WV_block ?_ | refine WV_ops ?_ | refine WV_skip ?_ | refine WV_exit ?_); (try simp only [go_sem, init_env', Nat.reduceEqDiff, Nat.reduceAdd, Nat.reduceMul, reduceIte, Nat.reduceLeDiff, Nat.reduceLT, Nat.reduceBEq, reduceCtorEq, hP, hw2]); (repeat refine qI ?_)))
          refine ⟨k + 1, ⟨by omega, by rw [take_all okRec (by assumption), ha, hbb]; rfl⟩, by omega, ?_⟩
          exact Sub_au
    · have h : k = t.recs.length := by simp at h; omega
      subst h
      rw [List.take_length] at ha
      (repeat ((first | refine WV_seq_ ?_ | refine WV_block ?_ | refine WV_ops ?_ | refine WV_skip ?_ | refine WV_exit ?_); (try simp only [go_sem, init_env', Nat.reduceEqDiff, Nat.reduceAdd, Nat.reduceMul, reduceIte, Nat.reduceLeDiff, Nat.reduceLT, Nat.reduceBEq, reduceCtorEq, hP, ]); (repeat refine qI ?_)))
      (refine AS_pure (presses64 t 12 (by omega)) rfl rfl rfl rfl rfl ?_; simp only [go_sem, init_env', Nat.reduceEqDiff, Nat.reduceAdd, Nat.reduceMul, reduceIte, Nat.reduceLeDiff, Nat.reduceLT, Nat.reduceBEq, reduceCtorEq, hP, Tray.av, recsC]; (repeat refine qI ?_); (repeat ((first | refine WV_seq_ ?_ | refine WV_block ?_ | refine WV_ops ?_ | refine WV_skip ?_ | refine WV_exit ?_); (try simp only [go_sem, init_env', Nat.reduceEqDiff, Nat.reduceAdd, Nat.reduceMul, reduceIte, Nat.reduceLeDiff, Nat.reduceLT, Nat.reduceBEq, reduceCtorEq, hP, Tray.av, recsC]); (repeat refine qI ?_))))
      (refine WV_ret ?_; simp only [thenQ, inQ, RetQ, RetOk, resAll, resA]; simp only [go_sem, init_env', Nat.reduceEqDiff, Nat.reduceAdd, Nat.reduceMul, reduceIte, Nat.reduceLeDiff, Nat.reduceLT, Nat.reduceBEq, reduceCtorEq, tupA, AV.port, AV.portL, exists_eq_left', ]; (first | exact AVle.of rfl | refine AVle.of ?_ | skip))
      rw [ha]; simp

end Go.Proofs.Ytkpgpgaojjobgaa

/-
  The carriage: plain.
-/
namespace Go.Proofs.Ytkpgpgaojjobgaa
open Go Go.V

/-- From a time on the carriage does something. -/
structure Sp where
  at_ : Int
  way : Int
  side : Int
  from_ : Int
  deriving DecidableEq, Inhabited
def Sp.cds (s : Sp) : List CD := [.int .i64 s.at_, .int .i64 s.way, .int .i64 s.side, .int .i64 s.from_]
def wayI (up : Bool) : Int := if up then 1 else -1
theorem wayI_cases (up : Bool) : wayI up = 1 ∨ wayI up = -1 := by cases up <;> simp [wayI]
structure Cs where
  q : List Pr
  pins : List Bool
  now : Int
  at_ : Nat
  up : Bool
  side : Int
  spells : List Sp
  plays : List Pr
  steps : Int
  end_ : Int
  deriving DecidableEq, Inhabited

def sideAt (k : Nat) (up : Bool) : Nat := if up then 2 * k else 2 * k + 1
def Tray.rc (t : Tray) (k : Nat) : Rec := t.recs.getD k default
def secs (t : Tray) (s : Nat) : Int := if s % 2 = 0 then (t.rc (s / 2)).front else (t.rc (s / 2)).back

def Cs.mark (s : Cs) (side : Int) : Cs := { s with side := side, spells := s.spells ++ [⟨s.at_, wayI s.up, side, s.now⟩] }
def pressQ (now : Int) : List Pr → List Bool → List Pr × List Bool
  | [], pins => ([], pins)
  | p :: q, pins => if p.time ≤ now then pressQ now q (pins.set p.side.toNat true) else (p :: q, pins)
def Cs.press (s : Cs) : Cs := { s with q := (pressQ s.now s.q s.pins).1, pins := (pressQ s.now s.q s.pins).2 }
/-- One place on, or the other way. -/
def Cs.move (t : Tray) (s : Cs) : Cs :=
  if s.up then (if s.at_ + 1 < t.n then { s with at_ := s.at_ + 1, now := s.now + t.step, steps := s.steps + 1 } else { s with up := false })
  else (if 0 < s.at_ then { s with at_ := s.at_ - 1, now := s.now + t.step, steps := s.steps + 1 } else { s with up := true })
def Cs.next (t : Tray) (s : Cs) : Cs := (s.move t).mark (-1)
def Cs.pos (s : Cs) : Nat := sideAt s.at_ s.up
/-- The side at the place is played, if it is asked for. -/
def Cs.play1 (s : Cs) : Cs := ({ s with pins := s.pins.set s.pos false, plays := s.plays ++ [⟨s.pos, s.now⟩] } : Cs).mark s.pos
def Cs.play2 (t : Tray) (s : Cs) : Cs := ({ s with now := s.now + secs t s.pos, end_ := s.now + secs t s.pos } : Cs).mark (-1)
def Cs.play (t : Tray) (s : Cs) : Cs := if s.pins.getD s.pos false = true then (s.play1).play2 t else s
/-- What is to be done behind the presses. -/
def Cs.act1 (t : Tray) (s : Cs) : Option Cs :=
  if s.pins.all (!·) then (match s.q with | [] => none | p :: _ => some { s with now := p.time }) else some ((s.play t).next t)
def Cs.act (t : Tray) (s : Cs) : Option Cs := s.press.act1 t
def iter (t : Tray) : Nat → Cs → Cs
  | 0, s => s
  | k + 1, s => match s.act t with | none => s.press | some s' => iter t k s'
def start (t : Tray) (q : List Pr) : Cs := ⟨q, List.replicate (2 * t.n) false, 0, t.at_.toNat, t.way == 1, -1, [], [], 0, 0⟩
def goesWith (t : Tray) (q : List Pr) : Cs := iter t 250 ((start t q).mark (-1))

/-! ### It comes to an end -/
/-- The place in the round: up, and down again. -/
def cyc (n : Nat) (k : Nat) (up : Bool) : Nat := if up then k else 2 * n - 1 - k
def cycOf (n : Nat) (s : Nat) : Nat := cyc n (s / 2) (s % 2 == 0)
theorem cycOf_side (n k : Nat) (up : Bool) : cycOf n (sideAt k up) = cyc n k up := by
  unfold cycOf sideAt
  cases up
  · have h1 : (2 * k + 1) / 2 = k := by omega
    have h2 : ((2 * k + 1) % 2 == 0) = false := by simp
    simp only [Bool.false_eq_true, if_false, h1, h2]
  · have h1 : (2 * k) / 2 = k := by omega
    have h2 : ((2 * k) % 2 == 0) = true := by simp
    simp only [if_true, h1, h2]
theorem cycOf_lt {n s : Nat} (h : s < 2 * n) : cycOf n s < 2 * n := by
  unfold cycOf cyc
  split <;> omega
theorem cycOf_inj {n s s' : Nat} (h : s < 2 * n) (h' : s' < 2 * n) (e : cycOf n s = cycOf n s') : s = s' := by
  unfold cycOf cyc at e
  by_cases h1 : s % 2 = 0 <;> by_cases h2 : s' % 2 = 0 <;> simp [h1, h2] at e <;> omega
/-- How far it is to go. -/
def dist (n c d : Nat) : Nat := if c ≤ d then d - c else d + 2 * n - c
theorem dist_lt {n c d : Nat} (hc : c < 2 * n) (hd : d < 2 * n) : dist n c d < 2 * n := by unfold dist; split <;> omega
/-- The next place in the round. -/
def cycNext (n c : Nat) : Nat := if c + 1 = 2 * n then 0 else c + 1
theorem dist_next {n c d : Nat} (hc : c < 2 * n) (hd : d < 2 * n) (h : c ≠ d) : dist n (cycNext n c) d + 1 = dist n c d := by
  unfold dist cycNext; split <;> split <;> split <;> omega

structure CsOk (t : Tray) (s : Cs) : Prop where
  at_ : s.at_ < t.n
  pins : s.pins.length = 2 * t.n
  q : ∀ p ∈ s.q, (0 ≤ p.side ∧ p.side < 2 * (t.n : Int)) ∧ (0 ≤ p.time ∧ p.time ≤ 9999)
  now : 0 ≤ s.now
  sorted : s.q.Pairwise fun a b => a.time ≤ b.time

/-- What is still to go for the pins that are set. -/
def pinsW (n c : Nat) (pins : List Bool) : Nat := ((List.range pins.length).map fun s => if pins.getD s false then dist n c (cycOf n s) + 1 else 0).sum
def jW (s : Cs) : Nat := match s.q with | [] => 0 | p :: _ => if s.now < p.time then 1 else 0
def Cs.c (t : Tray) (s : Cs) : Nat := cyc t.n s.at_ s.up
def mu (t : Tray) (s : Cs) : Nat := (2 * t.n + 2) * s.q.length + pinsW t.n (s.c t) s.pins + jW s

theorem sum_pt {l : List Nat} {f g : Nat → Nat} (h : ∀ i ∈ l, f i ≤ g i) : (l.map f).sum ≤ (l.map g).sum := by
  induction l with
  | nil => simp
  | cons a l ih =>
    simp only [List.map_cons, List.sum_cons]
    have := h a (by simp)
    have := ih fun i hi => h i (by simp [hi])
    omega
theorem sum_one {l : List Nat} (hn : l.Nodup) {f g : Nat → Nat} {k d : Nat} (h : ∀ i ∈ l, i ≠ k → f i ≤ g i) (hk : f k ≤ g k + d) : (l.map f).sum ≤ (l.map g).sum + d := by
  induction l with
  | nil => simp
  | cons a l ih =>
    have hn' := List.nodup_cons.1 hn
    simp only [List.map_cons, List.sum_cons]
    by_cases e : a = k
    · subst e
      have : (l.map f).sum ≤ (l.map g).sum := sum_pt fun i hi => h i (by simp [hi]) (fun e => hn'.1 (e ▸ hi))
      omega
    · have h1 := h a (by simp) e
      have := ih hn'.2 fun i hi hne => h i (by simp [hi]) hne
      omega
theorem sum_lt {l : List Nat} {f g : Nat → Nat} (h : ∀ i ∈ l, f i ≤ g i) {k : Nat} (hm : k ∈ l) (hk : f k < g k) : (l.map f).sum < (l.map g).sum := by
  induction l with
  | nil => cases hm
  | cons a l ih =>
    simp only [List.map_cons, List.sum_cons]
    rcases List.mem_cons.1 hm with rfl | hm
    · have := sum_pt (l := l) (f := f) (g := g) fun i hi => h i (by simp [hi])
      omega
    · have h1 := h a (by simp)
      have := ih (fun i hi => h i (by simp [hi])) hm
      omega

theorem pressQ_len (now : Int) : ∀ (q : List Pr) (pins : List Bool), (pressQ now q pins).2.length = pins.length
  | [], pins => rfl
  | p :: q, pins => by
    simp only [pressQ]
    split
    · rw [pressQ_len now q]; simp
    · rfl
theorem pressQ_suffix (now : Int) : ∀ (q : List Pr) (pins : List Bool), ∃ k, (pressQ now q pins).1 = q.drop k
  | [], pins => ⟨0, rfl⟩
  | p :: q, pins => by
    simp only [pressQ]
    split
    · obtain ⟨k, h⟩ := pressQ_suffix now q (pins.set p.side.toNat true)
      exact ⟨k + 1, by rw [h]; rfl⟩
    · exact ⟨0, rfl⟩
theorem pressQ_head (now : Int) : ∀ (q : List Pr) (pins : List Bool), ∀ p q', (pressQ now q pins).1 = p :: q' → now < p.time
  | [], pins, p, q', h => by cases h
  | a :: q, pins, p, q', h => by
    simp only [pressQ] at h
    split at h
    · exact pressQ_head now q _ p q' h
    · rename_i hn
      simp only [List.cons.injEq] at h
      obtain ⟨rfl, _⟩ := h
      omega
theorem CsOk.press {t : Tray} {s : Cs} (h : CsOk t s) : CsOk t s.press := by
  obtain ⟨k, hk⟩ := pressQ_suffix s.now s.q s.pins
  refine ⟨h.at_, by simp only [Cs.press]; rw [pressQ_len]; exact h.pins, fun p hp => ?_, h.now, ?_⟩
  · simp only [Cs.press, hk] at hp
    exact h.q p (List.mem_of_mem_drop hp)
  · simp only [Cs.press, hk]
    exact h.sorted.sublist (List.drop_sublist _ _)
theorem pinsW_set {n c : Nat} {pins : List Bool} {k : Nat} (hc : c < 2 * n) (hl : pins.length = 2 * n) (hk : k < 2 * n) : pinsW n c (pins.set k true) ≤ pinsW n c pins + 2 * n := by
  unfold pinsW
  rw [List.length_set]
  refine sum_one (k := k) List.nodup_range (fun i _ hne => ?_) ?_
  · have e2 : (pins.set k true).getD i false = pins.getD i false := by
      rw [List.getD_eq_getElem?_getD, List.getElem?_set, if_neg (fun e => hne e.symm), ← List.getD_eq_getElem?_getD]
    rw [e2]
    exact Nat.le_refl _
  · have := dist_lt hc (cycOf_lt (n := n) (s := k) (by omega))
    split <;> omega
theorem pressQ_mu {n c : Nat} (hc : c < 2 * n) (now : Int) : ∀ (q : List Pr) (pins : List Bool), pins.length = 2 * n → (∀ p ∈ q, 0 ≤ p.side ∧ p.side < 2 * (n : Int)) →
    (2 * n + 2) * (pressQ now q pins).1.length + pinsW n c (pressQ now q pins).2 + 2 * (q.length - (pressQ now q pins).1.length) ≤ (2 * n + 2) * q.length + pinsW n c pins ∧ (pressQ now q pins).1.length ≤ q.length
  | [], pins, _, _ => by simp [pressQ]
  | p :: q, pins, hl, h => by
    simp only [pressQ]
    split
    · have hp := h p (by simp)
      have ih := pressQ_mu hc now q (pins.set p.side.toNat true) (by simpa using hl) fun x hx => h x (by simp [hx])
      have hs := pinsW_set hc hl (k := p.side.toNat) (by omega)
      obtain ⟨i1, i2⟩ := ih
      simp only [List.length_cons]
      have e : (2 * n + 2) * (q.length + 1) = (2 * n + 2) * q.length + (2 * n + 2) := Nat.mul_succ _ _
      rw [e]
      generalize (2 * n + 2) * q.length = A at *
      generalize (2 * n + 2) * (pressQ now q (pins.set p.side.toNat true)).1.length = B at *
      constructor <;> omega
    · simp
theorem cyc_lt {n k : Nat} {up : Bool} (h : k < n) : cyc n k up < 2 * n := by unfold cyc; split <;> omega
theorem Cs.c_lt {t : Tray} {s : Cs} (h : CsOk t s) : s.c t < 2 * t.n := cyc_lt h.at_
theorem mu_press {t : Tray} {s : Cs} (h : CsOk t s) : (2 * t.n + 2) * s.press.q.length + pinsW t.n (s.press.c t) s.press.pins + 2 * (s.q.length - s.press.q.length) ≤ (2 * t.n + 2) * s.q.length + pinsW t.n (s.c t) s.pins ∧ s.press.q.length ≤ s.q.length :=
  pressQ_mu (Cs.c_lt h) s.now s.q s.pins h.pins fun p hp => (h.q p hp).1
theorem pos_lt {t : Tray} {s : Cs} (h : CsOk t s) : s.pos < 2 * t.n := by have := h.at_; unfold Cs.pos sideAt; split <;> omega
theorem cyc_pos (t : Tray) (s : Cs) : cycOf t.n s.pos = s.c t := cycOf_side _ _ _
/-- The place moves on. -/
theorem move_c {t : Tray} {s : Cs} (h : s.at_ < t.n) : (s.move t).c t = cycNext t.n (s.c t) ∧ (s.move t).at_ < t.n := by
  unfold Cs.move Cs.c cycNext cyc
  cases hu : s.up
  · by_cases h0 : 0 < s.at_
    · simp [hu, h0]; repeat' (first | omega | split | apply And.intro)
    · simp [hu, h0]; repeat' (first | omega | split | apply And.intro)
  · by_cases h1 : s.at_ + 1 < t.n
    · simp [hu, h1]; repeat' (first | omega | split | apply And.intro)
    · simp [hu, h1]; repeat' (first | omega | split | apply And.intro)
theorem move_q (t : Tray) (s : Cs) : (s.move t).q = s.q ∧ (s.move t).pins = s.pins ∧ (s.move t).plays = s.plays ∧ (s.move t).spells = s.spells ∧ (s.move t).end_ = s.end_ := by
  unfold Cs.move
  split <;> split <;> exact ⟨rfl, rfl, rfl, rfl, rfl⟩
theorem move_now {t : Tray} (ht : 0 ≤ t.step) (s : Cs) : s.now ≤ (s.move t).now ∧ (s.move t).now ≤ s.now + t.step ∧ s.steps ≤ (s.move t).steps ∧ (s.move t).steps ≤ s.steps + 1 := by
  unfold Cs.move
  split <;> split <;> simp only <;> omega
theorem pinsW_move {n c : Nat} {pins : List Bool} (hc : c < 2 * n) (hl : pins.length = 2 * n) {k : Nat} (hk : k < 2 * n) (hck : cycOf n k = c) (h : pins.all (!·) = false) :
    pinsW n (cycNext n c) (pins.set k false) < pinsW n c pins := by
  unfold pinsW
  rw [List.length_set, hl]
  obtain ⟨b, hb, hbt⟩ := List.all_eq_false.1 h
  obtain ⟨i, hi, rfl⟩ := List.mem_iff_getElem.1 hb
  have hbi : pins[i] = true := by simpa using hbt
  have hle : ∀ j ∈ List.range (2 * n), (if (pins.set k false).getD j false then dist n (cycNext n c) (cycOf n j) + 1 else 0) ≤ (if pins.getD j false then dist n c (cycOf n j) + 1 else 0) := by
    intro j hj
    have hj := List.mem_range.1 hj
    by_cases e : k = j
    · subst e
      have : (pins.set k false).getD k false = false := by
        rw [List.getD_eq_getElem?_getD, List.getElem?_set, if_pos rfl]; split <;> rfl
      rw [this]; simp
    · have e2 : (pins.set k false).getD j false = pins.getD j false := by
        rw [List.getD_eq_getElem?_getD, List.getElem?_set, if_neg e, ← List.getD_eq_getElem?_getD]
      rw [e2]
      have hne : c ≠ cycOf n j := fun h => e (cycOf_inj hk hj (by rw [hck, h]))
      have := dist_next hc (cycOf_lt hj) hne
      split <;> omega
  refine sum_lt hle (k := i) (List.mem_range.2 (by omega)) ?_
  have hgi : pins.getD i false = true := by rw [List.getD_eq_getElem?_getD, List.getElem?_eq_getElem hi]; exact hbi
  rw [hgi]
  by_cases e : k = i
  · subst e
    have : (pins.set k false).getD k false = false := by
      rw [List.getD_eq_getElem?_getD, List.getElem?_set, if_pos rfl]; split <;> rfl
    rw [this]; simp
  · have e2 : (pins.set k false).getD i false = true := by
      rw [List.getD_eq_getElem?_getD, List.getElem?_set, if_neg e, ← List.getD_eq_getElem?_getD]; exact hgi
    rw [e2]
    have hne : c ≠ cycOf n i := fun h => e (cycOf_inj hk (by omega) (by rw [hck, h]))
    have := dist_next hc (cycOf_lt (s := i) (n := n) (by omega)) hne
    simp; omega
theorem set_false {pins : List Bool} {k : Nat} (h : pins.getD k false ≠ true) : pins.set k false = pins := by
  apply List.ext_getElem?
  intro i
  rw [List.getElem?_set]
  split
  · rename_i e; subst e
    split
    · rename_i hk
      rw [List.getD_eq_getElem?_getD, List.getElem?_eq_getElem hk] at h
      rw [List.getElem?_eq_getElem hk]
      simp only [Option.getD_some] at h
      simp at h
      rw [h]
    · rename_i hk
      rw [List.getElem?_eq_none (by omega)]
  · rfl
theorem play_pins (t : Tray) (s : Cs) : (s.play t).pins = s.pins.set s.pos false ∧ (s.play t).q = s.q ∧ (s.play t).at_ = s.at_ ∧ (s.play t).up = s.up := by
  unfold Cs.play
  split
  · exact ⟨rfl, rfl, rfl, rfl⟩
  · rename_i h
    exact ⟨(set_false h).symm, rfl, rfl, rfl⟩
theorem rec_ok {t : Tray} (h : TrayOk t) {k : Nat} (hk : k < t.n) : (1 ≤ (t.rc k).front ∧ (t.rc k).front ≤ 999) ∧ (1 ≤ (t.rc k).back ∧ (t.rc k).back ≤ 999) := by
  have hk' : k < t.recs.length := hk
  have := h.recs _ (List.getElem_mem hk')
  unfold Tray.rc
  rwa [List.getD_eq_getElem?_getD, List.getElem?_eq_getElem hk']
theorem secs_ok {t : Tray} (h : TrayOk t) {s : Nat} (hs : s < 2 * t.n) : 1 ≤ secs t s ∧ secs t s ≤ 999 := by
  have := rec_ok h (k := s / 2) (by omega)
  unfold secs
  split
  · exact this.1
  · exact this.2
theorem play_now {t : Tray} (h : TrayOk t) {s : Cs} (hs : CsOk t s) : s.now ≤ (s.play t).now ∧ (s.play t).now ≤ s.now + 999 ∧ (s.play t).steps = s.steps := by
  have := secs_ok h (pos_lt hs)
  unfold Cs.play
  split
  · refine ⟨?_, ?_, rfl⟩ <;> show _ ≤ _ <;> simp only [Cs.play2, Cs.play1, Cs.mark, Cs.pos] at * <;> omega
  · exact ⟨Int.le_refl _, by omega, rfl⟩
theorem act1_ok {t : Tray} (h : TrayOk t) {s s' : Cs} (hs : CsOk t s) (e : s.act1 t = some s') : CsOk t s' := by
  unfold Cs.act1 at e
  split at e
  · split at e
    · cases e
    · rename_i p q hq
      simp only [Option.some.injEq] at e
      subst e
      exact ⟨hs.at_, hs.pins, hs.q, (hs.q p (by rw [hq]; simp)).2.1, hs.sorted⟩
  · simp only [Option.some.injEq] at e
    subst e
    obtain ⟨p1, p2, p3, p4⟩ := play_pins t s
    obtain ⟨m1, m2, m3, m4, m5⟩ := move_q t (s.play t)
    have hn := play_now h hs
    have hm := move_now h.step.1 (s.play t)
    refine ⟨(move_c (by rw [p3]; exact hs.at_)).2, ?_, fun p hp => ?_, ?_, ?_⟩
    · show ((s.play t).move t).pins.length = _
      rw [m2, p1, List.length_set]; exact hs.pins
    · have hp' : p ∈ ((s.play t).move t).q := hp
      rw [m1, p2] at hp'
      exact hs.q p hp'
    · show 0 ≤ ((s.play t).move t).now
      have := hs.now
      omega
    · show ((s.play t).move t).q.Pairwise _
      rw [m1, p2]; exact hs.sorted
theorem act_ok {t : Tray} (h : TrayOk t) {s s' : Cs} (hs : CsOk t s) (e : s.act t = some s') : CsOk t s' := act1_ok h hs.press e
theorem act_mu {t : Tray} {s s' : Cs} (hs : CsOk t s) (e : s.act t = some s') : mu t s' < mu t s := by
  have hpr := mu_press hs
  have hp := hs.press
  have hhead := pressQ_head s.now s.q s.pins
  have hnow : s.press.now = s.now := rfl
  unfold Cs.act at e
  have hj1 : s.press.q.length = s.q.length → s.press.q = s.q := by
    intro hl
    obtain ⟨k, hk⟩ := pressQ_suffix s.now s.q s.pins
    have e1 : s.press.q = s.q.drop k := hk
    rw [e1] at hl ⊢
    rw [List.length_drop] at hl
    by_cases hk0 : k = 0
    · rw [hk0]; rfl
    · have : s.q = [] := by cases hq : s.q with
        | nil => rfl
        | cons a l => rw [hq] at hl; simp at hl; omega
      rw [this]; simp
  have hjle : ∀ x : Cs, jW x ≤ 1 := fun x => by unfold jW; split <;> (try split) <;> omega
  have hjp : s.press.q = s.q → s.q ≠ [] → jW s = 1 := by
    intro he hne
    unfold jW
    cases hq : s.q with
    | nil => exact absurd hq hne
    | cons p q =>
      have : s.press.q = p :: q := by rw [he, hq]
      have := hhead p q this
      simp [this]
  unfold Cs.act1 at e
  split at e
  · split at e
    · cases e
    · rename_i p q hq
      simp only [Option.some.injEq] at e
      subst e
      unfold mu
      have hj0 : jW ({ s.press with now := p.time } : Cs) = 0 := by unfold jW; simp only [hq]; simp
      rw [hj0]
      show (2 * t.n + 2) * s.press.q.length + pinsW t.n (s.press.c t) s.press.pins + 0 < _
      by_cases hl : s.press.q.length = s.q.length
      · have he := hj1 hl
        have hne : s.q ≠ [] := by rw [← he, hq]; simp
        have := hjp he hne
        omega
      · omega
  · rename_i hall
    have hall : s.press.pins.all (!·) = false := by simpa using hall
    simp only [Option.some.injEq] at e
    subst e
    obtain ⟨p1, p2, p3, p4⟩ := play_pins t s.press
    obtain ⟨m1, m2, m3, m4, m5⟩ := move_q t (s.press.play t)
    have hc1 : (s.press.play t).c t = s.press.c t := by unfold Cs.c; rw [p3, p4]
    have hmv := (move_c (t := t) (s := s.press.play t) (by rw [p3]; exact hp.at_)).1
    rw [hc1] at hmv
    have hw := pinsW_move (Cs.c_lt hp) hp.pins (pos_lt hp) (cyc_pos t s.press) hall
    have e1 : mu t ((s.press.play t).next t) = (2 * t.n + 2) * s.press.q.length + pinsW t.n (cycNext t.n (s.press.c t)) (s.press.pins.set s.press.pos false) + jW ((s.press.play t).next t) := by
      unfold mu
      show (2 * t.n + 2) * ((s.press.play t).move t).q.length + pinsW t.n (((s.press.play t).move t).c t) ((s.press.play t).move t).pins + _ = _
      rw [m1, m2, hmv, p1, p2]
    rw [e1]
    unfold mu
    have hj2 := hjle ((s.press.play t).next t)
    by_cases hl : s.press.q.length = s.q.length
    · have he := hj1 hl
      by_cases hne : s.q = []
      · have : jW ((s.press.play t).next t) = 0 := by
          unfold jW
          have : ((s.press.play t).next t).q = [] := by
            show ((s.press.play t).move t).q = []
            rw [m1, p2, he, hne]
          rw [this]
        omega
      · have := hjp he hne
        omega
    · omega
end Go.Proofs.Ytkpgpgaojjobgaa

/-
  The order by times, and how far a run goes: plain.
-/
namespace Go.Proofs.Ytkpgpgaojjobgaa
open Go Go.V

theorem sort_exists (f : Nat → Int) {n : Nat} : ∃ l, Ordered f n l := by
  cases n with
  | zero => exact ⟨[], by simp, List.Pairwise.nil⟩
  | succ n =>
    have h : ∀ i, 1 ≤ i → i ≤ n + 1 → ∃ l, SortI f (n + 1) i l := by
      intro i
      induction i with
      | zero => intro h; omega
      | succ i ih =>
        intro _ hi
        cases i with
        | zero => exact ⟨_, SortI.first f (by omega)⟩
        | succ i =>
          obtain ⟨l, hl⟩ := ih (by omega) (by omega)
          have hj : ∀ m, m ≤ i + 1 → ∃ j, j ≤ i + 1 ∧ (∀ t x, j ≤ t → t < i + 1 → l[t]? = some x → f x < f (i + 1)) ∧ (j ≤ i + 1 - m ∨ ∃ x, 0 < j ∧ l[j - 1]? = some x ∧ f (i + 1) ≤ f x) := by
            intro m
            induction m with
            | zero => intro _; exact ⟨i + 1, Nat.le_refl _, fun t x h1 h2 => by omega, .inl (by omega)⟩
            | succ m ihm =>
              intro hm
              obtain ⟨j, h1, h2, h3⟩ := ihm (by omega)
              rcases h3 with h3 | h3
              · by_cases hj0 : j ≤ i + 1 - (m + 1)
                · exact ⟨j, h1, h2, .inl hj0⟩
                · have hlen := hl.len
                  have hjl : j - 1 < l.length := by omega
                  have hg : l[j - 1]? = some l[j - 1] := List.getElem?_eq_getElem hjl
                  by_cases hf : f l[j - 1] < f (i + 1)
                  · refine ⟨j - 1, by omega, fun t x h4 h5 h6 => ?_, .inl (by omega)⟩
                    by_cases ht : t = j - 1
                    · subst ht; rw [hg] at h6; cases h6; exact hf
                    · exact h2 t x (by omega) h5 h6
                  · exact ⟨j, h1, h2, .inr ⟨_, by omega, hg, by omega⟩⟩
              · exact ⟨j, h1, h2, .inr h3⟩
          obtain ⟨j, h1, h2, h3⟩ := hj (i + 1) (Nat.le_refl _)
          refine ⟨_, hl.step (by omega) h1 h2 fun x h4 h5 => ?_⟩
          rcases h3 with h3 | ⟨y, _, h6, h7⟩
          · omega
          · rw [h5] at h6; cases h6; exact h7
    obtain ⟨l, hl⟩ := h (n + 1) (by omega) (Nat.le_refl _)
    exact ⟨l, hl.done (Nat.le_refl _)⟩


/-- The order, reckoned. -/
def ordI (f : Nat → Int) (n : Nat) : List Nat := (List.range n).map fun j => ((List.range n).find? fun i => rank f n i == j).getD 0
theorem ordered_eq {f : Nat → Int} {n : Nat} {l : List Nat} (h : Ordered f n l) : l = ordI f n := by
  have hl := h.len
  apply List.ext_getElem
  · simp [ordI, hl]
  · intro j h1 h2
    have hr := h.rank h1
    have hm : l[j] < n := h.lt h1
    have e : (ordI f n)[j] = ((List.range n).find? fun i => rank f n i == j).getD 0 := by simp [ordI]
    rw [e]
    cases hf : (List.range n).find? (fun i => rank f n i == j) with
    | none =>
      have := List.find?_eq_none.1 hf l[j] (List.mem_range.2 hm)
      simp [hr] at this
    | some i =>
      have h3 := List.find?_some hf
      have h4 := List.mem_range.1 (List.mem_of_find?_eq_some hf)
      obtain ⟨j', hj', rfl⟩ := h.mem h4
      have h5 := h.rank hj'
      simp only [beq_iff_eq] at h3
      have : j' = j := by omega
      subst this
      rfl
theorem ordI_ok (f : Nat → Int) (n : Nat) : Ordered f n (ordI f n) := by
  obtain ⟨l, hl⟩ := sort_exists f (n := n)
  rw [← ordered_eq hl]; exact hl
def keyT (L : List Pr) (k : Nat) : Int := - (L.getD k default).time
def arr (L : List Pr) (π : List Nat) : List Pr := π.map fun k => L.getD k default
/-- The presses by their times. -/
def sortT (L : List Pr) : List Pr := arr L (ordI (keyT L) L.length)
theorem sortT_perm (L : List Pr) : (sortT L).Perm L := by
  have h := (ordI_ok (keyT L) L.length).perm.map fun k => L.getD k default
  have e : (List.range L.length).map (fun k => L.getD k default) = L := by
    apply List.ext_getElem (by simp)
    intro i h1 h2
    simp [h2]
  rw [e] at h
  exact h
theorem sortT_len (L : List Pr) : (sortT L).length = L.length := (sortT_perm L).length_eq
theorem sortT_sorted (L : List Pr) : (sortT L).Pairwise fun a b => a.time ≤ b.time := by
  unfold sortT arr
  rw [List.pairwise_map]
  refine (ordI_ok (keyT L) L.length).sorted.imp fun {a b} h => ?_
  have h' : keyT L b < keyT L a ∨ (keyT L a = keyT L b ∧ a < b) := by simpa [before] using h
  have ea : keyT L a = -(L.getD a default).time := rfl
  have eb : keyT L b = -(L.getD b default).time := rfl
  show (L.getD a default).time ≤ (L.getD b default).time
  omega
def goesS (t : Tray) : Cs := goesWith t (sortT t.pres)

theorem pinsW_none (n c m : Nat) : pinsW n c (List.replicate m false) = 0 := by
  unfold pinsW
  have : ((List.range (List.replicate m false).length).map fun s => if (List.replicate m false).getD s false then dist n c (cycOf n s) + 1 else 0) = (List.range (List.replicate m false).length).map fun _ => 0 := by
    refine List.map_congr_left fun s _ => ?_
    rw [List.getD_eq_getElem?_getD, List.getElem?_replicate]
    split <;> simp at *
  rw [this]
  induction (List.range (List.replicate m false).length) with
  | nil => rfl
  | cons a l ih => simpa using ih
theorem start_ok {t : Tray} (ht : TrayOk t) {q : List Pr} (hq : q.Perm t.pres) (hs : q.Pairwise fun a b => a.time ≤ b.time) : CsOk t ((start t q).mark (-1)) := by
  refine ⟨?_, by simp [start, Cs.mark], fun p hp => ?_, Int.le_refl _, hs⟩
  · have := ht.at_
    show t.at_.toNat < t.n
    omega
  · exact ht.pres p (hq.mem_iff.1 hp)
theorem start_mu {t : Tray} (ht : TrayOk t) {q : List Pr} (hq : q.length ≤ 13) : mu t ((start t q).mark (-1)) ≤ 200 := by
  have h6 := ht.n6
  have e : mu t ((start t q).mark (-1)) = (2 * t.n + 2) * q.length + pinsW t.n (((start t q).mark (-1)).c t) (List.replicate (2 * t.n) false) + jW ((start t q).mark (-1)) := rfl
  rw [e, pinsW_none]
  have h1 : (2 * t.n + 2) * q.length ≤ 14 * 13 := Nat.mul_le_mul (by omega) hq
  have h2 : jW ((start t q).mark (-1)) ≤ 1 := by unfold jW; split <;> (try split) <;> omega
  omega
/-- How much is new behind an act. -/
structure Grown (s s' : Cs) : Prop where
  now : s'.now ≤ s.now + 1059 ∨ s'.now ≤ 9999
  spells : s'.spells.length ≤ s.spells.length + 3
  plays : s'.plays.length ≤ s.plays.length + 1
  steps : s.steps ≤ s'.steps ∧ s'.steps ≤ s.steps + 1
  q : s'.q.length ≤ s.q.length
theorem act1_grown {t : Tray} (ht : TrayOk t) {s1 s' : Cs} (hs1 : CsOk t s1) (e : s1.act1 t = some s') : Grown s1 s' := by
  have hstep := ht.step
  unfold Cs.act1 at e
  split at e
  · split at e
    · cases e
    · rename_i p q hqq
      simp only [Option.some.injEq] at e
      subst e
      exact ⟨.inr (hs1.q p (by rw [hqq]; simp)).2.2, by simp only; omega, by simp only; omega, by simp only; omega, Nat.le_refl _⟩
  · simp only [Option.some.injEq] at e
    subst e
    have hn := play_now ht hs1
    have hm := move_now hstep.1 (s1.play t)
    obtain ⟨m1, m2, m3, m4, m5⟩ := move_q t (s1.play t)
    obtain ⟨p1, p2, p3, p4⟩ := play_pins t s1
    have hsp : (s1.play t).spells.length ≤ s1.spells.length + 2 ∧ (s1.play t).plays.length ≤ s1.plays.length + 1 := by
      unfold Cs.play
      split
      · simp [Cs.play2, Cs.play1, Cs.mark]
      · omega
    refine ⟨.inl ?_, ?_, ?_, ?_, ?_⟩
    · show ((s1.play t).move t).now ≤ _; omega
    · show (((s1.play t).move t).spells ++ [_]).length ≤ _
      rw [m4, List.length_append]; simp only [List.length_cons, List.length_nil]; omega
    · show ((s1.play t).move t).plays.length ≤ _
      rw [m3]; omega
    · show s1.steps ≤ ((s1.play t).move t).steps ∧ ((s1.play t).move t).steps ≤ _; omega
    · show ((s1.play t).move t).q.length ≤ _
      rw [m1, p2]; exact Nat.le_refl _
theorem act_grown {t : Tray} (ht : TrayOk t) {s s' : Cs} (hs : CsOk t s) (e : s.act t = some s') : Grown s s' := by
  have hq : s.press.q.length ≤ s.q.length := (mu_press hs).2
  have h := act1_grown ht hs.press e
  exact ⟨h.now, h.spells, h.plays, h.steps, Nat.le_trans h.q hq⟩
end Go.Proofs.Ytkpgpgaojjobgaa

namespace Go.Proofs.Ytkpgpgaojjobgaa
open Go Go.V
@[reducible] def o70_0 : List Ins := [⟨(some 2), .box 2 (.t 0), none, true⟩,
  ⟨(some 3), .box 2 (.t 1), none, true⟩,
  ⟨(some 4), .mv (.k (.c (.int .i64 0))), none, true⟩]
@[reducible] def o70_1 : List Ins := [⟨(some 5), .fa 1 (.t 2), none, true⟩,
  ⟨(some 6), .ld true 1 (.t 5), none, true⟩,
  ⟨(some 7), .fa 1 (.t 3), none, true⟩,
  ⟨(some 8), .ld true 1 (.t 7), none, true⟩,
  ⟨(some 9), .bin .sub (.t 6) (.t 8), none, true⟩,
  ⟨(some 4), .mv (.t 9), none, true⟩]
@[reducible] def v70_2 : VC := (.seq (.ops o70_1) .ret)
def ir70 : FC := ⟨2, 10, [.t 4], (.seq (.ops o70_0) v70_2)⟩
@[reducible] def o87_0 : List Ins := [⟨(some 10), .mv (.t 1), none, true⟩,
  ⟨(some 11), .bin .add (.t 10) (.k (.c (.int .i64 1))), none, true⟩,
  ⟨(some 8), .mv (.t 11), none, true⟩]
@[reducible] def o87_1 : List Ins := [⟨(some 12), .mv (.t 8), none, true⟩,
  ⟨(some 13), .mv (.t 2), none, true⟩,
  ⟨(some 14), .bin .lss (.t 12) (.t 13), none, true⟩]
@[reducible] def v87_2 : VC := (.cond (.t 14) .skip (.exit 0))
@[reducible] def o87_3 : List Ins := [⟨(some 17), .mv (.t 8), none, true⟩,
  ⟨(some 9), .mv (.t 17), none, true⟩]
@[reducible] def o87_4 : List Ins := [⟨(some 18), .mv (.t 9), none, false⟩,
  ⟨(some 19), .mv (.t 1), none, false⟩,
  ⟨(some 20), .bin .gtr (.t 18) (.t 19), none, true⟩,
  ⟨(some 21), .mv (.t 20), none, true⟩,
  ⟨(some 22), .mv (.t 3), (some (21, true)), false⟩,
  ⟨(some 23), .mv (.t 0), (some (21, true)), false⟩,
  ⟨(some 24), .mv (.t 9), (some (21, true)), false⟩,
  ⟨(some 25), .ia 2 (.t 23) (.t 24), (some (21, true)), false⟩,
  ⟨(some 26), .ld false 2 (.t 25), (some (21, true)), false⟩,
  ⟨(some 27), .mv (.t 0), (some (21, true)), false⟩,
  ⟨(some 28), .mv (.t 9), (some (21, true)), false⟩,
  ⟨(some 29), .bin .sub (.t 28) (.k (.c (.int .i64 1))), (some (21, true)), false⟩,
  ⟨(some 30), .ia 2 (.t 27) (.t 29), (some (21, true)), false⟩,
  ⟨(some 31), .ld false 2 (.t 30), (some (21, true)), false⟩,
  ⟨(some 32), .call (.t 22) [(.t 26), (.t 31)], (some (21, true)), true⟩,
  ⟨(some 33), .bin .lss (.t 32) (.k (.c (.int .i64 0))), (some (21, true)), true⟩,
  ⟨(some 34), .pick (.t 21) (.t 33) (.k (.c (.bool false))), none, true⟩]
@[reducible] def v87_5 : VC := (.cond (.t 34) .skip (.exit 2))
@[reducible] def o87_6 : List Ins := [⟨(some 37), .mv (.t 0), none, false⟩,
  ⟨(some 38), .mv (.t 9), none, false⟩,
  ⟨(some 39), .mv (.t 0), none, false⟩,
  ⟨(some 40), .mv (.t 9), none, false⟩,
  ⟨(some 41), .bin .sub (.t 40) (.k (.c (.int .i64 1))), none, false⟩,
  ⟨(some 42), .mv (.t 0), none, false⟩,
  ⟨(some 43), .mv (.t 9), none, false⟩,
  ⟨(some 44), .bin .sub (.t 43) (.k (.c (.int .i64 1))), none, false⟩,
  ⟨(some 45), .ia 2 (.t 42) (.t 44), none, false⟩,
  ⟨(some 46), .ld false 2 (.t 45), none, false⟩,
  ⟨(some 47), .mv (.t 0), none, false⟩,
  ⟨(some 48), .mv (.t 9), none, false⟩,
  ⟨(some 49), .ia 2 (.t 47) (.t 48), none, false⟩,
  ⟨(some 50), .ld false 2 (.t 49), none, false⟩,
  ⟨(some 51), .ia 2 (.t 37) (.t 38), none, false⟩,
  ⟨none, .st 2 (.t 51) (.t 46), none, false⟩,
  ⟨(some 52), .ia 2 (.t 39) (.t 41), none, true⟩,
  ⟨none, .st 2 (.t 52) (.t 50), none, true⟩]
@[reducible] def o87_7 : List Ins := [⟨(some 35), .mv (.t 9), none, true⟩,
  ⟨(some 36), .bin .sub (.t 35) (.k (.c (.int .i64 1))), none, true⟩,
  ⟨(some 9), .mv (.t 36), none, true⟩]
@[reducible] def v87_8 : VC := (.seq (.block 3 (.ops o87_6)) (.ops o87_7))
@[reducible] def v87_9 : VC := (.seq (.seq (.ops o87_4) v87_5) v87_8)
-- K87_2: changed and kept: [9]
@[reducible] def K87_2 : List Nat := [0, 1, 2, 3, 8]
@[reducible] def v87_10 : VC := (.loop v87_9)
@[reducible] def v87_11 : VC := (.block 2 v87_10)
@[reducible] def v87_12 : VC := (.seq (.ops o87_3) v87_11)
@[reducible] def o87_13 : List Ins := [⟨(some 15), .mv (.t 8), none, true⟩,
  ⟨(some 16), .bin .add (.t 15) (.k (.c (.int .i64 1))), none, true⟩,
  ⟨(some 8), .mv (.t 16), none, true⟩]
@[reducible] def v87_14 : VC := (.seq (.block 1 v87_12) (.ops o87_13))
@[reducible] def v87_15 : VC := (.seq (.seq (.ops o87_1) v87_2) v87_14)
-- K87_1: changed and kept: [8]
@[reducible] def K87_1 : List Nat := [0, 1, 2, 3]
@[reducible] def v87_16 : VC := (.loop v87_15)
@[reducible] def v87_17 : VC := (.block 0 v87_16)
def ir87 : FC := ⟨4, 53, [], (.seq (.ops o87_0) v87_17)⟩
@[reducible] def o80_0 : List Ins := [⟨(some 6), .mv (.k (.c (.int .i64 20))), none, true⟩]
@[reducible] def o80_1 : List Ins := [⟨(some 10), .mv (.t 6), none, true⟩,
  ⟨(some 7), .mv (.k (.c (.int .i64 0))), none, true⟩,
  ⟨(some 8), .mv (.t 10), none, true⟩]
@[reducible] def o80_2 : List Ins := [⟨(some 11), .mv (.t 8), none, true⟩,
  ⟨(some 12), .mv (.t 1), none, true⟩,
  ⟨(some 13), .bin .leq (.t 11) (.t 12), none, true⟩]
@[reducible] def v80_3 : VC := (.cond (.t 13) .skip (.exit 0))
@[reducible] def o80_4 : List Ins := [⟨(some 14), .mv (.t 0), none, true⟩,
  ⟨(some 15), .mv (.t 7), none, true⟩,
  ⟨(some 16), .mv (.t 8), none, true⟩,
  ⟨(some 17), .mv (.t 2), none, true⟩,
  ⟨(some 18), .call (.k (.fn 87 [])) [(.t 14), (.t 15), (.t 16), (.t 17)], none, true⟩]
@[reducible] def o80_5 : List Ins := [⟨(some 19), .mv (.t 8), none, true⟩,
  ⟨(some 7), .mv (.t 19), none, true⟩]
@[reducible] def o80_6 : List Ins := [⟨(some 20), .mv (.t 8), none, true⟩,
  ⟨(some 21), .mv (.t 6), none, true⟩,
  ⟨(some 22), .bin .add (.t 20) (.t 21), none, true⟩,
  ⟨(some 8), .mv (.t 22), none, true⟩]
@[reducible] def v80_7 : VC := (.seq (.ops o80_5) (.ops o80_6))
@[reducible] def v80_8 : VC := (.seq (.ops o80_4) v80_7)
@[reducible] def v80_9 : VC := (.block 1 v80_8)
@[reducible] def v80_10 : VC := (.seq (.seq (.ops o80_2) v80_3) v80_9)
-- K80_1: changed and kept: [8, 7]
@[reducible] def K80_1 : List Nat := [0, 1, 2, 6]
@[reducible] def v80_11 : VC := (.loop v80_10)
@[reducible] def o80_12 : List Ins := [⟨(some 23), .mv (.t 0), none, true⟩,
  ⟨(some 24), .mv (.t 7), none, true⟩,
  ⟨(some 25), .mv (.t 1), none, true⟩,
  ⟨(some 26), .mv (.t 2), none, true⟩,
  ⟨(some 27), .call (.k (.fn 87 [])) [(.t 23), (.t 24), (.t 25), (.t 26)], none, true⟩]
@[reducible] def o80_13 : List Ins := [⟨(some 28), .mv (.t 6), none, true⟩,
  ⟨(some 29), .mv (.t 1), none, true⟩,
  ⟨(some 30), .bin .lss (.t 28) (.t 29), none, true⟩]
@[reducible] def v80_14 : VC := (.cond (.t 30) .skip (.exit 2))
@[reducible] def o80_15 : List Ins := [⟨(some 31), .mv (.t 6), none, true⟩,
  ⟨(some 32), .bin .mul (.k (.c (.int .i64 2))) (.t 31), none, true⟩,
  ⟨(some 7), .mv (.k (.c (.int .i64 0))), none, true⟩,
  ⟨(some 8), .mv (.t 32), none, true⟩]
@[reducible] def o80_16 : List Ins := [⟨(some 33), .mv (.t 8), none, true⟩,
  ⟨(some 34), .mv (.t 1), none, true⟩,
  ⟨(some 35), .bin .leq (.t 33) (.t 34), none, true⟩]
@[reducible] def v80_17 : VC := (.cond (.t 35) .skip (.exit 4))
@[reducible] def o80_18 : List Ins := [⟨(some 36), .mv (.t 0), none, true⟩,
  ⟨(some 37), .mv (.t 7), none, true⟩,
  ⟨(some 38), .mv (.t 7), none, true⟩,
  ⟨(some 39), .mv (.t 6), none, true⟩,
  ⟨(some 40), .bin .add (.t 38) (.t 39), none, true⟩,
  ⟨(some 41), .mv (.t 8), none, true⟩,
  ⟨(some 42), .mv (.t 2), none, true⟩,
  ⟨(some 43), .call (.k (.fn 88 [])) [(.t 36), (.t 37), (.t 40), (.t 41), (.t 42)], none, true⟩]
@[reducible] def o80_19 : List Ins := [⟨(some 44), .mv (.t 8), none, true⟩,
  ⟨(some 7), .mv (.t 44), none, true⟩]
@[reducible] def o80_20 : List Ins := [⟨(some 45), .mv (.t 8), none, true⟩,
  ⟨(some 46), .mv (.t 6), none, true⟩,
  ⟨(some 47), .bin .mul (.k (.c (.int .i64 2))) (.t 46), none, true⟩,
  ⟨(some 48), .bin .add (.t 45) (.t 47), none, true⟩,
  ⟨(some 8), .mv (.t 48), none, true⟩]
@[reducible] def v80_21 : VC := (.seq (.ops o80_19) (.ops o80_20))
@[reducible] def v80_22 : VC := (.seq (.ops o80_18) v80_21)
@[reducible] def v80_23 : VC := (.block 5 v80_22)
@[reducible] def v80_24 : VC := (.seq (.seq (.ops o80_16) v80_17) v80_23)
-- K80_3: changed and kept: [8, 7]
@[reducible] def v80_25 : VC := (.loop v80_24)
@[reducible] def o80_26 : List Ins := [⟨(some 49), .mv (.t 7), none, true⟩,
  ⟨(some 50), .mv (.t 6), none, true⟩,
  ⟨(some 51), .bin .add (.t 49) (.t 50), none, true⟩,
  ⟨(some 9), .mv (.t 51), none, true⟩]
@[reducible] def o80_27 : List Ins := [⟨(some 52), .mv (.t 9), none, true⟩,
  ⟨(some 53), .mv (.t 1), none, true⟩,
  ⟨(some 54), .bin .lss (.t 52) (.t 53), none, true⟩]
@[reducible] def o80_28 : List Ins := [⟨(some 55), .mv (.t 0), none, true⟩,
  ⟨(some 56), .mv (.t 7), none, true⟩,
  ⟨(some 57), .mv (.t 9), none, true⟩,
  ⟨(some 58), .mv (.t 1), none, true⟩,
  ⟨(some 59), .mv (.t 2), none, true⟩,
  ⟨(some 60), .call (.k (.fn 88 [])) [(.t 55), (.t 56), (.t 57), (.t 58), (.t 59)], none, true⟩]
@[reducible] def v80_29 : VC := (.cond (.t 54) (.ops o80_28) .skip)
@[reducible] def v80_30 : VC := (.seq (.ops o80_27) v80_29)
@[reducible] def o80_31 : List Ins := [⟨(some 61), .mv (.t 6), none, true⟩,
  ⟨(some 62), .bin .mul (.t 61) (.k (.c (.int .i64 2))), none, true⟩,
  ⟨(some 6), .mv (.t 62), none, true⟩]
@[reducible] def v80_32 : VC := (.seq (.seq (.ops o80_26) v80_30) (.ops o80_31))
@[reducible] def v80_33 : VC := (.seq (.block 4 v80_25) v80_32)
@[reducible] def v80_34 : VC := (.seq (.ops o80_15) v80_33)
@[reducible] def v80_35 : VC := (.block 3 v80_34)
@[reducible] def v80_36 : VC := (.seq (.seq (.ops o80_13) v80_14) v80_35)
-- K80_2: changed and kept: [6]
@[reducible] def K80_2 : List Nat := [0, 1, 2]
@[reducible] def v80_37 : VC := (.loop v80_36)
@[reducible] def v80_38 : VC := (.block 2 v80_37)
@[reducible] def v80_39 : VC := (.seq (.ops o80_12) v80_38)
@[reducible] def v80_40 : VC := (.seq (.block 0 v80_11) v80_39)
@[reducible] def v80_41 : VC := (.seq (.ops o80_1) v80_40)
def ir80 : FC := ⟨3, 63, [], (.seq (.ops o80_0) v80_41)⟩
@[reducible] def o69_0 : List Ins := [⟨(some 4), .mv (.t 0), none, true⟩,
  ⟨(some 5), .mv (.t 0), none, true⟩,
  ⟨(some 6), .len (.t 5), none, true⟩,
  ⟨(some 7), .mv (.t 1), none, true⟩,
  ⟨(some 8), .call (.k (.fn 80 [])) [(.t 4), (.t 6), (.t 7)], none, true⟩]
def ir69 : FC := ⟨2, 9, [], (.ops o69_0)⟩
@[reducible] def o56_0 : List Ins := [⟨(some 2), .mv (.k (.c (.raw (.slice none 0 0)))), none, true⟩]
@[reducible] def o56_1 : List Ins := [⟨(some 3), .mv (.t 0), none, true⟩,
  ⟨(some 4), .nils false (.t 3), none, true⟩]
@[reducible] def o56_2 : List Ins := [⟨(some 2), .mv (.k (.c (.raw (.slice none 0 0)))), none, true⟩]
@[reducible] def v56_3 : VC := (.seq (.ops o56_2) .ret)
@[reducible] def v56_4 : VC := (.cond (.t 4) v56_3 .skip)
@[reducible] def o56_5 : List Ins := [⟨(some 5), .bsl 27 2 [], none, true⟩,
  ⟨(some 6), .mv (.t 0), none, true⟩,
  ⟨(some 7), .app 27 2 16 (.t 5) (.t 6), none, true⟩,
  ⟨(some 2), .mv (.t 7), none, true⟩]
@[reducible] def v56_6 : VC := (.seq (.ops o56_5) .ret)
@[reducible] def v56_7 : VC := (.seq (.seq (.ops o56_1) v56_4) v56_6)
def ir56 : FC := ⟨1, 8, [.t 2], (.seq (.ops o56_0) v56_7)⟩
theorem c70 : compM Try.prog [] 70 = some ir70 := by kernel_rfl
theorem c87 : compM Try.prog [] 87 = some ir87 := by kernel_rfl
theorem c80 : compM Try.prog [] 80 = some ir80 := by kernel_rfl
theorem c69 : compM Try.prog [] 69 = some ir69 := by kernel_rfl
theorem c56 : compM Try.prog [] 56 = some ir56 := by kernel_rfl



theorem cmp70 (a b : Pr) (ha : 0 ≤ a.time ∧ a.time ≤ 9999) (hb : 0 ≤ b.time ∧ b.time ≤ 9999) : FSpec Try.prog 70 [.agg [iv a.side, iv a.time], .agg [iv b.side, iv b.time]] (iv (a.time - b.time)) := by
  have w1 := w64 (n := a.time - b.time) (by omega) (by omega)
  refine FSpec_of c70 (Nat.le_refl _) (by decide) fun C hP hN hC hL => ?_
  simp only [ir70]
  (repeat ((first | refine WV_seq_ ?_ | refine WV_block ?_ | refine WV_ops ?_ | refine WV_skip ?_ | refine WV_exit ?_); (try simp only [go_sem, init_env', Nat.reduceEqDiff, Nat.reduceAdd, Nat.reduceMul, reduceIte, Nat.reduceLeDiff, Nat.reduceLT, Nat.reduceBEq, reduceCtorEq, hP, w1]); (repeat refine qI ?_)))
  (refine WV_ret ?_; simp only [thenQ, inQ, RetQ, RetOk, resAll, resA]; simp only [go_sem, init_env', Nat.reduceEqDiff, Nat.reduceAdd, Nat.reduceMul, reduceIte, Nat.reduceLeDiff, Nat.reduceLT, Nat.reduceBEq, reduceCtorEq, tupA, AV.port, AV.portL, exists_eq_left', ]; (first | exact AVle.of rfl | refine AVle.of ?_ | skip))

/-! ### The sort by times -/
theorem arr_len (L : List Pr) (π : List Nat) : (arr L π).length = π.length := by simp [arr]
theorem arr_get {L : List Pr} {π : List Nat} {i k : Nat} (h : π[i]? = some k) (hi : i < (arr L π).length) : (arr L π)[i] = L.getD k default := by
  have h2 : (arr L π)[i]? = some (L.getD k default) := by simp [arr, h]
  exact (List.getElem?_eq_some_iff.1 h2).2
theorem arr_set (L : List Pr) (π : List Nat) (i k : Nat) : (arr L π).set i (L.getD k default) = arr L (π.set i k) := by
  simp [arr, List.map_set]
theorem arr_range (L : List Pr) : arr L (List.range L.length) = L := by
  apply List.ext_getElem (by simp [arr])
  intro i h1 h2
  simp [arr, h2]
theorem put2 {α : Type} {cds : α → List CD} (hm : ∀ a, (cds a).length = 2) {l : List α} {k : Nat} (h : k < l.length) (j : Nat) (a : α) {x y : CD} (ha : cds a = [x, y]) :
    (cellsG cds l j).take (k * 2) ++ AV.c x :: AV.c y :: (cellsG cds l j).drop (k * 2 + 2) = cellsG cds (l.set k a) j := cellsG_two hm h j a ha

set_option maxRecDepth 20000 in
set_option maxHeartbeats 8000000 in
theorem ins87 {L : List Pr} {n cap jk : Nat} (hn : 0 < n) (hn20 : n ≤ 20) (hl0 : L.length = n) (ht : ∀ p ∈ L, 0 ≤ p.time ∧ p.time ≤ 9999) :
    FSpecL Try.prog 87 [.vw 2 1000 0 n cap, iv 0, iv n, .fn 70 []] [.box (cellsG Pr.cds L jk)] [] (fun res l' => res = .tup [] ∧ ∃ l, Ordered (keyT L) n l ∧ l' = [.box (cellsG Pr.cds (arr L l) jk)]) := by
  have w0 : IntKind.i64.wrap (0 + 1) = 1 := by decide
  have hti : ∀ i, i < n → 0 ≤ (L.getD i default).time ∧ (L.getD i default).time ≤ 9999 := fun i hi => by
    have hiL : i < L.length := by omega
    have := ht _ (List.getElem_mem hiL)
    have e : L.getD i default = L[i] := by simp [*]
    rw [e]; exact this
  have hL0 : cellsG Pr.cds L jk = cellsG Pr.cds (arr L (List.range n)) jk := by rw [← hl0, arr_range]
  rw [hL0]
  refine FSpecL_of c87 (by first | simp | exact Nat.le_of_ble_eq_true rfl) (Nat.le_refl _) (by decide) (by decide) fun C hP hN hC hL => ?_; rw [init_env', ownW_upd (by first | simp | exact Nat.le_of_ble_eq_true rfl)]; simp only [ir87, updL, updLo, List.map_nil, List.map_cons, Nat.reduceAdd, ]
  (repeat ((first | refine WV_seq_ ?_ | refine WV_block ?_ | refine WV_ops ?_ | refine WV_skip ?_ | refine WV_exit ?_); (try simp only [go_sem, init_env', Nat.reduceEqDiff, Nat.reduceAdd, Nat.reduceMul, reduceIte, Nat.reduceLeDiff, Nat.reduceLT, Nat.reduceBEq, reduceCtorEq, hP, w0]); (repeat refine qI ?_)))
  refine WV_loopK K87_1 [1000] (fun p : Nat × List Nat => 1 ≤ p.1 ∧ p.1 ≤ n ∧ SortI (keyT L) n p.1 p.2) (fun p => n - p.1) (fun p => [(8, iv p.1)]) (fun p => [(1000, .box (cellsG Pr.cds (arr L p.2) jk))]) (1, List.range n) ⟨Nat.le_refl _, hn, SortI.first (keyT L) hn⟩ ?_ ?_
  · exact Sub_au
  · rintro ⟨i, l⟩ ⟨h1, h2, hs⟩
    simp only at h1 h2 hs
    have hl := hs.len
    simp only [go_sem, init_env', Nat.reduceEqDiff, Nat.reduceAdd, Nat.reduceMul, reduceIte, Nat.reduceLeDiff, Nat.reduceLT, Nat.reduceBEq, reduceCtorEq]
    (repeat ((first | refine WV_seq_ ?_ | refine WV_block ?_ | refine WV_ops ?_ | refine WV_skip ?_ | refine WV_exit ?_); (try simp only [go_sem, init_env', Nat.reduceEqDiff, Nat.reduceAdd, Nat.reduceMul, reduceIte, Nat.reduceLeDiff, Nat.reduceLT, Nat.reduceBEq, reduceCtorEq, hP, ]); (repeat refine qI ?_)))
    (refine WV_cond rfl (fun h => ?_) (fun h => ?_))
    · have hi : i < n := by simpa using h
      (repeat ((first | refine WV_seq_ ?_ | refine WV_block ?_ | refine WV_ops ?_ | refine WV_skip ?_ | refine WV_exit ?_); (try simp only [go_sem, init_env', Nat.reduceEqDiff, Nat.reduceAdd, Nat.reduceMul, reduceIte, Nat.reduceLeDiff, Nat.reduceLT, Nat.reduceBEq, reduceCtorEq, hP, ]); (repeat refine qI ?_)))
      refine WV_loopK K87_2 [1000] (fun j : Nat => j ≤ i ∧ ∀ t x, j ≤ t → t < i → l[t]? = some x → keyT L x < keyT L i) (fun j => j) (fun j => [(9, iv j)]) (fun j => [(1000, .box (cellsG Pr.cds (arr L (mv l i j)) jk))]) i ⟨Nat.le_refl _, fun t x h3 h4 => by omega⟩ ?_ ?_
      · rw [mv_self (by omega)]
        exact Sub_au
      · rintro j ⟨hj, hd⟩
        have hgi : l[i]? = some i := hs.rest i (Nat.le_refl _) hi
        have hmi : (mv l i j)[j]? = some i := by rw [mv_get (by omega) hj, if_neg (by omega), if_pos rfl, hgi]
        have hlm : (arr L (mv l i j)).length = n := by rw [arr_len, mv_len (by omega) hj, hl]
        simp only [go_sem, init_env', Nat.reduceEqDiff, Nat.reduceAdd, Nat.reduceMul, reduceIte, Nat.reduceLeDiff, Nat.reduceLT, Nat.reduceBEq, reduceCtorEq]
        cases j with
        | zero =>
          have hd0 : decide ((0 : Int) < ((0 : Nat) : Int)) = false := by simp
          (repeat ((first | refine WV_seq_ ?_ | refine WV_block ?_ | refine WV_ops ?_ | refine WV_skip ?_ | refine WV_exit ?_); (try simp only [go_sem, init_env', Nat.reduceEqDiff, Nat.reduceAdd, Nat.reduceMul, reduceIte, Nat.reduceLeDiff, Nat.reduceLT, Nat.reduceBEq, reduceCtorEq, hP, hd0]); (repeat refine qI ?_)))
          refine Or.inr (Or.inr ?_)
          (refine WV_cond rfl (fun h => ?_) (fun h => ?_))
          · simp at h
          · have hs' := hs.step hi (Nat.zero_le _) (fun t x _ h4 h5 => hd t x (Nat.zero_le _) h4 h5) (fun x h6 => by omega)
            have w1 := w64 (n := (i : Int) + 1) (by omega) (by omega)
            (repeat ((first | refine WV_seq_ ?_ | refine WV_block ?_ | refine WV_ops ?_ | refine WV_skip ?_ | refine WV_exit ?_); (try simp only [go_sem, init_env', Nat.reduceEqDiff, Nat.reduceAdd, Nat.reduceMul, reduceIte, Nat.reduceLeDiff, Nat.reduceLT, Nat.reduceBEq, reduceCtorEq, hP, w1]); (repeat refine qI ?_)))
            refine ⟨(i + 1, mv l i 0), ⟨by simp only; omega, by simp only; omega, hs'⟩, by simp only; omega, ?_⟩
            exact Sub_au
        | succ j =>
          have hjl : j < l.length := by omega
          have hgj : l[j]? = some l[j] := List.getElem?_eq_getElem hjl
          have hjn := hs.lt (t := j) (by omega) h2 hgj
          have hmj : (mv l i (j + 1))[j]? = some l[j] := by rw [mv_get (by omega) hj, if_pos (by omega), hgj]
          have hlen0 : j + 1 < (arr L (mv l i (j + 1))).length := by omega
          have hlen1 : j < (arr L (mv l i (j + 1))).length := by omega
          have g1 := cellsG_elem pr_two hlen0 jk
          rw [arr_get hmi hlen0] at g1
          have g2 := cellsG_elem pr_two hlen1 jk
          rw [arr_get hmj hlen1] at g2
          have w1 := w64 (n := (j : Int)) (by omega) (by omega)
          have e1 : (((j + 1 : Nat) : Int) - 1) = (j : Int) := by omega
          have hjlt : j < n := by omega
          have hj1 : j + 1 < n := by omega
          have hcl := cellsG_len pr_two (arr L (mv l i (j + 1))) jk
          have hq1 : (j + 1) * 2 + 2 ≤ (cellsG Pr.cds (arr L (mv l i (j + 1))) jk).length := by rw [hcl, hlm]; omega
          have hq2 : j * 2 + 2 ≤ (cellsG Pr.cds (arr L (mv l i (j + 1))) jk).length := by rw [hcl, hlm]; omega
          have p1 := put2 pr_two hlen0 jk (L.getD l[j] default) rfl
          rw [arr_set] at p1
          have hlen2 : j < (arr L ((mv l i (j + 1)).set (j + 1) l[j])).length := by rw [arr_len, List.length_set, mv_len (by omega) hj]; omega
          have p2 := put2 pr_two hlen2 jk (L.getD i default) rfl
          rw [arr_set, mv_step (by omega) (by omega) i l[j] hgi hgj] at p2
          have hq3 : j * 2 + 2 ≤ (cellsG Pr.cds (arr L ((mv l i (j + 1)).set (j + 1) l[j])) jk).length := by rw [cellsG_len pr_two, arr_len, List.length_set, mv_len (by omega) hj]; omega
          have hdj : decide (0 < ((j + 1 : Nat) : Int)) = true := by simp
          have ht0 : (((j + 1 : Nat) : Int)).toNat = j + 1 := by omega
          have hlt1 : ((j + 1 : Nat) : Int) < (n : Int) := by omega
          have hlt2 : (j : Int) < (n : Int) := by omega
          have hc := cmp70 (L.getD i default) (L.getD l[j] default) (hti i hi) (hti l[j] (by omega))
          have hcc : decide ((L.getD i default).time - (L.getD l[j] default).time < 0) = decide (keyT L l[j] < keyT L i) := by
            unfold keyT
            rw [Bool.eq_iff_iff]; simp; omega
          have hk1 : keyT L i = - (L.getD i default).time := rfl
          generalize L.getD i default = A at *
          generalize L.getD l[j] default = B at *
          (repeat ((first | refine WV_seq_ ?_ | refine WV_block ?_ | refine WV_ops ?_ | refine WV_skip ?_ | refine WV_exit ?_); (try simp only [go_sem, init_env', Nat.reduceEqDiff, Nat.reduceAdd, Nat.reduceMul, reduceIte, Nat.reduceLeDiff, Nat.reduceLT, Nat.reduceBEq, reduceCtorEq, hP, w1, e1, hdj, ht0, g1, g2, hq1, hq2, hlt1, hlt2, Pr.cds]); (repeat refine qI ?_)))
          refine AG_pure (fun _ => hc) rfl (fun _ => rfl) rfl rfl rfl ?_
          simp only [go_sem, init_env', Nat.reduceEqDiff, Nat.reduceAdd, Nat.reduceMul, reduceIte, Nat.reduceLeDiff, Nat.reduceLT, Nat.reduceBEq, reduceCtorEq, hP]
          (repeat ((first | refine WV_seq_ ?_ | refine WV_block ?_ | refine WV_ops ?_ | refine WV_skip ?_ | refine WV_exit ?_); (try simp only [go_sem, init_env', Nat.reduceEqDiff, Nat.reduceAdd, Nat.reduceMul, reduceIte, Nat.reduceLeDiff, Nat.reduceLT, Nat.reduceBEq, reduceCtorEq, hP, ]); (repeat refine qI ?_)))
          rw [hcc]
          (refine WV_cond rfl (fun h => ?_) (fun h => ?_))
          · have h : keyT L l[j] < keyT L i := by simpa using h
            (repeat ((first | refine WV_seq_ ?_ | refine WV_block ?_ | refine WV_ops ?_ | refine WV_skip ?_ | refine WV_exit ?_); (try simp only [go_sem, init_env', Nat.reduceEqDiff, Nat.reduceAdd, Nat.reduceMul, reduceIte, Nat.reduceLeDiff, Nat.reduceLT, Nat.reduceBEq, reduceCtorEq, hP, w1, e1, ht0, g1, g2, hq1, hq2, hq3, hlt1, hlt2, p1, p2, Pr.cds]); (repeat refine qI ?_)))
            refine ⟨j, ⟨by omega, fun t x h3 h4 h5 => ?_⟩, by omega, ?_⟩
            · by_cases htj : t = j
              · subst htj; rw [hgj] at h5; cases h5; exact h
              · exact hd t x (by omega) h4 h5
            · exact Sub_au
          · have h : ¬ keyT L l[j] < keyT L i := by simpa using h
            have hs' := hs.step (j := j + 1) hi hj hd (fun x _ hx => by rw [Nat.add_sub_cancel, hgj] at hx; cases hx; omega)
            have w2 := w64 (n := (i : Int) + 1) (by omega) (by omega)
            (repeat ((first | refine WV_seq_ ?_ | refine WV_block ?_ | refine WV_ops ?_ | refine WV_skip ?_ | refine WV_exit ?_); (try simp only [go_sem, init_env', Nat.reduceEqDiff, Nat.reduceAdd, Nat.reduceMul, reduceIte, Nat.reduceLeDiff, Nat.reduceLT, Nat.reduceBEq, reduceCtorEq, hP, w2]); (repeat refine qI ?_)))
            refine ⟨(i + 1, mv l i (j + 1)), ⟨by simp only; omega, by simp only; omega, hs'⟩, by simp only; omega, ?_⟩
            exact Sub_au
    · have h : i = n := by simp at h; omega
      subst h
      (refine WV_exit ?_; simp only [go_sem, init_env', Nat.reduceEqDiff, Nat.reduceAdd, Nat.reduceMul, reduceIte, Nat.reduceLeDiff, Nat.reduceLT, Nat.reduceBEq, reduceCtorEq])
      ((try simp only [thenQ, inQ, RetQL, RetOkL, resAll, resA]); (try simp only [go_sem, init_env', Nat.reduceEqDiff, Nat.reduceAdd, Nat.reduceMul, reduceIte, Nat.reduceLeDiff, Nat.reduceLT, Nat.reduceBEq, reduceCtorEq, tupA, AV.keepP, AV.keepPL]); refine ⟨_, [.box (cellsG Pr.cds (arr L l) jk)], rfl, KeepL_mk rfl rfl ?_ ?_ rfl, ?_⟩)
      · simp only [go_sem, init_env', Nat.reduceEqDiff, Nat.reduceAdd, Nat.reduceMul, reduceIte, Nat.reduceLeDiff, Nat.reduceLT, Nat.reduceBEq, reduceCtorEq, keepAll, Ob.keepP]
      · simp only [go_sem, init_env', Nat.reduceEqDiff, Nat.reduceAdd, Nat.reduceMul, reduceIte, Nat.reduceLeDiff, Nat.reduceLT, Nat.reduceBEq, reduceCtorEq, winAll]
      · exact ⟨rfl, _, hs.done (Nat.le_refl _), rfl⟩

set_option maxHeartbeats 4000000 in
theorem stable80 {L : List Pr} {n cap jk : Nat} (hn : 0 < n) (hn20 : n < 20) (hl0 : L.length = n) (ht : ∀ p ∈ L, 0 ≤ p.time ∧ p.time ≤ 9999) :
    FSpecL Try.prog 80 [.vw 2 1000 0 n cap, iv n, .fn 70 []] [.box (cellsG Pr.cds L jk)] [] (fun res l' => res = .tup [] ∧ ∃ l, Ordered (keyT L) n l ∧ l' = [.box (cellsG Pr.cds (arr L l) jk)]) := by
  refine FSpecL_of c80 (by first | simp | exact Nat.le_of_ble_eq_true rfl) (Nat.le_refl _) (by decide) (by decide) fun C hP hN hC hL => ?_; rw [init_env', ownW_upd (by first | simp | exact Nat.le_of_ble_eq_true rfl)]; simp only [ir80, updL, updLo, List.map_nil, List.map_cons, Nat.reduceAdd, ]
  (repeat ((first | refine WV_seq_ ?_ | refine WV_block ?_ | refine WV_ops ?_ | refine WV_skip ?_ | refine WV_exit ?_); (try simp only [go_sem, init_env', Nat.reduceEqDiff, Nat.reduceAdd, Nat.reduceMul, reduceIte, Nat.reduceLeDiff, Nat.reduceLT, Nat.reduceBEq, reduceCtorEq, hP, ]); (repeat refine qI ?_)))
  refine WV_loopK K80_1 [1000] (fun _ : Unit => True) (fun _ => 0) (fun _ => [(7, iv 0), (8, iv 20)]) (fun _ => [(1000, .box (cellsG Pr.cds L jk))]) () trivial ?_ ?_
  · exact Sub_au
  · rintro - -
    simp only [go_sem, init_env', Nat.reduceEqDiff, Nat.reduceAdd, Nat.reduceMul, reduceIte, Nat.reduceLeDiff, Nat.reduceLT, Nat.reduceBEq, reduceCtorEq]
    (repeat ((first | refine WV_seq_ ?_ | refine WV_block ?_ | refine WV_ops ?_ | refine WV_skip ?_ | refine WV_exit ?_); (try simp only [go_sem, init_env', Nat.reduceEqDiff, Nat.reduceAdd, Nat.reduceMul, reduceIte, Nat.reduceLeDiff, Nat.reduceLT, Nat.reduceBEq, reduceCtorEq, hP, ]); (repeat refine qI ?_)))
    (refine WV_cond rfl (fun h => ?_) (fun h => ?_))
    · have h : (20 : Int) ≤ n := by simpa using h
      omega
    · (refine WV_exit ?_; simp only [go_sem, init_env', Nat.reduceEqDiff, Nat.reduceAdd, Nat.reduceMul, reduceIte, Nat.reduceLeDiff, Nat.reduceLT, Nat.reduceBEq, reduceCtorEq])
      (repeat ((first | refine WV_seq_ ?_ | refine WV_block ?_ | refine WV_ops ?_ | refine WV_skip ?_ | refine WV_exit ?_); (try simp only [go_sem, init_env', Nat.reduceEqDiff, Nat.reduceAdd, Nat.reduceMul, reduceIte, Nat.reduceLeDiff, Nat.reduceLT, Nat.reduceBEq, reduceCtorEq, hP, ]); (repeat refine qI ?_)))
      refine AS_lend [1000] (ins87 (jk := jk) hn (by omega) hl0 ht) rfl rfl rfl (by decide) rfl ?_ ?_
      · simp only [go_sem, init_env', Nat.reduceEqDiff, Nat.reduceAdd, Nat.reduceMul, reduceIte, Nat.reduceLeDiff, Nat.reduceLT, Nat.reduceBEq, reduceCtorEq, obsLend, Ob.lend]
      · rintro r l' ⟨rfl, l, hl, rfl⟩
        refine ⟨_, _, rfl, by simp only [obsBack, Ob.back, back_cellsG]; rfl, ?_⟩
        simp only [go_sem, init_env', Nat.reduceEqDiff, Nat.reduceAdd, Nat.reduceMul, reduceIte, Nat.reduceLeDiff, Nat.reduceLT, Nat.reduceBEq, reduceCtorEq, hP, ownBack]
        (repeat ((first | refine WV_seq_ ?_ | refine WV_block ?_ | refine WV_ops ?_ | refine WV_skip ?_ | refine WV_exit ?_); (try simp only [go_sem, init_env', Nat.reduceEqDiff, Nat.reduceAdd, Nat.reduceMul, reduceIte, Nat.reduceLeDiff, Nat.reduceLT, Nat.reduceBEq, reduceCtorEq, hP, ]); (repeat refine qI ?_)))
        refine WV_loopK K80_2 [1000] (fun _ : Unit => True) (fun _ => 0) (fun _ => [(6, iv 20)]) (fun _ => [(1000, .box (cellsG Pr.cds (arr L l) jk))]) () trivial ?_ ?_
        · exact Sub_au
        · rintro - -
          simp only [go_sem, init_env', Nat.reduceEqDiff, Nat.reduceAdd, Nat.reduceMul, reduceIte, Nat.reduceLeDiff, Nat.reduceLT, Nat.reduceBEq, reduceCtorEq]
          (repeat ((first | refine WV_seq_ ?_ | refine WV_block ?_ | refine WV_ops ?_ | refine WV_skip ?_ | refine WV_exit ?_); (try simp only [go_sem, init_env', Nat.reduceEqDiff, Nat.reduceAdd, Nat.reduceMul, reduceIte, Nat.reduceLeDiff, Nat.reduceLT, Nat.reduceBEq, reduceCtorEq, hP, ]); (repeat refine qI ?_)))
          (refine WV_cond rfl (fun h => ?_) (fun h => ?_))
          · have h : (20 : Int) < n := by simpa using h
            omega
          · (refine WV_exit ?_; simp only [go_sem, init_env', Nat.reduceEqDiff, Nat.reduceAdd, Nat.reduceMul, reduceIte, Nat.reduceLeDiff, Nat.reduceLT, Nat.reduceBEq, reduceCtorEq])
            ((try simp only [thenQ, inQ, RetQL, RetOkL, resAll, resA]); (try simp only [go_sem, init_env', Nat.reduceEqDiff, Nat.reduceAdd, Nat.reduceMul, reduceIte, Nat.reduceLeDiff, Nat.reduceLT, Nat.reduceBEq, reduceCtorEq, tupA, AV.keepP, AV.keepPL]); refine ⟨_, [.box (cellsG Pr.cds (arr L l) jk)], rfl, KeepL_mk rfl rfl ?_ ?_ rfl, ?_⟩)
            · simp only [go_sem, init_env', Nat.reduceEqDiff, Nat.reduceAdd, Nat.reduceMul, reduceIte, Nat.reduceLeDiff, Nat.reduceLT, Nat.reduceBEq, reduceCtorEq, keepAll, Ob.keepP]
            · simp only [go_sem, init_env', Nat.reduceEqDiff, Nat.reduceAdd, Nat.reduceMul, reduceIte, Nat.reduceLeDiff, Nat.reduceLT, Nat.reduceBEq, reduceCtorEq, winAll]
            · exact ⟨rfl, _, hl, rfl⟩

theorem sort69 {L : List Pr} {n cap jk : Nat} (hn : 0 < n) (hn20 : n < 20) (hl0 : L.length = n) (ht : ∀ p ∈ L, 0 ≤ p.time ∧ p.time ≤ 9999) :
    FSpecL Try.prog 69 [.vw 2 1000 0 n cap, .fn 70 []] [.box (cellsG Pr.cds L jk)] [] (fun res l' => res = .tup [] ∧ ∃ l, Ordered (keyT L) n l ∧ l' = [.box (cellsG Pr.cds (arr L l) jk)]) := by
  refine FSpecL_of c69 (by first | simp | exact Nat.le_of_ble_eq_true rfl) (Nat.le_refl _) (by decide) (by decide) fun C hP hN hC hL => ?_; rw [init_env', ownW_upd (by first | simp | exact Nat.le_of_ble_eq_true rfl)]; simp only [ir69, updL, updLo, List.map_nil, List.map_cons, Nat.reduceAdd, ]
  (repeat ((first | refine WV_seq_ ?_ | refine WV_block ?_ | refine WV_ops ?_ | refine WV_skip ?_ | refine WV_exit ?_); (try simp only [go_sem, init_env', Nat.reduceEqDiff, Nat.reduceAdd, Nat.reduceMul, reduceIte, Nat.reduceLeDiff, Nat.reduceLT, Nat.reduceBEq, reduceCtorEq, hP, ]); (repeat refine qI ?_)))
  refine AS_lend [1000] (stable80 (jk := jk) hn hn20 hl0 ht) rfl rfl rfl (by decide) rfl ?_ ?_
  · simp only [go_sem, init_env', Nat.reduceEqDiff, Nat.reduceAdd, Nat.reduceMul, reduceIte, Nat.reduceLeDiff, Nat.reduceLT, Nat.reduceBEq, reduceCtorEq, obsLend, Ob.lend]
  · rintro r l' ⟨rfl, l, hl, rfl⟩
    refine ⟨_, _, rfl, by simp only [obsBack, Ob.back, back_cellsG]; rfl, ?_⟩
    simp only [go_sem, init_env', Nat.reduceEqDiff, Nat.reduceAdd, Nat.reduceMul, reduceIte, Nat.reduceLeDiff, Nat.reduceLT, Nat.reduceBEq, reduceCtorEq, hP, ownBack]
    ((try simp only [thenQ, inQ, RetQL, RetOkL, resAll, resA]); (try simp only [go_sem, init_env', Nat.reduceEqDiff, Nat.reduceAdd, Nat.reduceMul, reduceIte, Nat.reduceLeDiff, Nat.reduceLT, Nat.reduceBEq, reduceCtorEq, tupA, AV.keepP, AV.keepPL]); refine ⟨_, [.box (cellsG Pr.cds (arr L l) jk)], rfl, KeepL_mk rfl rfl ?_ ?_ rfl, ?_⟩)
    · simp only [go_sem, init_env', Nat.reduceEqDiff, Nat.reduceAdd, Nat.reduceMul, reduceIte, Nat.reduceLeDiff, Nat.reduceLT, Nat.reduceBEq, reduceCtorEq, keepAll, Ob.keepP]
    · simp only [go_sem, init_env', Nat.reduceEqDiff, Nat.reduceAdd, Nat.reduceMul, reduceIte, Nat.reduceLeDiff, Nat.reduceLT, Nat.reduceBEq, reduceCtorEq, winAll]
    · exact ⟨rfl, _, hl, rfl⟩

theorem clone56 (l : List Pr) (hl : l.length ≤ 1000) : FSpec Try.prog 56 [.c (prsC l)] (.c (prsC l)) := by
  have hmax : maxLen = 9223372036854775807 := rfl
  refine FSpec_of c56 (Nat.le_refl _) (by decide) fun C hP hN hC hL => ?_
  simp only [ir56, prsC]
  cases l with
  | nil =>
    (repeat ((first | refine WV_seq_ ?_ | refine WV_block ?_ | refine WV_ops ?_ | refine WV_skip ?_ | refine WV_exit ?_); (try simp only [go_sem, init_env', Nat.reduceEqDiff, Nat.reduceAdd, Nat.reduceMul, reduceIte, Nat.reduceLeDiff, Nat.reduceLT, Nat.reduceBEq, reduceCtorEq, hP, ]); (repeat refine qI ?_)))
    intro b
    (repeat ((first | refine WV_seq_ ?_ | refine WV_block ?_ | refine WV_ops ?_ | refine WV_skip ?_ | refine WV_exit ?_); (try simp only [go_sem, init_env', Nat.reduceEqDiff, Nat.reduceAdd, Nat.reduceMul, reduceIte, Nat.reduceLeDiff, Nat.reduceLT, Nat.reduceBEq, reduceCtorEq, hP, ]); (repeat refine qI ?_)))
    cases b
    · (refine WV_cond rfl (fun h => ?_) (fun h => ?_))
      · simp at h
      · (repeat ((first | refine WV_seq_ ?_ | refine WV_block ?_ | refine WV_ops ?_ | refine WV_skip ?_ | refine WV_exit ?_); (try simp only [go_sem, init_env', Nat.reduceEqDiff, Nat.reduceAdd, Nat.reduceMul, reduceIte, Nat.reduceLeDiff, Nat.reduceLT, Nat.reduceBEq, reduceCtorEq, hP, List.all_nil]); (repeat refine qI ?_)))
        (refine WV_ret ?_; simp only [thenQ, inQ, RetQ, RetOk, resAll, resA]; simp only [go_sem, init_env', Nat.reduceEqDiff, Nat.reduceAdd, Nat.reduceMul, reduceIte, Nat.reduceLeDiff, Nat.reduceLT, Nat.reduceBEq, reduceCtorEq, tupA, AV.port, AV.portL, exists_eq_left', ]; (first | exact AVle.of rfl | refine AVle.of ?_ | skip))
    · (refine WV_cond rfl (fun h => ?_) (fun h => ?_))
      · (repeat ((first | refine WV_seq_ ?_ | refine WV_block ?_ | refine WV_ops ?_ | refine WV_skip ?_ | refine WV_exit ?_); (try simp only [go_sem, init_env', Nat.reduceEqDiff, Nat.reduceAdd, Nat.reduceMul, reduceIte, Nat.reduceLeDiff, Nat.reduceLT, Nat.reduceBEq, reduceCtorEq, hP, ]); (repeat refine qI ?_)))
        (refine WV_ret ?_; simp only [thenQ, inQ, RetQ, RetOk, resAll, resA]; simp only [go_sem, init_env', Nat.reduceEqDiff, Nat.reduceAdd, Nat.reduceMul, reduceIte, Nat.reduceLeDiff, Nat.reduceLT, Nat.reduceBEq, reduceCtorEq, tupA, AV.port, AV.portL, exists_eq_left', ])
        exact AVle.nil 2
      · simp at h
  | cons a l =>
    (repeat ((first | refine WV_seq_ ?_ | refine WV_block ?_ | refine WV_ops ?_ | refine WV_skip ?_ | refine WV_exit ?_); (try simp only [go_sem, init_env', Nat.reduceEqDiff, Nat.reduceAdd, Nat.reduceMul, reduceIte, Nat.reduceLeDiff, Nat.reduceLT, Nat.reduceBEq, reduceCtorEq, hP, ]); (repeat refine qI ?_)))
    (refine WV_cond rfl (fun h => ?_) (fun h => ?_))
    · simp at h
    · clear h
      have hp := prs_two (a :: l)
      simp only [List.map_cons] at hp
      have hlen : l.length + 1 ≤ 1000 := hl
      (repeat ((first | refine WV_seq_ ?_ | refine WV_block ?_ | refine WV_ops ?_ | refine WV_skip ?_ | refine WV_exit ?_); (try simp only [go_sem, init_env', Nat.reduceEqDiff, Nat.reduceAdd, Nat.reduceMul, reduceIte, Nat.reduceLeDiff, Nat.reduceLT, Nat.reduceBEq, reduceCtorEq, hP, hp, List.length_cons]); (repeat refine qI ?_)))
      (refine WV_ret ?_; simp only [thenQ, inQ, RetQ, RetOk, resAll, resA]; simp only [go_sem, init_env', Nat.reduceEqDiff, Nat.reduceAdd, Nat.reduceMul, reduceIte, Nat.reduceLeDiff, Nat.reduceLT, Nat.reduceBEq, reduceCtorEq, tupA, AV.port, AV.portL, exists_eq_left', ]; (first | exact AVle.of rfl | refine AVle.of ?_ | skip))
namespace W
@[reducible] def o56_0 : List Ins := [⟨(some 2), .mv (.k (.c (.raw (.slice none 0 0)))), none, true⟩]
@[reducible] def o56_1 : List Ins := [⟨(some 3), .mv (.t 0), none, true⟩,
  ⟨(some 4), .nils false (.t 3), none, true⟩]
@[reducible] def o56_2 : List Ins := [⟨(some 2), .mv (.k (.c (.raw (.slice none 0 0)))), none, true⟩]
@[reducible] def v56_3 : VC := (.seq (.ops o56_2) .ret)
@[reducible] def v56_4 : VC := (.cond (.t 4) v56_3 .skip)
@[reducible] def o56_5 : List Ins := [⟨(some 5), .bsl 27 2 [], none, true⟩,
  ⟨(some 6), .mv (.t 0), none, true⟩,
  ⟨(some 7), .appv 27 2 16 (.t 5) (.t 6), none, true⟩,
  ⟨(some 2), .mv (.t 7), none, true⟩]
@[reducible] def v56_6 : VC := (.seq (.ops o56_5) .ret)
@[reducible] def v56_7 : VC := (.seq (.seq (.ops o56_1) v56_4) v56_6)
def ir56 : FC := ⟨1, 8, [.t 2], (.seq (.ops o56_0) v56_7)⟩
theorem c56 : compM Try.prog [100007] 56 = some ir56 := by kernel_rfl

end W
/-- A slice of these, that may be written. -/
def postV (S : List Pr) (res : AV) (os : List Ob) : Prop := ∃ cap j, S.length ≤ cap ∧ cap ≤ maxLen ∧ cap * 2 ≤ S.length * 2 + j ∧ res = .vw 2 1000 0 S.length cap ∧ os = [.box (cellsG Pr.cds S j)]
theorem cloneN56 (l : List Pr) (hl : l.length ≤ 1000) (hne : l ≠ []) : FSpecN Try.prog 56 [.c (prsC l)] (postV l) := by
  have hmax : maxLen = 9223372036854775807 := rfl
  refine FSpecN_of W.c56 (Nat.le_refl _) (by decide) fun C hP hN hC hL => ?_
  obtain ⟨a, l, rfl⟩ := List.exists_cons_of_ne_nil hne
  simp only [W.ir56, prsC]
  (repeat ((first | refine WV_seq_ ?_ | refine WV_block ?_ | refine WV_ops ?_ | refine WV_skip ?_ | refine WV_exit ?_); (try simp only [go_sem, init_env', Nat.reduceEqDiff, Nat.reduceAdd, Nat.reduceMul, reduceIte, Nat.reduceLeDiff, Nat.reduceLT, Nat.reduceBEq, reduceCtorEq, hP, ]); (repeat refine qI ?_)))
  (refine WV_cond rfl (fun h => ?_) (fun h => ?_))
  · simp at h
  · clear h
    have hp := prs_two (a :: l)
    simp only [List.map_cons] at hp
    have hlen : l.length + 1 ≤ 1000 := hl
    (repeat ((first | refine WV_seq_ ?_ | refine WV_block ?_ | refine WV_ops ?_ | refine WV_skip ?_ | refine WV_exit ?_); (try simp only [go_sem, init_env', Nat.reduceEqDiff, Nat.reduceAdd, Nat.reduceMul, reduceIte, Nat.reduceLeDiff, Nat.reduceLT, Nat.reduceBEq, reduceCtorEq, hP, hp, List.length_cons]); (repeat refine qI ?_)))
    intro cap j h1 h2 h3
    have ecell : List.map AV.c (a.cds :: List.map Pr.cds l).flatten ++ List.replicate j AV.non = cellsG Pr.cds (a :: l) j := rfl
    simp only [ecell]
    (repeat ((first | refine WV_seq_ ?_ | refine WV_block ?_ | refine WV_ops ?_ | refine WV_skip ?_ | refine WV_exit ?_); (try simp only [go_sem, init_env', Nat.reduceEqDiff, Nat.reduceAdd, Nat.reduceMul, reduceIte, Nat.reduceLeDiff, Nat.reduceLT, Nat.reduceBEq, reduceCtorEq, hP, ]); (repeat refine qI ?_)))
    (refine WV_ret ?_; simp only [thenQ, inQ, RetQN, RetOkN, resAll, resA]; simp only [go_sem, init_env', Nat.reduceEqDiff, Nat.reduceAdd, Nat.reduceMul, reduceIte, Nat.reduceLeDiff, Nat.reduceLT, Nat.reduceBEq, reduceCtorEq, tupA, ])
    refine ⟨[7], .vw 2 1000 0 (a :: l).length cap, _, [.box (cellsG Pr.cds (a :: l) j)], by decide, by decide, ?_, AVle.of rfl, ?_, cap, j, ?_, h2, ?_, rfl, rfl⟩
    · simp only [go_sem, init_env', Nat.reduceEqDiff, Nat.reduceAdd, Nat.reduceMul, reduceIte, Nat.reduceLeDiff, Nat.reduceLT, Nat.reduceBEq, reduceCtorEq, AV.lend, AV.lendL, List.length_cons]
    · simp only [go_sem, init_env', Nat.reduceEqDiff, Nat.reduceAdd, Nat.reduceMul, reduceIte, Nat.reduceLeDiff, Nat.reduceLT, Nat.reduceBEq, reduceCtorEq, obsLend, Ob.lend]
    · simpa using h1
    · simpa using h3
end Go.Proofs.Ytkpgpgaojjobgaa

namespace Go.Proofs.Ytkpgpgaojjobgaa
open Go Go.V
@[reducible] def o71_0 : List Ins := [⟨(some 4), .mv (.t 0), none, true⟩,
  ⟨(some 5), .mv (.t 1), none, true⟩,
  ⟨(some 6), .nilc (.t 4), none, true⟩,
  ⟨(some 7), .fa 8 (.t 6), none, true⟩,
  ⟨(some 8), .fa 2 (.t 7), none, true⟩,
  ⟨none, .st 1 (.t 8) (.t 5), none, true⟩]
@[reducible] def o71_1 : List Ins := [⟨(some 9), .mv (.t 0), none, false⟩,
  ⟨(some 10), .mv (.t 0), none, false⟩,
  ⟨(some 11), .nilc (.t 10), none, false⟩,
  ⟨(some 12), .fa 11 (.t 11), none, false⟩,
  ⟨(some 13), .fa 0 (.t 12), none, false⟩,
  ⟨(some 14), .ld true 1 (.t 13), none, false⟩,
  ⟨(some 15), .mv (.t 0), none, false⟩,
  ⟨(some 16), .nilc (.t 15), none, false⟩,
  ⟨(some 17), .fa 8 (.t 16), none, false⟩,
  ⟨(some 18), .ld false 3 (.t 17), none, false⟩,
  ⟨(some 19), .mv (.t 0), none, false⟩,
  ⟨(some 20), .nilc (.t 19), none, false⟩,
  ⟨(some 21), .fa 7 (.t 20), none, false⟩,
  ⟨(some 22), .ld true 1 (.t 21), none, false⟩,
  ⟨(some 23), .bld [(.c (.int .i64 0)), (.c (.int .i64 0)), (.c (.int .i64 0)), (.c (.int .i64 0))] [(0, 3, (.t 18)), (3, 1, (.t 22))], none, false⟩,
  ⟨(some 24), .bsl 73 4 [(.t 23)], none, false⟩,
  ⟨(some 25), .app 73 4 32 (.t 14) (.t 24), none, false⟩,
  ⟨(some 26), .nilc (.t 9), none, true⟩,
  ⟨(some 27), .fa 11 (.t 26), none, true⟩,
  ⟨(some 28), .fa 0 (.t 27), none, true⟩,
  ⟨none, .st 1 (.t 28) (.t 25), none, true⟩]
def ir71 : FC := ⟨2, 29, [], (.seq (.ops o71_0) (.ops o71_1))⟩
@[reducible] def o81_0 : List Ins := [⟨(some 2), .mv (.t 0), none, true⟩,
  ⟨(some 3), .nilc (.t 2), none, true⟩,
  ⟨(some 4), .fa 5 (.t 3), none, true⟩,
  ⟨(some 5), .ld true 1 (.t 4), none, true⟩,
  ⟨(some 6), .len (.t 5), none, true⟩,
  ⟨(some 7), .bin .gtr (.t 6) (.k (.c (.int .i64 0))), none, true⟩,
  ⟨(some 8), .mv (.t 7), none, true⟩,
  ⟨(some 9), .mv (.t 0), (some (8, true)), false⟩,
  ⟨(some 10), .nilc (.t 9), (some (8, true)), false⟩,
  ⟨(some 11), .fa 5 (.t 10), (some (8, true)), false⟩,
  ⟨(some 12), .ld true 1 (.t 11), (some (8, true)), false⟩,
  ⟨(some 13), .ia 2 (.t 12) (.k (.c (.int .i64 0))), (some (8, true)), false⟩,
  ⟨(some 14), .fa 1 (.t 13), (some (8, true)), false⟩,
  ⟨(some 15), .ld true 1 (.t 14), (some (8, true)), false⟩,
  ⟨(some 16), .mv (.t 0), (some (8, true)), false⟩,
  ⟨(some 17), .nilc (.t 16), (some (8, true)), false⟩,
  ⟨(some 18), .fa 7 (.t 17), (some (8, true)), false⟩,
  ⟨(some 19), .ld true 1 (.t 18), (some (8, true)), false⟩,
  ⟨(some 20), .bin .leq (.t 15) (.t 19), (some (8, true)), true⟩,
  ⟨(some 21), .pick (.t 8) (.t 20) (.k (.c (.bool false))), none, true⟩]
@[reducible] def v81_1 : VC := (.cond (.t 21) .skip (.exit 0))
@[reducible] def o81_2 : List Ins := [⟨(some 22), .mv (.t 0), none, false⟩,
  ⟨(some 23), .nilc (.t 22), none, false⟩,
  ⟨(some 24), .fa 6 (.t 23), none, false⟩,
  ⟨(some 25), .ld true 1 (.t 24), none, false⟩,
  ⟨(some 26), .mv (.t 0), none, false⟩,
  ⟨(some 27), .nilc (.t 26), none, false⟩,
  ⟨(some 28), .fa 5 (.t 27), none, false⟩,
  ⟨(some 29), .ld true 1 (.t 28), none, false⟩,
  ⟨(some 30), .ia 2 (.t 29) (.k (.c (.int .i64 0))), none, false⟩,
  ⟨(some 31), .fa 0 (.t 30), none, false⟩,
  ⟨(some 32), .ld true 1 (.t 31), none, false⟩,
  ⟨(some 33), .ia 1 (.t 25) (.t 32), none, true⟩,
  ⟨none, .st 1 (.t 33) (.k (.c (.bool true))), none, true⟩]
@[reducible] def o81_3 : List Ins := [⟨(some 34), .mv (.t 0), none, true⟩,
  ⟨(some 35), .mv (.t 0), none, true⟩,
  ⟨(some 36), .nilc (.t 35), none, true⟩,
  ⟨(some 37), .fa 5 (.t 36), none, true⟩,
  ⟨(some 38), .ld true 1 (.t 37), none, true⟩,
  ⟨(some 39), .slc 2 (.t 38) (some (.k (.c (.int .i64 1)))) none, none, true⟩,
  ⟨(some 40), .nilc (.t 34), none, true⟩,
  ⟨(some 41), .fa 5 (.t 40), none, true⟩,
  ⟨none, .st 1 (.t 41) (.t 39), none, true⟩]
@[reducible] def v81_4 : VC := (.seq (.ops o81_2) (.ops o81_3))
@[reducible] def v81_5 : VC := (.block 1 v81_4)
@[reducible] def v81_6 : VC := (.seq (.seq (.ops o81_0) v81_1) v81_5)
-- K81_1: changed and kept: []
@[reducible] def K81_1 : List Nat := [0]
@[reducible] def v81_7 : VC := (.loop v81_6)
def ir81 : FC := ⟨1, 42, [], (.block 0 v81_7)⟩
@[reducible] def o82_0 : List Ins := [⟨(some 4), .mv (.k (.c (.bool false))), none, true⟩]
@[reducible] def o82_1 : List Ins := [⟨(some 5), .mv (.t 0), none, true⟩,
  ⟨(some 6), .mv (.t 1), none, true⟩,
  ⟨(some 7), .call (.k (.fn 89 [])) [(.t 5), (.t 6)], none, true⟩,
  ⟨(some 8), .bin .geq (.t 7) (.k (.c (.int .i64 0))), none, true⟩,
  ⟨(some 4), .mv (.t 8), none, true⟩]
@[reducible] def v82_2 : VC := (.seq (.ops o82_1) .ret)
def ir82 : FC := ⟨2, 9, [.t 4], (.seq (.ops o82_0) v82_2)⟩
@[reducible] def o89_0 : List Ins := [⟨(some 4), .mv (.k (.c (.int .i64 0))), none, true⟩]
@[reducible] def o89_1 : List Ins := [⟨(some 6), .mv (.t 0), none, true⟩,
  ⟨(some 7), .len (.t 6), none, true⟩,
  ⟨(some 8), .mv (.k (.c (.int .i64 0))), none, true⟩]
@[reducible] def o89_2 : List Ins := [⟨(some 9), .bin .lss (.t 8) (.t 7), none, true⟩]
@[reducible] def o89_3 : List Ins := [⟨(some 10), .mv (.t 8), none, true⟩,
  ⟨(some 5), .mv (.t 10), none, true⟩]
@[reducible] def o89_4 : List Ins := [⟨(some 11), .mv (.t 1), none, true⟩,
  ⟨(some 12), .mv (.t 0), none, true⟩,
  ⟨(some 13), .mv (.t 5), none, true⟩,
  ⟨(some 14), .ia 1 (.t 12) (.t 13), none, true⟩,
  ⟨(some 15), .ld true 1 (.t 14), none, true⟩,
  ⟨(some 16), .eqs false (.t 11) (.t 15), none, true⟩]
@[reducible] def o89_5 : List Ins := [⟨(some 17), .mv (.t 5), none, true⟩,
  ⟨(some 4), .mv (.t 17), none, true⟩]
@[reducible] def v89_6 : VC := (.seq (.ops o89_5) .ret)
@[reducible] def v89_7 : VC := (.cond (.t 16) v89_6 .skip)
@[reducible] def v89_8 : VC := (.seq (.ops o89_4) v89_7)
@[reducible] def v89_9 : VC := (.seq (.ops o89_3) v89_8)
@[reducible] def o89_10 : List Ins := [⟨(some 18), .bin .add (.t 8) (.k (.c (.int .i64 1))), none, true⟩,
  ⟨(some 8), .mv (.t 18), none, true⟩]
@[reducible] def v89_11 : VC := (.seq (.block 1 v89_9) (.ops o89_10))
@[reducible] def v89_12 : VC := (.seq (.cond (.t 9) .skip (.exit 0)) v89_11)
@[reducible] def v89_13 : VC := (.seq (.ops o89_2) v89_12)
-- K89_1: changed and kept: [8]
@[reducible] def K89_1 : List Nat := [0, 1, 7]
@[reducible] def v89_14 : VC := (.loop v89_13)
@[reducible] def v89_15 : VC := (.block 0 v89_14)
@[reducible] def o89_16 : List Ins := [⟨(some 4), .mv (.k (.c (.int .i64 (-1)))), none, true⟩]
@[reducible] def v89_17 : VC := (.seq (.ops o89_16) .ret)
@[reducible] def v89_18 : VC := (.seq (.seq (.ops o89_1) v89_15) v89_17)
def ir89 : FC := ⟨2, 19, [.t 4], (.seq (.ops o89_0) v89_18)⟩
@[reducible] def o83_0 : List Ins := [⟨(some 2), .box 5 (.t 0), none, true⟩,
  ⟨(some 4), .mv (.k (.c (.int .i64 0))), none, true⟩]
@[reducible] def o83_1 : List Ins := [⟨(some 5), .mv (.t 1), none, true⟩,
  ⟨(some 6), .bin .rem (.t 5) (.k (.c (.int .i64 2))), none, true⟩,
  ⟨(some 7), .bin .eql (.t 6) (.k (.c (.int .i64 0))), none, true⟩]
@[reducible] def o83_2 : List Ins := [⟨(some 8), .fa 0 (.t 2), none, true⟩,
  ⟨(some 9), .ld true 1 (.t 8), none, true⟩,
  ⟨(some 10), .mv (.t 1), none, true⟩,
  ⟨(some 11), .bin .quo (.t 10) (.k (.c (.int .i64 2))), none, true⟩,
  ⟨(some 12), .ia 2 (.t 9) (.t 11), none, true⟩,
  ⟨(some 13), .fa 0 (.t 12), none, true⟩,
  ⟨(some 14), .ld true 1 (.t 13), none, true⟩,
  ⟨(some 4), .mv (.t 14), none, true⟩]
@[reducible] def v83_3 : VC := (.seq (.ops o83_2) .ret)
@[reducible] def v83_4 : VC := (.cond (.t 7) v83_3 .skip)
@[reducible] def o83_5 : List Ins := [⟨(some 15), .fa 0 (.t 2), none, true⟩,
  ⟨(some 16), .ld true 1 (.t 15), none, true⟩,
  ⟨(some 17), .mv (.t 1), none, true⟩,
  ⟨(some 18), .bin .quo (.t 17) (.k (.c (.int .i64 2))), none, true⟩,
  ⟨(some 19), .ia 2 (.t 16) (.t 18), none, true⟩,
  ⟨(some 20), .fa 1 (.t 19), none, true⟩,
  ⟨(some 21), .ld true 1 (.t 20), none, true⟩,
  ⟨(some 4), .mv (.t 21), none, true⟩]
@[reducible] def v83_6 : VC := (.seq (.ops o83_5) .ret)
@[reducible] def v83_7 : VC := (.seq (.seq (.ops o83_1) v83_4) v83_6)
def ir83 : FC := ⟨2, 22, [.t 4], (.seq (.ops o83_0) v83_7)⟩
theorem c71 : compM Try.prog [] 71 = some ir71 := by kernel_rfl
theorem c81 : compM Try.prog [] 81 = some ir81 := by kernel_rfl
theorem c82 : compM Try.prog [] 82 = some ir82 := by kernel_rfl
theorem c89 : compM Try.prog [] 89 = some ir89 := by kernel_rfl
theorem c83 : compM Try.prog [] 83 = some ir83 := by kernel_rfl



def bcd (b : Bool) : List CD := [.bool b]
theorem bcd_one (b : Bool) : (bcd b).length = 1 := rfl
def carC (t : Tray) (s : Cs) : List AV := [.c (recsC t.recs), iv t.at_, iv t.way, iv t.step, .c (prsC t.pres), .c (prsC s.q), .vw 1 1001 0 (2 * t.n) (2 * t.n), iv s.now, iv s.at_, iv (wayI s.up), iv s.side, .gr 1002, .gr 1003, iv s.steps, iv s.end_]
def carO (t : Tray) (s : Cs) : List Ob := [.box (carC t s), .box (cellsG bcd s.pins 0), .grow 73 4 (s.spells.map Sp.cds), .grow 41 2 (s.plays.map Pr.cds)]
theorem sps_four (l : List Sp) : ((l.map Sp.cds).all fun e => e.length == 4) = true := by
  rw [List.all_eq_true]; intro e he; obtain ⟨n, _, rfl⟩ := List.mem_map.1 he; rfl
theorem carO_place2 (t : Tray) (s : Cs) : (ownW (carO t s) [] 1002).isPlace = false := rfl
theorem carO_place3 (t : Tray) (s : Cs) : (ownW (carO t s) [] 1003).isPlace = false := rfl

set_option maxRecDepth 20000 in
set_option maxHeartbeats 8000000 in
theorem mark71 (t : Tray) (s : Cs) (side : Int) (h1 : s.spells.length ≤ 5000) :
    FSpecL Try.prog 71 [.bp 1000 0, iv side] (carO t s) [] (fun res l' => res = .tup [] ∧ l' = carO t (s.mark side)) := by
  have hmax : maxLen = 9223372036854775807 := rfl
  have hs4 := sps_four s.spells
  refine FSpecL_ofX c71 (by first | simp | exact Nat.le_of_ble_eq_true rfl) (Nat.le_refl _) (by decide) (by decide) fun C hP hN hC hpin hL => ?_; rw [init_env', ownW_upd (by first | simp | exact Nat.le_of_ble_eq_true rfl)]; simp only [ir71, updL, updLo, List.map_nil, List.map_cons, Nat.reduceAdd, carO, carC]
  refine WV_post ?_
  (repeat ((first | refine WV_seq_ ?_ | refine WV_block ?_ | refine WV_ops ?_ | refine WV_skip ?_ | refine WV_exit ?_); (try simp only [go_sem, init_env', Nat.reduceEqDiff, Nat.reduceAdd, Nat.reduceMul, reduceIte, Nat.reduceLeDiff, Nat.reduceLT, Nat.reduceBEq, reduceCtorEq, hP, hs4, List.length_append, List.length_map]); (repeat refine qI ?_)))
  refine ⟨_, fun a w hg => Gam_move (d := 25) (n := 1002) (by decide) (fun h => by have := hpin 1002 h; rw [carO_place2] at this; cases this) rfl hg, ?_⟩
  simp only [go_sem, init_env', Nat.reduceEqDiff, Nat.reduceAdd, Nat.reduceMul, reduceIte, Nat.reduceLeDiff, Nat.reduceLT, Nat.reduceBEq, reduceCtorEq]
  ((try simp only [thenQ, inQ, RetQL, RetOkL, resAll, resA]); (try simp only [go_sem, init_env', Nat.reduceEqDiff, Nat.reduceAdd, Nat.reduceMul, reduceIte, Nat.reduceLeDiff, Nat.reduceLT, Nat.reduceBEq, reduceCtorEq, tupA, AV.keepP, AV.keepPL]); refine ⟨_, carO t (s.mark side), rfl, KeepL_mk rfl rfl ?_ ?_ rfl, ?_⟩)
  · simp only [go_sem, init_env', Nat.reduceEqDiff, Nat.reduceAdd, Nat.reduceMul, reduceIte, Nat.reduceLeDiff, Nat.reduceLT, Nat.reduceBEq, reduceCtorEq, keepAll, Ob.keepP, AV.keepP, AV.keepPL, carO, carC, Cs.mark, List.map_append, Sp.cds]
  · simp only [go_sem, init_env', Nat.reduceEqDiff, Nat.reduceAdd, Nat.reduceMul, reduceIte, Nat.reduceLeDiff, Nat.reduceLT, Nat.reduceBEq, reduceCtorEq, winAll]
  · exact ⟨rfl, rfl⟩

/-- The first place of a value. -/
def idxB (v : Bool) : List Bool → Int → Int
  | [], _ => -1
  | b :: l, k => if v == b then k else idxB v l (k + 1)
theorem idxB_any : ∀ (l : List Bool) (k : Int), 0 ≤ k → decide (0 ≤ idxB true l k) = !(l.all (!·))
  | [], k, _ => rfl
  | b :: l, k, hk => by
    cases b
    · have e : idxB true (false :: l) k = idxB true l (k + 1) := rfl
      rw [e, idxB_any l (k + 1) (by omega)]
      rfl
    · have e : idxB true (true :: l) k = k := rfl
      rw [e]
      simp; omega
set_option maxHeartbeats 4000000 in
theorem index89 (l : List Bool) (v : Bool) (hl : l.length ≤ 1000) : FSpec Try.prog 89 [.c (.sl 1 (l.map bcd)), bv v] (iv (idxB v l 0)) := by
  refine FSpec_of c89 (Nat.le_refl _) (by decide) fun C hP hN hC hL => ?_
  simp only [ir89]
  (repeat ((first | refine WV_seq_ ?_ | refine WV_block ?_ | refine WV_ops ?_ | refine WV_skip ?_ | refine WV_exit ?_); (try simp only [go_sem, init_env', Nat.reduceEqDiff, Nat.reduceAdd, Nat.reduceMul, reduceIte, Nat.reduceLeDiff, Nat.reduceLT, Nat.reduceBEq, reduceCtorEq, hP, List.length_map]); (repeat refine qI ?_)))
  (refine WV_loopK K89_1 [] (fun k : Nat => k ≤ l.length ∧ idxB v l 0 = idxB v (l.drop k) k) (fun k => l.length - k) (fun k => [(8, iv k)]) (fun _ => []) 0 ⟨Nat.zero_le _, rfl⟩ ?_ ?_)
  · exact Sub_au
  · intro k ⟨hk, hx⟩
    simp only [go_sem, init_env', Nat.reduceEqDiff, Nat.reduceAdd, Nat.reduceMul, reduceIte, Nat.reduceLeDiff, Nat.reduceLT, Nat.reduceBEq, reduceCtorEq]
    (repeat ((first | refine WV_seq_ ?_ | refine WV_block ?_ | refine WV_ops ?_ | refine WV_skip ?_ | refine WV_exit ?_); (try simp only [go_sem, init_env', Nat.reduceEqDiff, Nat.reduceAdd, Nat.reduceMul, reduceIte, Nat.reduceLeDiff, Nat.reduceLT, Nat.reduceBEq, reduceCtorEq, hP, ]); (repeat refine qI ?_)))
    (refine WV_cond rfl (fun h => ?_) (fun h => ?_))
    · have h : k < l.length := by simpa using h
      have hI : (k : Int) < (l.length : Int) := by omega
      have hw2 := w64 (n := (k : Int) + 1) (by omega) (by omega)
      rw [List.drop_eq_getElem_cons h] at hx
      simp only [idxB] at hx
      (repeat ((first | refine WV_seq_ ?_ | refine WV_block ?_ | refine WV_ops ?_ | refine WV_skip ?_ | refine WV_exit ?_); (try simp only [go_sem, init_env', Nat.reduceEqDiff, Nat.reduceAdd, Nat.reduceMul, reduceIte, Nat.reduceLeDiff, Nat.reduceLT, Nat.reduceBEq, reduceCtorEq, hP, map_getD h, hI, List.length_map, bcd]); (repeat refine qI ?_)))
      cases hb : (v == l[k])
      · rw [hb] at hx
        (refine WV_cond rfl (fun h => ?_) (fun h => ?_))
        · simp at h
        · (repeat ((first | refine WV_seq_ ?_ | refine WV_block ?_ | refine WV_ops ?_ | refine WV_skip ?_ | refine WV_exit ?_); (try simp only [go_sem, init_env', Nat.reduceEqDiff, Nat.reduceAdd, Nat.reduceMul, reduceIte, Nat.reduceLeDiff, Nat.reduceLT, Nat.reduceBEq, reduceCtorEq, hP, hw2]); (repeat refine qI ?_)))
          refine ⟨k + 1, ⟨by omega, by rw [hx]; rfl⟩, by omega, ?_⟩
          exact Sub_au
      · rw [hb] at hx
        (refine WV_cond rfl (fun h => ?_) (fun h => ?_))
        · (repeat ((first | refine WV_seq_ ?_ | refine WV_block ?_ | refine WV_ops ?_ | refine WV_skip ?_ | refine WV_exit ?_); (try simp only [go_sem, init_env', Nat.reduceEqDiff, Nat.reduceAdd, Nat.reduceMul, reduceIte, Nat.reduceLeDiff, Nat.reduceLT, Nat.reduceBEq, reduceCtorEq, hP, ]); (repeat refine qI ?_)))
          (refine WV_ret ?_; simp only [thenQ, inQ, RetQ, RetOk, resAll, resA]; simp only [go_sem, init_env', Nat.reduceEqDiff, Nat.reduceAdd, Nat.reduceMul, reduceIte, Nat.reduceLeDiff, Nat.reduceLT, Nat.reduceBEq, reduceCtorEq, tupA, AV.port, AV.portL, exists_eq_left', ]; (first | exact AVle.of rfl | refine AVle.of ?_ | skip))
          rw [hx]; rfl
        · simp at h
    · have h : k = l.length := by simp at h; omega
      subst h
      (repeat ((first | refine WV_seq_ ?_ | refine WV_block ?_ | refine WV_ops ?_ | refine WV_skip ?_ | refine WV_exit ?_); (try simp only [go_sem, init_env', Nat.reduceEqDiff, Nat.reduceAdd, Nat.reduceMul, reduceIte, Nat.reduceLeDiff, Nat.reduceLT, Nat.reduceBEq, reduceCtorEq, hP, ]); (repeat refine qI ?_)))
      (refine WV_ret ?_; simp only [thenQ, inQ, RetQ, RetOk, resAll, resA]; simp only [go_sem, init_env', Nat.reduceEqDiff, Nat.reduceAdd, Nat.reduceMul, reduceIte, Nat.reduceLeDiff, Nat.reduceLT, Nat.reduceBEq, reduceCtorEq, tupA, AV.port, AV.portL, exists_eq_left', ]; (first | exact AVle.of rfl | refine AVle.of ?_ | skip))
      rw [hx, List.drop_length]
      rfl
theorem contains82 (l : List Bool) (hl : l.length ≤ 1000) : FSpec Try.prog 82 [.c (.sl 1 (l.map bcd)), bv true] (bv (!(l.all (!·)))) := by
  refine FSpec_of c82 (Nat.le_refl _) (by decide) fun C hP hN hC hL => ?_
  simp only [ir82]
  (repeat ((first | refine WV_seq_ ?_ | refine WV_block ?_ | refine WV_ops ?_ | refine WV_skip ?_ | refine WV_exit ?_); (try simp only [go_sem, init_env', Nat.reduceEqDiff, Nat.reduceAdd, Nat.reduceMul, reduceIte, Nat.reduceLeDiff, Nat.reduceLT, Nat.reduceBEq, reduceCtorEq, hP, ]); (repeat refine qI ?_)))
  (refine AS_pure (index89 l true hl) rfl rfl rfl rfl rfl ?_; simp only [go_sem, init_env', Nat.reduceEqDiff, Nat.reduceAdd, Nat.reduceMul, reduceIte, Nat.reduceLeDiff, Nat.reduceLT, Nat.reduceBEq, reduceCtorEq, hP, ]; (repeat refine qI ?_); (repeat ((first | refine WV_seq_ ?_ | refine WV_block ?_ | refine WV_ops ?_ | refine WV_skip ?_ | refine WV_exit ?_); (try simp only [go_sem, init_env', Nat.reduceEqDiff, Nat.reduceAdd, Nat.reduceMul, reduceIte, Nat.reduceLeDiff, Nat.reduceLT, Nat.reduceBEq, reduceCtorEq, hP, ]); (repeat refine qI ?_))))
  (refine WV_ret ?_; simp only [thenQ, inQ, RetQ, RetOk, resAll, resA]; simp only [go_sem, init_env', Nat.reduceEqDiff, Nat.reduceAdd, Nat.reduceMul, reduceIte, Nat.reduceLeDiff, Nat.reduceLT, Nat.reduceBEq, reduceCtorEq, tupA, AV.port, AV.portL, exists_eq_left', ]; (first | exact AVle.of rfl | refine AVle.of ?_ | skip))
  exact congrArg (fun b => AV.c (CD.bool b)) (idxB_any l 0 (Int.le_refl _))

theorem last83 {t : Tray} (ht : TrayOk t) (s : Nat) (hs : s < 2 * t.n) : FSpec Try.prog 83 [t.av, iv s] (iv (secs t s)) := by
  have hn6 := ht.n6
  have e1 : ((s : Int)).tmod 2 = ((s % 2 : Nat) : Int) := by rw [Int.tmod_eq_emod_of_nonneg (by omega)]; omega
  have e2 : ((s : Int)).tdiv 2 = ((s / 2 : Nat) : Int) := by rw [Int.tdiv_eq_ediv_of_nonneg (by omega)]; omega
  have hk : s / 2 < t.recs.length := by show s / 2 < t.n; omega
  have hI : ((s / 2 : Nat) : Int) < (t.recs.length : Int) := by omega
  have w1 := w64 (n := ((s / 2 : Nat) : Int)) (by omega) (by omega)
  have hrc : t.rc (s / 2) = t.recs[s / 2] := by unfold Tray.rc; simp [hk]
  refine FSpec_of c83 (Nat.le_refl _) (by decide) fun C hP hN hC hL => ?_
  simp only [ir83, Tray.av]
  (repeat ((first | refine WV_seq_ ?_ | refine WV_block ?_ | refine WV_ops ?_ | refine WV_skip ?_ | refine WV_exit ?_); (try simp only [go_sem, init_env', Nat.reduceEqDiff, Nat.reduceAdd, Nat.reduceMul, reduceIte, Nat.reduceLeDiff, Nat.reduceLT, Nat.reduceBEq, reduceCtorEq, hP, e1]); (repeat refine qI ?_)))
  (refine WV_cond rfl (fun h => ?_) (fun h => ?_))
  · have h : s % 2 = 0 := by simp at h; omega
    (repeat ((first | refine WV_seq_ ?_ | refine WV_block ?_ | refine WV_ops ?_ | refine WV_skip ?_ | refine WV_exit ?_); (try simp only [go_sem, init_env', Nat.reduceEqDiff, Nat.reduceAdd, Nat.reduceMul, reduceIte, Nat.reduceLeDiff, Nat.reduceLT, Nat.reduceBEq, reduceCtorEq, hP, e2, w1, recsC, List.length_map, hI, map_getD hk, Rec.cds, Int.natCast_nonneg]); (repeat refine qI ?_)))
    (refine WV_ret ?_; simp only [thenQ, inQ, RetQ, RetOk, resAll, resA]; simp only [go_sem, init_env', Nat.reduceEqDiff, Nat.reduceAdd, Nat.reduceMul, reduceIte, Nat.reduceLeDiff, Nat.reduceLT, Nat.reduceBEq, reduceCtorEq, tupA, AV.port, AV.portL, exists_eq_left', ]; (first | exact AVle.of rfl | refine AVle.of ?_ | skip))
    rw [secs, if_pos h, hrc]
  · have h : ¬ s % 2 = 0 := by simp at h; omega
    (repeat ((first | refine WV_seq_ ?_ | refine WV_block ?_ | refine WV_ops ?_ | refine WV_skip ?_ | refine WV_exit ?_); (try simp only [go_sem, init_env', Nat.reduceEqDiff, Nat.reduceAdd, Nat.reduceMul, reduceIte, Nat.reduceLeDiff, Nat.reduceLT, Nat.reduceBEq, reduceCtorEq, hP, e2, w1, recsC, List.length_map, hI, map_getD hk, Rec.cds, Int.natCast_nonneg]); (repeat refine qI ?_)))
    (refine WV_ret ?_; simp only [thenQ, inQ, RetQ, RetOk, resAll, resA]; simp only [go_sem, init_env', Nat.reduceEqDiff, Nat.reduceAdd, Nat.reduceMul, reduceIte, Nat.reduceLeDiff, Nat.reduceLT, Nat.reduceBEq, reduceCtorEq, tupA, AV.port, AV.portL, exists_eq_left', ]; (first | exact AVle.of rfl | refine AVle.of ?_ | skip))
    rw [secs, if_neg h, hrc]

set_option maxRecDepth 20000 in
set_option maxHeartbeats 8000000 in
theorem press81 {t : Tray} (ht : TrayOk t) {s : Cs} (hs : CsOk t s) (hq : s.q.length ≤ 1000) :
    FSpecL Try.prog 81 [.bp 1000 0] (carO t s) [] (fun res l' => res = .tup [] ∧ l' = carO t s.press) := by
  have hn6 := ht.n6
  have hp := hs.pins
  have hqo := hs.q
  refine FSpecL_of c81 (by first | simp | exact Nat.le_of_ble_eq_true rfl) (Nat.le_refl _) (by decide) (by decide) fun C hP hN hC hL => ?_; rw [init_env', ownW_upd (by first | simp | exact Nat.le_of_ble_eq_true rfl)]; simp only [ir81, updL, updLo, List.map_nil, List.map_cons, Nat.reduceAdd, carO, carC]
  (repeat ((first | refine WV_seq_ ?_ | refine WV_block ?_ | refine WV_ops ?_ | refine WV_skip ?_ | refine WV_exit ?_); (try simp only [go_sem, init_env', Nat.reduceEqDiff, Nat.reduceAdd, Nat.reduceMul, reduceIte, Nat.reduceLeDiff, Nat.reduceLT, Nat.reduceBEq, reduceCtorEq, hP, ]); (repeat refine qI ?_)))
  refine WV_loopK K81_1 [1000, 1001] (fun p : List Pr × List Bool => p.1.length ≤ 1000 ∧ p.2.length = 2 * t.n ∧ (∀ x ∈ p.1, 0 ≤ x.side ∧ x.side < 2 * (t.n : Int)) ∧ pressQ s.now s.q s.pins = pressQ s.now p.1 p.2) (fun p => p.1.length) (fun _ => [])
    (fun p => [(1000, .box (carC t { s with q := p.1, pins := p.2 })), (1001, .box (cellsG bcd p.2 0))]) (s.q, s.pins) ⟨hq, hp, fun x hx => (hqo x hx).1, rfl⟩ ?_ ?_
  · simp only [carC]
    exact Sub_au
  · rintro ⟨q, pins⟩ ⟨hl, hpl, hqs, hpq⟩
    simp only at hl hpl hqs hpq
    simp only [go_sem, init_env', Nat.reduceEqDiff, Nat.reduceAdd, Nat.reduceMul, reduceIte, Nat.reduceLeDiff, Nat.reduceLT, Nat.reduceBEq, reduceCtorEq, carC]
    cases q with
    | nil =>
      (repeat ((first | refine WV_seq_ ?_ | refine WV_block ?_ | refine WV_ops ?_ | refine WV_skip ?_ | refine WV_exit ?_); (try simp only [go_sem, init_env', Nat.reduceEqDiff, Nat.reduceAdd, Nat.reduceMul, reduceIte, Nat.reduceLeDiff, Nat.reduceLT, Nat.reduceBEq, reduceCtorEq, hP, prsC, List.map_nil, List.length_nil, Int.natCast_zero]); (repeat refine qI ?_)))
      (refine WV_cond rfl (fun h => ?_) (fun h => ?_))
      · simp at h
      · (refine WV_exit ?_; simp only [go_sem, init_env', Nat.reduceEqDiff, Nat.reduceAdd, Nat.reduceMul, reduceIte, Nat.reduceLeDiff, Nat.reduceLT, Nat.reduceBEq, reduceCtorEq])
        ((try simp only [thenQ, inQ, RetQL, RetOkL, resAll, resA]); (try simp only [go_sem, init_env', Nat.reduceEqDiff, Nat.reduceAdd, Nat.reduceMul, reduceIte, Nat.reduceLeDiff, Nat.reduceLT, Nat.reduceBEq, reduceCtorEq, tupA, AV.keepP, AV.keepPL]); refine ⟨_, carO t s.press, rfl, KeepL_mk rfl rfl ?_ ?_ rfl, ?_⟩)
        · have e1 : s.press.q = [] := by simp only [Cs.press, hpq]; rfl
          have e2 : s.press.pins = pins := by simp only [Cs.press, hpq]; rfl
          simp only [carO, carC, e1, e2]
          simp only [go_sem, init_env', Nat.reduceEqDiff, Nat.reduceAdd, Nat.reduceMul, reduceIte, Nat.reduceLeDiff, Nat.reduceLT, Nat.reduceBEq, reduceCtorEq, keepAll, Ob.keepP, AV.keepP, AV.keepPL, Cs.press, prsC, List.map_nil]
        · simp only [go_sem, init_env', Nat.reduceEqDiff, Nat.reduceAdd, Nat.reduceMul, reduceIte, Nat.reduceLeDiff, Nat.reduceLT, Nat.reduceBEq, reduceCtorEq, winAll]
        · exact ⟨rfl, rfl⟩
    | cons p q =>
      have hps := hqs p (by simp)
      have hlen : q.length + 1 ≤ 1000 := hl
      have hd : decide ((0 : Int) < ((q.length + 1 : Nat) : Int)) = true := by simp
      have e1 : (((q.length + 1 : Nat) : Int)).toNat = q.length + 1 := by omega
      have e2 : (q.map Pr.cds).take q.length = q.map Pr.cds := List.take_of_length_le (by simp)
      have hI : (0 : Int) < ((q.length + 1 : Nat) : Int) := by omega
      have hI1 : (1 : Int) ≤ ((q.length + 1 : Nat) : Int) := by omega
      have z1 : ((0 : Int)).toNat = 0 := rfl
      have z2 : ((1 : Int)).toNat = 1 := rfl
      simp only [pressQ] at hpq
      (repeat ((first | refine WV_seq_ ?_ | refine WV_block ?_ | refine WV_ops ?_ | refine WV_skip ?_ | refine WV_exit ?_); (try simp only [go_sem, init_env', Nat.reduceEqDiff, Nat.reduceAdd, Nat.reduceMul, reduceIte, Nat.reduceLeDiff, Nat.reduceLT, Nat.reduceBEq, reduceCtorEq, hP, prsC, List.map_cons, List.length_cons, hd, hI, z1, Pr.cds]); (repeat refine qI ?_)))
      (refine WV_cond rfl (fun h => ?_) (fun h => ?_))
      · have h : p.time ≤ s.now := by simpa using h
        rw [if_pos h] at hpq
        have hk : p.side.toNat < pins.length := by omega
        have hcl : (cellsG bcd pins 0).length = 2 * t.n := by rw [cellsG_len bcd_one, hpl]; omega
        have hset : (cellsG bcd pins 0).set p.side.toNat (.c (.bool true)) = cellsG bcd (pins.set p.side.toNat true) 0 := by
          have := cellsG_set bcd_one hk 0 0 (by decide) (.bool true) true rfl
          rwa [Nat.mul_one, Nat.add_zero] at this
        have hI2 : p.side < ((2 * t.n : Nat) : Int) := by omega
        have hc1 : p.side.toNat < 2 * t.n := by omega
        have hc2 : p.side.toNat + 1 ≤ 2 * t.n := by omega
        (repeat ((first | refine WV_seq_ ?_ | refine WV_block ?_ | refine WV_ops ?_ | refine WV_skip ?_ | refine WV_exit ?_); (try simp only [go_sem, init_env', Nat.reduceEqDiff, Nat.reduceAdd, Nat.reduceMul, reduceIte, Nat.reduceLeDiff, Nat.reduceLT, Nat.reduceBEq, reduceCtorEq, hP, prsC, List.map_cons, List.length_cons, hI, hI1, z1, z2, e1, e2, hps.1, hI2, hcl, hc1, hc2, hset, Pr.cds]); (repeat refine qI ?_)))
        refine ⟨(q, pins.set p.side.toNat true), ⟨by simp only; omega, by simpa using hpl, fun x hx => hqs x (by simp [hx]), hpq⟩, by simp, ?_⟩
        simp only [carC, prsC]
        exact Sub_au
      · have h : ¬ p.time ≤ s.now := by simpa using h
        rw [if_neg h] at hpq
        (refine WV_exit ?_; simp only [go_sem, init_env', Nat.reduceEqDiff, Nat.reduceAdd, Nat.reduceMul, reduceIte, Nat.reduceLeDiff, Nat.reduceLT, Nat.reduceBEq, reduceCtorEq])
        ((try simp only [thenQ, inQ, RetQL, RetOkL, resAll, resA]); (try simp only [go_sem, init_env', Nat.reduceEqDiff, Nat.reduceAdd, Nat.reduceMul, reduceIte, Nat.reduceLeDiff, Nat.reduceLT, Nat.reduceBEq, reduceCtorEq, tupA, AV.keepP, AV.keepPL]); refine ⟨_, carO t s.press, rfl, KeepL_mk rfl rfl ?_ ?_ rfl, ?_⟩)
        · have e1 : s.press.q = p :: q := by simp only [Cs.press, hpq]
          have e2 : s.press.pins = pins := by simp only [Cs.press, hpq]
          simp only [carO, carC, e1, e2]
          simp only [go_sem, init_env', Nat.reduceEqDiff, Nat.reduceAdd, Nat.reduceMul, reduceIte, Nat.reduceLeDiff, Nat.reduceLT, Nat.reduceBEq, reduceCtorEq, keepAll, Ob.keepP, AV.keepP, AV.keepPL, Cs.press, prsC, List.map_cons, Pr.cds]
        · simp only [go_sem, init_env', Nat.reduceEqDiff, Nat.reduceAdd, Nat.reduceMul, reduceIte, Nat.reduceLeDiff, Nat.reduceLT, Nat.reduceBEq, reduceCtorEq, winAll]
        · exact ⟨rfl, rfl⟩
end Go.Proofs.Ytkpgpgaojjobgaa

namespace Go.Proofs.Ytkpgpgaojjobgaa
open Go Go.V
@[reducible] def o84_0 : List Ins := [⟨(some 3), .mv (.t 0), none, false⟩,
  ⟨(some 4), .nilc (.t 3), none, false⟩,
  ⟨(some 5), .fa 8 (.t 4), none, false⟩,
  ⟨(some 6), .fa 0 (.t 5), none, false⟩,
  ⟨(some 7), .ld true 1 (.t 6), none, false⟩,
  ⟨(some 8), .mv (.t 0), none, false⟩,
  ⟨(some 9), .nilc (.t 8), none, false⟩,
  ⟨(some 10), .fa 8 (.t 9), none, false⟩,
  ⟨(some 11), .fa 1 (.t 10), none, false⟩,
  ⟨(some 12), .ld true 1 (.t 11), none, false⟩,
  ⟨(some 13), .bin .add (.t 7) (.t 12), none, true⟩,
  ⟨(some 2), .mv (.t 13), none, true⟩]
@[reducible] def o84_1 : List Ins := [⟨(some 14), .mv (.t 2), none, true⟩,
  ⟨(some 15), .bin .geq (.t 14) (.k (.c (.int .i64 0))), none, true⟩,
  ⟨(some 16), .mv (.t 15), none, true⟩,
  ⟨(some 17), .mv (.t 2), (some (16, true)), true⟩,
  ⟨(some 18), .mv (.t 0), (some (16, true)), true⟩,
  ⟨(some 19), .nilc (.t 18), (some (16, true)), true⟩,
  ⟨(some 20), .fa 0 (.t 19), (some (16, true)), true⟩,
  ⟨(some 21), .fa 0 (.t 20), (some (16, true)), true⟩,
  ⟨(some 22), .ld true 1 (.t 21), (some (16, true)), true⟩,
  ⟨(some 23), .len (.t 22), (some (16, true)), true⟩,
  ⟨(some 24), .bin .lss (.t 17) (.t 23), (some (16, true)), true⟩,
  ⟨(some 25), .pick (.t 16) (.t 24) (.k (.c (.bool false))), none, true⟩]
@[reducible] def o84_2 : List Ins := [⟨(some 26), .mv (.t 0), none, true⟩,
  ⟨(some 27), .mv (.t 2), none, true⟩,
  ⟨(some 28), .nilc (.t 26), none, true⟩,
  ⟨(some 29), .fa 8 (.t 28), none, true⟩,
  ⟨(some 30), .fa 0 (.t 29), none, true⟩,
  ⟨none, .st 1 (.t 30) (.t 27), none, true⟩]
@[reducible] def o84_3 : List Ins := [⟨(some 31), .mv (.t 0), none, false⟩,
  ⟨(some 32), .nilc (.t 31), none, false⟩,
  ⟨(some 33), .fa 7 (.t 32), none, false⟩,
  ⟨(some 34), .ld true 1 (.t 33), none, false⟩,
  ⟨(some 35), .mv (.t 0), none, false⟩,
  ⟨(some 36), .nilc (.t 35), none, false⟩,
  ⟨(some 37), .fa 0 (.t 36), none, false⟩,
  ⟨(some 38), .fa 3 (.t 37), none, false⟩,
  ⟨(some 39), .ld true 1 (.t 38), none, false⟩,
  ⟨(some 40), .bin .add (.t 34) (.t 39), none, true⟩,
  ⟨(some 41), .nilc (.t 31), none, true⟩,
  ⟨(some 42), .fa 7 (.t 41), none, true⟩,
  ⟨none, .st 1 (.t 42) (.t 40), none, true⟩]
@[reducible] def o84_4 : List Ins := [⟨(some 43), .mv (.t 0), none, true⟩,
  ⟨(some 44), .nilc (.t 43), none, true⟩,
  ⟨(some 45), .fa 11 (.t 44), none, true⟩,
  ⟨(some 46), .fa 2 (.t 45), none, true⟩,
  ⟨(some 47), .ld true 1 (.t 46), none, true⟩,
  ⟨(some 48), .bin .add (.t 47) (.k (.c (.int .i64 1))), none, true⟩,
  ⟨(some 49), .nilc (.t 43), none, true⟩,
  ⟨(some 50), .fa 11 (.t 49), none, true⟩,
  ⟨(some 51), .fa 2 (.t 50), none, true⟩,
  ⟨none, .st 1 (.t 51) (.t 48), none, true⟩]
@[reducible] def v84_5 : VC := (.seq (.ops o84_3) (.ops o84_4))
@[reducible] def v84_6 : VC := (.seq (.ops o84_2) v84_5)
@[reducible] def o84_7 : List Ins := [⟨(some 52), .mv (.t 0), none, true⟩,
  ⟨(some 53), .mv (.t 0), none, true⟩,
  ⟨(some 54), .nilc (.t 53), none, true⟩,
  ⟨(some 55), .fa 8 (.t 54), none, true⟩,
  ⟨(some 56), .fa 1 (.t 55), none, true⟩,
  ⟨(some 57), .ld true 1 (.t 56), none, true⟩,
  ⟨(some 58), .un .neg (.t 57), none, true⟩,
  ⟨(some 59), .nilc (.t 52), none, true⟩,
  ⟨(some 60), .fa 8 (.t 59), none, true⟩,
  ⟨(some 61), .fa 1 (.t 60), none, true⟩,
  ⟨none, .st 1 (.t 61) (.t 58), none, true⟩]
@[reducible] def v84_8 : VC := (.cond (.t 25) v84_6 (.ops o84_7))
@[reducible] def v84_9 : VC := (.seq (.ops o84_1) v84_8)
@[reducible] def o84_10 : List Ins := [⟨(some 62), .mv (.t 0), none, true⟩,
  ⟨(some 63), .call (.k (.fn 71 [])) [(.t 62), (.k (.c (.int .i64 (-1))))], none, true⟩]
def ir84 : FC := ⟨1, 64, [], (.seq (.seq (.ops o84_0) v84_9) (.ops o84_10))⟩
theorem c84 : compM Try.prog [] 84 = some ir84 := by kernel_rfl



set_option maxRecDepth 20000 in
set_option maxHeartbeats 16000000 in
theorem next84 {t : Tray} (ht : TrayOk t) {s : Cs} (hs : CsOk t s) (h1 : s.spells.length ≤ 5000) (h2 : s.now ≤ 1000000) (h3 : 0 ≤ s.steps ∧ s.steps ≤ 1000000) :
    FSpecL Try.prog 84 [.bp 1000 0] (carO t s) [] (fun res l' => res = .tup [] ∧ l' = carO t (s.next t)) := by
  have hn6 := ht.n6
  have hat := hs.at_
  have hnow := hs.now
  have hst := ht.step
  have hnl : t.recs.length = t.n := rfl
  have w1 := w64 (n := s.now + t.step) (by omega) (by omega)
  have w2 := w64 (n := s.steps + 1) (by omega) (by omega)
  refine FSpecL_of c84 (by first | simp | exact Nat.le_of_ble_eq_true rfl) (Nat.le_refl _) (by decide) (by decide) fun C hP hN hC hL => ?_; rw [init_env', ownW_upd (by first | simp | exact Nat.le_of_ble_eq_true rfl)]; simp only [ir84, updL, updLo, List.map_nil, List.map_cons, Nat.reduceAdd, carO, carC]
  cases hu : s.up
  · have hw : wayI false = -1 := rfl
    have hwn : IntKind.i64.wrap (0 - -1) = 1 := by decide
    have w3 := w64 (n := (s.at_ : Int) + -1) (by omega) (by omega)
    have hI2 : decide ((s.at_ : Int) + -1 < (t.n : Int)) = true := by simp; omega
    by_cases h0 : 0 < s.at_
    · have ea : (s.at_ : Int) + -1 = ((s.at_ - 1 : Nat) : Int) := by omega
      rw [ea] at w3 hI2
      have em : s.move t = { s with at_ := s.at_ - 1, now := s.now + t.step, steps := s.steps + 1 } := by simp [Cs.move, hu, h0]
      have hmk := mark71 t { s with at_ := s.at_ - 1, now := s.now + t.step, steps := s.steps + 1 } (-1) h1
      (repeat ((first | refine WV_seq_ ?_ | refine WV_block ?_ | refine WV_ops ?_ | refine WV_skip ?_ | refine WV_exit ?_); (try simp only [go_sem, init_env', Nat.reduceEqDiff, Nat.reduceAdd, Nat.reduceMul, reduceIte, Nat.reduceLeDiff, Nat.reduceLT, Nat.reduceBEq, reduceCtorEq, hP, hw, ea, w3, recsC, List.length_map, hnl, hI2]); (repeat refine qI ?_)))
      (refine WV_cond rfl (fun h => ?_) (fun h => ?_))
      · (repeat ((first | refine WV_seq_ ?_ | refine WV_block ?_ | refine WV_ops ?_ | refine WV_skip ?_ | refine WV_exit ?_); (try simp only [go_sem, init_env', Nat.reduceEqDiff, Nat.reduceAdd, Nat.reduceMul, reduceIte, Nat.reduceLeDiff, Nat.reduceLT, Nat.reduceBEq, reduceCtorEq, hP, w1, w2]); (repeat refine qI ?_)))
        (refine AS_lend [1000, 1001, 1002, 1003] (hmk) rfl rfl rfl (by decide) rfl (by simp only [go_sem, init_env', Nat.reduceEqDiff, Nat.reduceAdd, Nat.reduceMul, reduceIte, Nat.reduceLeDiff, Nat.reduceLT, Nat.reduceBEq, reduceCtorEq, obsLend, Ob.lend, AV.lend, AV.lendL, carO, carC, hu, hw, recsC]) ?_)
        rintro r l' ⟨rfl, rfl⟩
        (refine ⟨_, _, rfl, (by simp only [carO, carC, obsBack, Ob.back, AV.back, AV.backL, back_cellsG, hu, hw]; rfl), ?_⟩; simp only [go_sem, init_env', Nat.reduceEqDiff, Nat.reduceAdd, Nat.reduceMul, reduceIte, Nat.reduceLeDiff, Nat.reduceLT, Nat.reduceBEq, reduceCtorEq, hP, ownBack, hu, hw])
        ((try simp only [thenQ, inQ, RetQL, RetOkL, resAll, resA]); (try simp only [go_sem, init_env', Nat.reduceEqDiff, Nat.reduceAdd, Nat.reduceMul, reduceIte, Nat.reduceLeDiff, Nat.reduceLT, Nat.reduceBEq, reduceCtorEq, tupA, AV.keepP, AV.keepPL]); refine ⟨_, carO t (s.next t), rfl, KeepL_mk rfl rfl ?_ ?_ rfl, ?_⟩)
        · simp only [Cs.next, em]
          simp only [go_sem, init_env', Nat.reduceEqDiff, Nat.reduceAdd, Nat.reduceMul, reduceIte, Nat.reduceLeDiff, Nat.reduceLT, Nat.reduceBEq, reduceCtorEq, keepAll, Ob.keepP, AV.keepP, AV.keepPL, carO, carC, Cs.mark, hu, hw, recsC]
        · simp only [go_sem, init_env', Nat.reduceEqDiff, Nat.reduceAdd, Nat.reduceMul, reduceIte, Nat.reduceLeDiff, Nat.reduceLT, Nat.reduceBEq, reduceCtorEq, winAll]
        · exact ⟨rfl, rfl⟩
      · simp at h
    · have ea : s.at_ = 0 := by omega
      have em : s.move t = { s with up := true } := by simp [Cs.move, hu, h0]
      have hmk := mark71 t { s with up := true } (-1) h1
      have hd : decide ((0 : Int) ≤ (s.at_ : Int) + -1) = false := by simp; omega
      (repeat ((first | refine WV_seq_ ?_ | refine WV_block ?_ | refine WV_ops ?_ | refine WV_skip ?_ | refine WV_exit ?_); (try simp only [go_sem, init_env', Nat.reduceEqDiff, Nat.reduceAdd, Nat.reduceMul, reduceIte, Nat.reduceLeDiff, Nat.reduceLT, Nat.reduceBEq, reduceCtorEq, hP, hw, w3, recsC, List.length_map, hnl, hI2, hd]); (repeat refine qI ?_)))
      (refine WV_cond rfl (fun h => ?_) (fun h => ?_))
      · simp at h
      · (repeat ((first | refine WV_seq_ ?_ | refine WV_block ?_ | refine WV_ops ?_ | refine WV_skip ?_ | refine WV_exit ?_); (try simp only [go_sem, init_env', Nat.reduceEqDiff, Nat.reduceAdd, Nat.reduceMul, reduceIte, Nat.reduceLeDiff, Nat.reduceLT, Nat.reduceBEq, reduceCtorEq, hP, hwn]); (repeat refine qI ?_)))
        (refine AS_lend [1000, 1001, 1002, 1003] (hmk) rfl rfl rfl (by decide) rfl (by simp only [go_sem, init_env', Nat.reduceEqDiff, Nat.reduceAdd, Nat.reduceMul, reduceIte, Nat.reduceLeDiff, Nat.reduceLT, Nat.reduceBEq, reduceCtorEq, obsLend, Ob.lend, AV.lend, AV.lendL, carO, carC, hu, hw, wayI, recsC]) ?_)
        rintro r l' ⟨rfl, rfl⟩
        (refine ⟨_, _, rfl, (by simp only [carO, carC, obsBack, Ob.back, AV.back, AV.backL, back_cellsG, hu, hw]; rfl), ?_⟩; simp only [go_sem, init_env', Nat.reduceEqDiff, Nat.reduceAdd, Nat.reduceMul, reduceIte, Nat.reduceLeDiff, Nat.reduceLT, Nat.reduceBEq, reduceCtorEq, hP, ownBack, hu, hw])
        ((try simp only [thenQ, inQ, RetQL, RetOkL, resAll, resA]); (try simp only [go_sem, init_env', Nat.reduceEqDiff, Nat.reduceAdd, Nat.reduceMul, reduceIte, Nat.reduceLeDiff, Nat.reduceLT, Nat.reduceBEq, reduceCtorEq, tupA, AV.keepP, AV.keepPL]); refine ⟨_, carO t (s.next t), rfl, KeepL_mk rfl rfl ?_ ?_ rfl, ?_⟩)
        · simp only [Cs.next, em]
          simp only [go_sem, init_env', Nat.reduceEqDiff, Nat.reduceAdd, Nat.reduceMul, reduceIte, Nat.reduceLeDiff, Nat.reduceLT, Nat.reduceBEq, reduceCtorEq, keepAll, Ob.keepP, AV.keepP, AV.keepPL, carO, carC, Cs.mark, wayI, recsC]
        · simp only [go_sem, init_env', Nat.reduceEqDiff, Nat.reduceAdd, Nat.reduceMul, reduceIte, Nat.reduceLeDiff, Nat.reduceLT, Nat.reduceBEq, reduceCtorEq, winAll]
        · exact ⟨rfl, rfl⟩
  · have hw : wayI true = 1 := rfl
    have hwn : IntKind.i64.wrap (0 - 1) = -1 := by decide
    have w3 := w64 (n := (s.at_ : Int) + 1) (by omega) (by omega)
    have hI2 : decide ((0 : Int) ≤ (s.at_ : Int) + 1) = true := by simp; omega
    by_cases h0 : s.at_ + 1 < t.n
    · have ea : (s.at_ : Int) + 1 = ((s.at_ + 1 : Nat) : Int) := by omega
      rw [ea] at w3 hI2
      have em : s.move t = { s with at_ := s.at_ + 1, now := s.now + t.step, steps := s.steps + 1 } := by simp [Cs.move, hu, h0]
      have hmk := mark71 t { s with at_ := s.at_ + 1, now := s.now + t.step, steps := s.steps + 1 } (-1) h1
      have hd : decide (((s.at_ + 1 : Nat) : Int) < (t.n : Int)) = true := by simp; omega
      (repeat ((first | refine WV_seq_ ?_ | refine WV_block ?_ | refine WV_ops ?_ | refine WV_skip ?_ | refine WV_exit ?_); (try simp only [go_sem, init_env', Nat.reduceEqDiff, Nat.reduceAdd, Nat.reduceMul, reduceIte, Nat.reduceLeDiff, Nat.reduceLT, Nat.reduceBEq, reduceCtorEq, hP, hw, ea, w3, recsC, List.length_map, hnl, hI2, hd]); (repeat refine qI ?_)))
      (refine WV_cond rfl (fun h => ?_) (fun h => ?_))
      · (repeat ((first | refine WV_seq_ ?_ | refine WV_block ?_ | refine WV_ops ?_ | refine WV_skip ?_ | refine WV_exit ?_); (try simp only [go_sem, init_env', Nat.reduceEqDiff, Nat.reduceAdd, Nat.reduceMul, reduceIte, Nat.reduceLeDiff, Nat.reduceLT, Nat.reduceBEq, reduceCtorEq, hP, w1, w2]); (repeat refine qI ?_)))
        (refine AS_lend [1000, 1001, 1002, 1003] (hmk) rfl rfl rfl (by decide) rfl (by simp only [go_sem, init_env', Nat.reduceEqDiff, Nat.reduceAdd, Nat.reduceMul, reduceIte, Nat.reduceLeDiff, Nat.reduceLT, Nat.reduceBEq, reduceCtorEq, obsLend, Ob.lend, AV.lend, AV.lendL, carO, carC, hu, hw, recsC]) ?_)
        rintro r l' ⟨rfl, rfl⟩
        (refine ⟨_, _, rfl, (by simp only [carO, carC, obsBack, Ob.back, AV.back, AV.backL, back_cellsG, hu, hw]; rfl), ?_⟩; simp only [go_sem, init_env', Nat.reduceEqDiff, Nat.reduceAdd, Nat.reduceMul, reduceIte, Nat.reduceLeDiff, Nat.reduceLT, Nat.reduceBEq, reduceCtorEq, hP, ownBack, hu, hw])
        ((try simp only [thenQ, inQ, RetQL, RetOkL, resAll, resA]); (try simp only [go_sem, init_env', Nat.reduceEqDiff, Nat.reduceAdd, Nat.reduceMul, reduceIte, Nat.reduceLeDiff, Nat.reduceLT, Nat.reduceBEq, reduceCtorEq, tupA, AV.keepP, AV.keepPL]); refine ⟨_, carO t (s.next t), rfl, KeepL_mk rfl rfl ?_ ?_ rfl, ?_⟩)
        · simp only [Cs.next, em]
          simp only [go_sem, init_env', Nat.reduceEqDiff, Nat.reduceAdd, Nat.reduceMul, reduceIte, Nat.reduceLeDiff, Nat.reduceLT, Nat.reduceBEq, reduceCtorEq, keepAll, Ob.keepP, AV.keepP, AV.keepPL, carO, carC, Cs.mark, hu, hw, recsC]
        · simp only [go_sem, init_env', Nat.reduceEqDiff, Nat.reduceAdd, Nat.reduceMul, reduceIte, Nat.reduceLeDiff, Nat.reduceLT, Nat.reduceBEq, reduceCtorEq, winAll]
        · exact ⟨rfl, rfl⟩
      · simp at h
    · have em : s.move t = { s with up := false } := by simp [Cs.move, hu, h0]
      have hmk := mark71 t { s with up := false } (-1) h1
      have hd : decide ((s.at_ : Int) + 1 < (t.n : Int)) = false := by simp; omega
      (repeat ((first | refine WV_seq_ ?_ | refine WV_block ?_ | refine WV_ops ?_ | refine WV_skip ?_ | refine WV_exit ?_); (try simp only [go_sem, init_env', Nat.reduceEqDiff, Nat.reduceAdd, Nat.reduceMul, reduceIte, Nat.reduceLeDiff, Nat.reduceLT, Nat.reduceBEq, reduceCtorEq, hP, hw, w3, recsC, List.length_map, hnl, hI2, hd]); (repeat refine qI ?_)))
      (refine WV_cond rfl (fun h => ?_) (fun h => ?_))
      · simp at h
      · (repeat ((first | refine WV_seq_ ?_ | refine WV_block ?_ | refine WV_ops ?_ | refine WV_skip ?_ | refine WV_exit ?_); (try simp only [go_sem, init_env', Nat.reduceEqDiff, Nat.reduceAdd, Nat.reduceMul, reduceIte, Nat.reduceLeDiff, Nat.reduceLT, Nat.reduceBEq, reduceCtorEq, hP, hwn]); (repeat refine qI ?_)))
        (refine AS_lend [1000, 1001, 1002, 1003] (hmk) rfl rfl rfl (by decide) rfl (by simp only [go_sem, init_env', Nat.reduceEqDiff, Nat.reduceAdd, Nat.reduceMul, reduceIte, Nat.reduceLeDiff, Nat.reduceLT, Nat.reduceBEq, reduceCtorEq, obsLend, Ob.lend, AV.lend, AV.lendL, carO, carC, hu, hw, wayI, recsC]) ?_)
        rintro r l' ⟨rfl, rfl⟩
        (refine ⟨_, _, rfl, (by simp only [carO, carC, obsBack, Ob.back, AV.back, AV.backL, back_cellsG, hu, hw]; rfl), ?_⟩; simp only [go_sem, init_env', Nat.reduceEqDiff, Nat.reduceAdd, Nat.reduceMul, reduceIte, Nat.reduceLeDiff, Nat.reduceLT, Nat.reduceBEq, reduceCtorEq, hP, ownBack, hu, hw])
        ((try simp only [thenQ, inQ, RetQL, RetOkL, resAll, resA]); (try simp only [go_sem, init_env', Nat.reduceEqDiff, Nat.reduceAdd, Nat.reduceMul, reduceIte, Nat.reduceLeDiff, Nat.reduceLT, Nat.reduceBEq, reduceCtorEq, tupA, AV.keepP, AV.keepPL]); refine ⟨_, carO t (s.next t), rfl, KeepL_mk rfl rfl ?_ ?_ rfl, ?_⟩)
        · simp only [Cs.next, em]
          simp only [go_sem, init_env', Nat.reduceEqDiff, Nat.reduceAdd, Nat.reduceMul, reduceIte, Nat.reduceLeDiff, Nat.reduceLT, Nat.reduceBEq, reduceCtorEq, keepAll, Ob.keepP, AV.keepP, AV.keepPL, carO, carC, Cs.mark, wayI, recsC]
        · simp only [go_sem, init_env', Nat.reduceEqDiff, Nat.reduceAdd, Nat.reduceMul, reduceIte, Nat.reduceLeDiff, Nat.reduceLT, Nat.reduceBEq, reduceCtorEq, winAll]
        · exact ⟨rfl, rfl⟩
end Go.Proofs.Ytkpgpgaojjobgaa

namespace Go.Proofs.Ytkpgpgaojjobgaa
open Go Go.V
@[reducible] def o72_0 : List Ins := [⟨(some 2), .mv (.k (.c (.bool false))), none, true⟩]
@[reducible] def o72_1 : List Ins := [⟨(some 4), .mv (.t 0), none, true⟩,
  ⟨(some 5), .call (.k (.fn 81 [])) [(.t 4)], none, true⟩]
@[reducible] def o72_2 : List Ins := [⟨(some 6), .mv (.t 0), none, true⟩,
  ⟨(some 7), .nilc (.t 6), none, true⟩,
  ⟨(some 8), .fa 6 (.t 7), none, true⟩,
  ⟨(some 9), .ld true 1 (.t 8), none, true⟩,
  ⟨(some 10), .call (.k (.fn 82 [])) [(.t 9), (.k (.c (.bool true)))], none, true⟩,
  ⟨(some 11), .un .not (.t 10), none, true⟩]
@[reducible] def o72_3 : List Ins := [⟨(some 12), .mv (.t 0), none, true⟩,
  ⟨(some 13), .nilc (.t 12), none, true⟩,
  ⟨(some 14), .fa 5 (.t 13), none, true⟩,
  ⟨(some 15), .ld true 1 (.t 14), none, true⟩,
  ⟨(some 16), .len (.t 15), none, true⟩,
  ⟨(some 17), .bin .eql (.t 16) (.k (.c (.int .i64 0))), none, true⟩]
@[reducible] def o72_4 : List Ins := [⟨(some 2), .mv (.k (.c (.bool false))), none, true⟩]
@[reducible] def v72_5 : VC := (.seq (.ops o72_4) .ret)
@[reducible] def v72_6 : VC := (.cond (.t 17) v72_5 .skip)
@[reducible] def o72_7 : List Ins := [⟨(some 18), .mv (.t 0), none, true⟩,
  ⟨(some 19), .mv (.t 0), none, true⟩,
  ⟨(some 20), .nilc (.t 19), none, true⟩,
  ⟨(some 21), .fa 5 (.t 20), none, true⟩,
  ⟨(some 22), .ld true 1 (.t 21), none, true⟩,
  ⟨(some 23), .ia 2 (.t 22) (.k (.c (.int .i64 0))), none, true⟩,
  ⟨(some 24), .fa 1 (.t 23), none, true⟩,
  ⟨(some 25), .ld true 1 (.t 24), none, true⟩,
  ⟨(some 26), .nilc (.t 18), none, true⟩,
  ⟨(some 27), .fa 7 (.t 26), none, true⟩,
  ⟨none, .st 1 (.t 27) (.t 25), none, true⟩]
@[reducible] def o72_8 : List Ins := [⟨(some 2), .mv (.k (.c (.bool true))), none, true⟩]
@[reducible] def v72_9 : VC := (.seq (.ops o72_8) .ret)
@[reducible] def v72_10 : VC := (.seq (.ops o72_7) v72_9)
@[reducible] def v72_11 : VC := (.seq (.seq (.ops o72_3) v72_6) v72_10)
@[reducible] def v72_12 : VC := (.cond (.t 11) v72_11 .skip)
@[reducible] def o72_13 : List Ins := [⟨(some 28), .mv (.t 0), none, true⟩,
  ⟨(some 29), .nilc (.t 28), none, true⟩,
  ⟨(some 30), .fa 8 (.t 29), none, true⟩,
  ⟨(some 31), .fa 0 (.t 30), none, true⟩,
  ⟨(some 32), .ld true 1 (.t 31), none, true⟩,
  ⟨(some 33), .bin .mul (.k (.c (.int .i64 2))) (.t 32), none, true⟩,
  ⟨(some 3), .mv (.t 33), none, true⟩]
@[reducible] def o72_14 : List Ins := [⟨(some 34), .mv (.t 0), none, true⟩,
  ⟨(some 35), .nilc (.t 34), none, true⟩,
  ⟨(some 36), .fa 8 (.t 35), none, true⟩,
  ⟨(some 37), .fa 1 (.t 36), none, true⟩,
  ⟨(some 38), .ld true 1 (.t 37), none, true⟩,
  ⟨(some 39), .bin .lss (.t 38) (.k (.c (.int .i64 0))), none, true⟩]
@[reducible] def o72_15 : List Ins := [⟨(some 40), .mv (.t 3), none, true⟩,
  ⟨(some 41), .bin .add (.t 40) (.k (.c (.int .i64 1))), none, true⟩,
  ⟨(some 3), .mv (.t 41), none, true⟩]
@[reducible] def v72_16 : VC := (.cond (.t 39) (.ops o72_15) .skip)
@[reducible] def o72_17 : List Ins := [⟨(some 42), .mv (.t 0), none, true⟩,
  ⟨(some 43), .nilc (.t 42), none, true⟩,
  ⟨(some 44), .fa 6 (.t 43), none, true⟩,
  ⟨(some 45), .ld true 1 (.t 44), none, true⟩,
  ⟨(some 46), .mv (.t 3), none, true⟩,
  ⟨(some 47), .ia 1 (.t 45) (.t 46), none, true⟩,
  ⟨(some 48), .ld true 1 (.t 47), none, true⟩]
@[reducible] def o72_18 : List Ins := [⟨(some 49), .mv (.t 0), none, true⟩,
  ⟨(some 50), .nilc (.t 49), none, true⟩,
  ⟨(some 51), .fa 6 (.t 50), none, true⟩,
  ⟨(some 52), .ld true 1 (.t 51), none, true⟩,
  ⟨(some 53), .mv (.t 3), none, true⟩,
  ⟨(some 54), .ia 1 (.t 52) (.t 53), none, true⟩,
  ⟨none, .st 1 (.t 54) (.k (.c (.bool false))), none, true⟩]
@[reducible] def o72_19 : List Ins := [⟨(some 55), .mv (.t 0), none, false⟩,
  ⟨(some 56), .mv (.t 0), none, false⟩,
  ⟨(some 57), .nilc (.t 56), none, false⟩,
  ⟨(some 58), .fa 11 (.t 57), none, false⟩,
  ⟨(some 59), .fa 1 (.t 58), none, false⟩,
  ⟨(some 60), .ld true 1 (.t 59), none, false⟩,
  ⟨(some 61), .mv (.t 3), none, false⟩,
  ⟨(some 62), .mv (.t 0), none, false⟩,
  ⟨(some 63), .nilc (.t 62), none, false⟩,
  ⟨(some 64), .fa 7 (.t 63), none, false⟩,
  ⟨(some 65), .ld true 1 (.t 64), none, false⟩,
  ⟨(some 66), .bld [(.c (.int .i64 0)), (.c (.int .i64 0))] [(0, 1, (.t 61)), (1, 1, (.t 65))], none, false⟩,
  ⟨(some 67), .bsl 41 2 [(.t 66)], none, false⟩,
  ⟨(some 68), .app 41 2 16 (.t 60) (.t 67), none, false⟩,
  ⟨(some 69), .nilc (.t 55), none, true⟩,
  ⟨(some 70), .fa 11 (.t 69), none, true⟩,
  ⟨(some 71), .fa 1 (.t 70), none, true⟩,
  ⟨none, .st 1 (.t 71) (.t 68), none, true⟩]
@[reducible] def o72_20 : List Ins := [⟨(some 72), .mv (.t 0), none, true⟩,
  ⟨(some 73), .mv (.t 3), none, true⟩,
  ⟨(some 74), .call (.k (.fn 71 [])) [(.t 72), (.t 73)], none, true⟩]
@[reducible] def o72_21 : List Ins := [⟨(some 75), .mv (.t 0), none, false⟩,
  ⟨(some 76), .nilc (.t 75), none, false⟩,
  ⟨(some 77), .fa 7 (.t 76), none, false⟩,
  ⟨(some 78), .ld true 1 (.t 77), none, false⟩,
  ⟨(some 79), .mv (.t 0), none, false⟩,
  ⟨(some 80), .nilc (.t 79), none, false⟩,
  ⟨(some 81), .fa 0 (.t 80), none, false⟩,
  ⟨(some 82), .ld false 5 (.t 81), none, false⟩,
  ⟨(some 83), .mv (.t 3), none, false⟩,
  ⟨(some 84), .call (.k (.fn 83 [])) [(.t 82), (.t 83)], none, false⟩,
  ⟨(some 85), .bin .add (.t 78) (.t 84), none, true⟩,
  ⟨(some 86), .nilc (.t 75), none, true⟩,
  ⟨(some 87), .fa 7 (.t 86), none, true⟩,
  ⟨none, .st 1 (.t 87) (.t 85), none, true⟩]
@[reducible] def o72_22 : List Ins := [⟨(some 88), .mv (.t 0), none, true⟩,
  ⟨(some 89), .mv (.t 0), none, true⟩,
  ⟨(some 90), .nilc (.t 89), none, true⟩,
  ⟨(some 91), .fa 7 (.t 90), none, true⟩,
  ⟨(some 92), .ld true 1 (.t 91), none, true⟩,
  ⟨(some 93), .nilc (.t 88), none, true⟩,
  ⟨(some 94), .fa 11 (.t 93), none, true⟩,
  ⟨(some 95), .fa 3 (.t 94), none, true⟩,
  ⟨none, .st 1 (.t 95) (.t 92), none, true⟩]
@[reducible] def o72_23 : List Ins := [⟨(some 96), .mv (.t 0), none, true⟩,
  ⟨(some 97), .call (.k (.fn 71 [])) [(.t 96), (.k (.c (.int .i64 (-1))))], none, true⟩]
@[reducible] def v72_24 : VC := (.seq (.ops o72_22) (.ops o72_23))
@[reducible] def v72_25 : VC := (.seq (.ops o72_21) v72_24)
@[reducible] def v72_26 : VC := (.seq (.ops o72_20) v72_25)
@[reducible] def v72_27 : VC := (.seq (.ops o72_19) v72_26)
@[reducible] def v72_28 : VC := (.seq (.ops o72_18) v72_27)
@[reducible] def v72_29 : VC := (.cond (.t 48) v72_28 .skip)
@[reducible] def o72_30 : List Ins := [⟨(some 98), .mv (.t 0), none, true⟩,
  ⟨(some 99), .call (.k (.fn 84 [])) [(.t 98)], none, true⟩]
@[reducible] def o72_31 : List Ins := [⟨(some 2), .mv (.k (.c (.bool true))), none, true⟩]
@[reducible] def v72_32 : VC := (.seq (.ops o72_31) .ret)
@[reducible] def v72_33 : VC := (.seq (.ops o72_30) v72_32)
@[reducible] def v72_34 : VC := (.seq (.seq (.ops o72_17) v72_29) v72_33)
@[reducible] def v72_35 : VC := (.seq (.seq (.ops o72_14) v72_16) v72_34)
@[reducible] def v72_36 : VC := (.seq (.ops o72_13) v72_35)
@[reducible] def v72_37 : VC := (.seq (.seq (.ops o72_2) v72_12) v72_36)
@[reducible] def v72_38 : VC := (.seq (.ops o72_1) v72_37)
def ir72 : FC := ⟨1, 100, [.t 2], (.seq (.ops o72_0) v72_38)⟩
theorem c72 : compM Try.prog [] 72 = some ir72 := by kernel_rfl



/-- What an act hands back. -/
def actP (t : Tray) (s : Cs) (res : AV) (l' : List Ob) : Prop := (s.act t = none ∧ res = bv false ∧ l' = carO t s.press) ∨ ∃ s', s.act t = some s' ∧ res = bv true ∧ l' = carO t s'
theorem pressQ_le (now : Int) : ∀ (q : List Pr) (pins : List Bool), (pressQ now q pins).1.length ≤ q.length := fun q pins => by
  obtain ⟨k, hk⟩ := pressQ_suffix now q pins
  rw [hk, List.length_drop]; omega

set_option maxRecDepth 20000 in
set_option maxHeartbeats 16000000 in
theorem act72 {t : Tray} (ht : TrayOk t) {s : Cs} (hs : CsOk t s) (hq : s.q.length ≤ 1000) (h1 : s.spells.length ≤ 4900) (h2 : s.now ≤ 900000) (h3 : 0 ≤ s.steps ∧ s.steps ≤ 900000) (h4 : s.plays.length ≤ 5000) :
    FSpecL Try.prog 72 [.bp 1000 0] (carO t s) [] (actP t s) := by
  have hmax : maxLen = 9223372036854775807 := rfl
  have hn6 := ht.n6
  have hpr := press81 ht hs hq
  have hs1 := hs.press
  have hact : s.act t = s.press.act1 t := rfl
  have hq1 : s.press.q.length ≤ 1000 := Nat.le_trans (pressQ_le _ _ _) hq
  have e1 : s.press.spells = s.spells := rfl
  have e2 : s.press.now = s.now := rfl
  have e3 : s.press.steps = s.steps := rfl
  have e4 : s.press.plays = s.plays := rfl
  rw [← e1] at h1
  rw [← e2] at h2
  rw [← e3] at h3
  rw [← e4] at h4
  refine FSpecL_ofX c72 (by first | simp | exact Nat.le_of_ble_eq_true rfl) (Nat.le_refl _) (by decide) (by decide) fun C hP hN hC hpin hL => ?_; rw [init_env', ownW_upd (by first | simp | exact Nat.le_of_ble_eq_true rfl)]; simp only [ir72, updL, updLo, List.map_nil, List.map_cons, Nat.reduceAdd, carO, carC]
  refine WV_post ?_
  (repeat ((first | refine WV_seq_ ?_ | refine WV_block ?_ | refine WV_ops ?_ | refine WV_skip ?_ | refine WV_exit ?_); (try simp only [go_sem, init_env', Nat.reduceEqDiff, Nat.reduceAdd, Nat.reduceMul, reduceIte, Nat.reduceLeDiff, Nat.reduceLT, Nat.reduceBEq, reduceCtorEq, hP, ]); (repeat refine qI ?_)))
  (refine AS_lend [1000, 1001, 1002, 1003] (hpr) rfl rfl rfl (by decide) rfl (by simp only [go_sem, init_env', Nat.reduceEqDiff, Nat.reduceAdd, Nat.reduceMul, reduceIte, Nat.reduceLeDiff, Nat.reduceLT, Nat.reduceBEq, reduceCtorEq, obsLend, Ob.lend, AV.lend, AV.lendL, carO, carC, ]) ?_)
  rintro r l' ⟨rfl, rfl⟩
  (refine ⟨_, _, rfl, (by simp only [carO, carC, obsBack, Ob.back, AV.back, AV.backL, back_cellsG, ]; rfl), ?_⟩; simp only [go_sem, init_env', Nat.reduceEqDiff, Nat.reduceAdd, Nat.reduceMul, reduceIte, Nat.reduceLeDiff, Nat.reduceLT, Nat.reduceBEq, reduceCtorEq, hP, ownBack, ])
  have hpost : ∀ r l', actP t s r l' = ((s.press.act1 t = none ∧ r = bv false ∧ l' = carO t s.press) ∨ ∃ s', s.press.act1 t = some s' ∧ r = bv true ∧ l' = carO t s') := fun r l' => by unfold actP; rw [hact]
  generalize s.press = s1 at *
  have hpl := hs1.pins
  have hat := hs1.at_
  have hel : ∀ own : Nat → Ob, own 1001 = .box (cellsG bcd s1.pins 0) → AV.elemsV own (.vw 1 1001 0 (2 * t.n) (2 * t.n)) = some (1, s1.pins.map bcd) := fun own h => by
    have := elemsV_cellsG bcd_one own 1001 s1.pins 0 (2 * t.n) h
    rwa [hpl] at this
  (repeat ((first | refine WV_seq_ ?_ | refine WV_block ?_ | refine WV_ops ?_ | refine WV_skip ?_ | refine WV_exit ?_); (try simp only [go_sem, init_env', Nat.reduceEqDiff, Nat.reduceAdd, Nat.reduceMul, reduceIte, Nat.reduceLeDiff, Nat.reduceLT, Nat.reduceBEq, reduceCtorEq, hP, ]); (repeat refine qI ?_)))
  refine AS_vol (contains82 s1.pins (by omega)) rfl rfl rfl rfl ?_ rfl ?_
  · show AV.vportL _ [.vw 1 1001 0 (2 * t.n) (2 * t.n), bv true] = _
    simp only [AV.vportL, AV.vport]
    rw [hel]
    · rfl
    · rfl
  simp only [go_sem, init_env', Nat.reduceEqDiff, Nat.reduceAdd, Nat.reduceMul, reduceIte, Nat.reduceLeDiff, Nat.reduceLT, Nat.reduceBEq, reduceCtorEq, hP]
  (repeat ((first | refine WV_seq_ ?_ | refine WV_block ?_ | refine WV_ops ?_ | refine WV_skip ?_ | refine WV_exit ?_); (try simp only [go_sem, init_env', Nat.reduceEqDiff, Nat.reduceAdd, Nat.reduceMul, reduceIte, Nat.reduceLeDiff, Nat.reduceLT, Nat.reduceBEq, reduceCtorEq, hP, ]); (repeat refine qI ?_)))
  cases hall : s1.pins.all (!·)
  rotate_left
  · -- nothing is asked for
    (refine WV_cond rfl (fun h => ?_) (fun h => ?_))
    · cases hqq : s1.q with
      | nil =>
        have ha : s1.act1 t = none := by unfold Cs.act1; rw [if_pos hall, hqq]
        (repeat ((first | refine WV_seq_ ?_ | refine WV_block ?_ | refine WV_ops ?_ | refine WV_skip ?_ | refine WV_exit ?_); (try simp only [go_sem, init_env', Nat.reduceEqDiff, Nat.reduceAdd, Nat.reduceMul, reduceIte, Nat.reduceLeDiff, Nat.reduceLT, Nat.reduceBEq, reduceCtorEq, hP, prsC, hqq, List.map_nil, List.length_nil, Int.natCast_zero, beq_self_eq_true]); (repeat refine qI ?_)))
        (refine WV_cond rfl (fun h => ?_) (fun h => ?_))
        · (repeat ((first | refine WV_seq_ ?_ | refine WV_block ?_ | refine WV_ops ?_ | refine WV_skip ?_ | refine WV_exit ?_); (try simp only [go_sem, init_env', Nat.reduceEqDiff, Nat.reduceAdd, Nat.reduceMul, reduceIte, Nat.reduceLeDiff, Nat.reduceLT, Nat.reduceBEq, reduceCtorEq, hP, ]); (repeat refine qI ?_)))
          refine WV_ret ?_
          refine ⟨_, fun a w hg => hg, ?_⟩
          ((try simp only [thenQ, inQ, RetQL, RetOkL, resAll, resA]); (try simp only [go_sem, init_env', Nat.reduceEqDiff, Nat.reduceAdd, Nat.reduceMul, reduceIte, Nat.reduceLeDiff, Nat.reduceLT, Nat.reduceBEq, reduceCtorEq, tupA, AV.keepP, AV.keepPL]); refine ⟨_, carO t s1, rfl, KeepL_mk rfl rfl ?_ ?_ rfl, ?_⟩)
          · simp only [go_sem, init_env', Nat.reduceEqDiff, Nat.reduceAdd, Nat.reduceMul, reduceIte, Nat.reduceLeDiff, Nat.reduceLT, Nat.reduceBEq, reduceCtorEq, keepAll, Ob.keepP, AV.keepP, AV.keepPL, carO, carC, prsC, hqq, List.map_nil]
          · simp only [go_sem, init_env', Nat.reduceEqDiff, Nat.reduceAdd, Nat.reduceMul, reduceIte, Nat.reduceLeDiff, Nat.reduceLT, Nat.reduceBEq, reduceCtorEq, winAll]
          · rw [hpost]; exact .inl ⟨ha, rfl, rfl⟩
        · simp at h
      | cons p q =>
        have ha : s1.act1 t = some { s1 with now := p.time } := by unfold Cs.act1; rw [if_pos hall, hqq]
        have hd : (((q.length + 1 : Nat) : Int) == 0) = false := by simp; omega
        have hI : (0 : Int) < ((q.length + 1 : Nat) : Int) := by omega
        have z1 : ((0 : Int)).toNat = 0 := rfl
        (repeat ((first | refine WV_seq_ ?_ | refine WV_block ?_ | refine WV_ops ?_ | refine WV_skip ?_ | refine WV_exit ?_); (try simp only [go_sem, init_env', Nat.reduceEqDiff, Nat.reduceAdd, Nat.reduceMul, reduceIte, Nat.reduceLeDiff, Nat.reduceLT, Nat.reduceBEq, reduceCtorEq, hP, prsC, hqq, List.map_cons, List.length_cons, hd]); (repeat refine qI ?_)))
        (refine WV_cond rfl (fun h => ?_) (fun h => ?_))
        · simp at h
        · (repeat ((first | refine WV_seq_ ?_ | refine WV_block ?_ | refine WV_ops ?_ | refine WV_skip ?_ | refine WV_exit ?_); (try simp only [go_sem, init_env', Nat.reduceEqDiff, Nat.reduceAdd, Nat.reduceMul, reduceIte, Nat.reduceLeDiff, Nat.reduceLT, Nat.reduceBEq, reduceCtorEq, hP, prsC, hqq, List.map_cons, List.length_cons, hI, z1, Pr.cds]); (repeat refine qI ?_)))
          refine WV_ret ?_
          refine ⟨_, fun a w hg => hg, ?_⟩
          ((try simp only [thenQ, inQ, RetQL, RetOkL, resAll, resA]); (try simp only [go_sem, init_env', Nat.reduceEqDiff, Nat.reduceAdd, Nat.reduceMul, reduceIte, Nat.reduceLeDiff, Nat.reduceLT, Nat.reduceBEq, reduceCtorEq, tupA, AV.keepP, AV.keepPL]); refine ⟨_, carO t { s1 with now := p.time }, rfl, KeepL_mk rfl rfl ?_ ?_ rfl, ?_⟩)
          · simp only [go_sem, init_env', Nat.reduceEqDiff, Nat.reduceAdd, Nat.reduceMul, reduceIte, Nat.reduceLeDiff, Nat.reduceLT, Nat.reduceBEq, reduceCtorEq, keepAll, Ob.keepP, AV.keepP, AV.keepPL, carO, carC, prsC, hqq, List.map_cons, Pr.cds]
          · simp only [go_sem, init_env', Nat.reduceEqDiff, Nat.reduceAdd, Nat.reduceMul, reduceIte, Nat.reduceLeDiff, Nat.reduceLT, Nat.reduceBEq, reduceCtorEq, winAll]
          · rw [hpost]; exact .inr ⟨_, ha, rfl, rfl⟩
    · simp at h
  · (refine WV_cond rfl (fun h => ?_) (fun h => ?_))
    · simp at h
    have ha : s1.act1 t = some ((s1.play t).next t) := by unfold Cs.act1; rw [if_neg (by rw [hall]; decide)]
    have hpos := pos_lt hs1
    have hsec := secs_ok ht hpos
    have hlast := last83 ht s1.pos hpos
    have hnow := hs1.now
    have hcl : (cellsG bcd s1.pins 0).length = 2 * t.n := by rw [cellsG_len bcd_one, hpl]; omega
    have hpk : s1.pos < s1.pins.length := by omega
    have hget : ∀ x, (cellsG bcd s1.pins 0).getD s1.pos x = bv (s1.pins.getD s1.pos false) := fun x => by
      have := cellsG_get bcd_one hpk 0 0 (d := .bool s1.pins[s1.pos]) rfl x
      rw [Nat.mul_one, Nat.add_zero] at this
      rw [this]
      simp [hpk]
    have hI2 : (s1.pos : Int) < ((2 * t.n : Nat) : Int) := by omega
    have hc2 : s1.pos + 1 ≤ 2 * t.n := by omega
    have hside : (bif decide (wayI s1.up < 0) then 2 * (s1.at_ : Int) + 1 else 2 * (s1.at_ : Int)) = (s1.pos : Int) := by
      unfold Cs.pos sideAt wayI
      cases s1.up <;> simp <;> omega
    have wa := w64 (n := 2 * (s1.at_ : Int)) (by omega) (by omega)
    have wb := w64 (n := 2 * (s1.at_ : Int) + 1) (by omega) (by omega)
    have hplayOk : CsOk t (s1.play t) ∧ (s1.play t).spells.length ≤ 5000 ∧ (s1.play t).now ≤ 1000000 ∧ 0 ≤ (s1.play t).steps ∧ (s1.play t).steps ≤ 1000000 := by
      obtain ⟨p1, p2, p3, p4⟩ := play_pins t s1
      have hn := play_now ht hs1
      refine ⟨⟨by rw [p3]; exact hat, by rw [p1, List.length_set]; exact hpl, by rw [p2]; exact hs1.q, by omega, by rw [p2]; exact hs1.sorted⟩, ?_, by omega, by omega, by omega⟩
      unfold Cs.play
      split
      · simp [Cs.play2, Cs.play1, Cs.mark]; omega
      · omega
    have hnx := next84 ht hplayOk.1 hplayOk.2.1 hplayOk.2.2.1 hplayOk.2.2.2
    have hset : (cellsG bcd s1.pins 0).set s1.pos (.c (.bool false)) = cellsG bcd (s1.pins.set s1.pos false) 0 := by
      have := cellsG_set bcd_one hpk 0 0 (by decide) (.bool false) false rfl
      rwa [Nat.mul_one, Nat.add_zero] at this
    have hnl : t.recs.length = t.n := rfl
    have wc := w64 (n := s1.now + secs t s1.pos) (by omega) (by omega)
    have htail : WV C v72_34 (fun e σ' => ∃ σ'', (∀ a w, Gam C σ' a w → Gam C σ'' a w) ∧ RetQL [RV.t 2] (carO t s) [] (actP t s) e σ'')
        ⟨upd (upd e0 0 (.bp 1000 0)) 3 (iv s1.pos), upd (upd (upd (upd o0 1000 (.box (carC t s1))) 1001 (.box (cellsG bcd s1.pins 0))) 1002 (.grow 73 4 (s1.spells.map Sp.cds))) 1003 (.grow 41 2 (s1.plays.map Pr.cds))⟩ := by
      simp only [carC]
      (repeat ((first | refine WV_seq_ ?_ | refine WV_block ?_ | refine WV_ops ?_ | refine WV_skip ?_ | refine WV_exit ?_); (try simp only [go_sem, init_env', Nat.reduceEqDiff, Nat.reduceAdd, Nat.reduceMul, reduceIte, Nat.reduceLeDiff, Nat.reduceLT, Nat.reduceBEq, reduceCtorEq, hP, hI2, hpk, hcl, hget]); (repeat refine qI ?_)))
      cases hpp : s1.pins.getD s1.pos false
      · have hpl1 : s1.play t = s1 := by unfold Cs.play; rw [hpp]; rfl
        rw [hpl1] at hnx ha
        (refine WV_cond rfl (fun h => ?_) (fun h => ?_))
        · simp at h
        (repeat ((first | refine WV_seq_ ?_ | refine WV_block ?_ | refine WV_ops ?_ | refine WV_skip ?_ | refine WV_exit ?_); (try simp only [go_sem, init_env', Nat.reduceEqDiff, Nat.reduceAdd, Nat.reduceMul, reduceIte, Nat.reduceLeDiff, Nat.reduceLT, Nat.reduceBEq, reduceCtorEq, hP, ]); (repeat refine qI ?_)))
        (refine AS_lend [1000, 1001, 1002, 1003] (hnx) rfl rfl rfl (by decide) rfl (by simp only [go_sem, init_env', Nat.reduceEqDiff, Nat.reduceAdd, Nat.reduceMul, reduceIte, Nat.reduceLeDiff, Nat.reduceLT, Nat.reduceBEq, reduceCtorEq, obsLend, Ob.lend, AV.lend, AV.lendL, carO, carC, ]) ?_)
        rintro r l' ⟨rfl, rfl⟩
        (refine ⟨_, _, rfl, (by simp only [carO, carC, obsBack, Ob.back, AV.back, AV.backL, back_cellsG, ]; rfl), ?_⟩; simp only [go_sem, init_env', Nat.reduceEqDiff, Nat.reduceAdd, Nat.reduceMul, reduceIte, Nat.reduceLeDiff, Nat.reduceLT, Nat.reduceBEq, reduceCtorEq, hP, ownBack, ])
        (repeat ((first | refine WV_seq_ ?_ | refine WV_block ?_ | refine WV_ops ?_ | refine WV_skip ?_ | refine WV_exit ?_); (try simp only [go_sem, init_env', Nat.reduceEqDiff, Nat.reduceAdd, Nat.reduceMul, reduceIte, Nat.reduceLeDiff, Nat.reduceLT, Nat.reduceBEq, reduceCtorEq, hP, ]); (repeat refine qI ?_)))
        refine WV_ret ?_
        refine ⟨_, fun a w hg => hg, ?_⟩
        ((try simp only [thenQ, inQ, RetQL, RetOkL, resAll, resA]); (try simp only [go_sem, init_env', Nat.reduceEqDiff, Nat.reduceAdd, Nat.reduceMul, reduceIte, Nat.reduceLeDiff, Nat.reduceLT, Nat.reduceBEq, reduceCtorEq, tupA, AV.keepP, AV.keepPL]); refine ⟨_, carO t (s1.next t), rfl, KeepL_mk rfl rfl ?_ ?_ rfl, ?_⟩)
        · simp only [go_sem, init_env', Nat.reduceEqDiff, Nat.reduceAdd, Nat.reduceMul, reduceIte, Nat.reduceLeDiff, Nat.reduceLT, Nat.reduceBEq, reduceCtorEq, keepAll, Ob.keepP, AV.keepP, AV.keepPL, carO, carC]
        · simp only [go_sem, init_env', Nat.reduceEqDiff, Nat.reduceAdd, Nat.reduceMul, reduceIte, Nat.reduceLeDiff, Nat.reduceLT, Nat.reduceBEq, reduceCtorEq, winAll]
        · rw [hpost]; exact .inr ⟨_, ha, rfl, rfl⟩
      · have hpl1 : s1.play t = (s1.play1).play2 t := by unfold Cs.play; rw [hpp]; rfl
        rw [hpl1] at hnx ha
        have hm1 := mark71 t { s1 with pins := s1.pins.set s1.pos false, plays := s1.plays ++ [⟨s1.pos, s1.now⟩] } s1.pos (by simp only; omega)
        have hm2 := mark71 t { s1.play1 with now := s1.now + secs t s1.pos, end_ := s1.now + secs t s1.pos } (-1) (by simp [Cs.play1, Cs.mark]; omega)
        have e1 : ({ s1 with pins := s1.pins.set s1.pos false, plays := s1.plays ++ [⟨s1.pos, s1.now⟩] } : Cs).mark s1.pos = s1.play1 := rfl
        have e2 : ({ s1.play1 with now := s1.now + secs t s1.pos, end_ := s1.now + secs t s1.pos } : Cs).mark (-1) = (s1.play1).play2 t := rfl
        (refine WV_cond rfl (fun h => ?_) (fun h => ?_))
        · (repeat ((first | refine WV_seq_ ?_ | refine WV_block ?_ | refine WV_ops ?_ | refine WV_skip ?_ | refine WV_exit ?_); (try simp only [go_sem, init_env', Nat.reduceEqDiff, Nat.reduceAdd, Nat.reduceMul, reduceIte, Nat.reduceLeDiff, Nat.reduceLT, Nat.reduceBEq, reduceCtorEq, hP, hI2, hpk, hcl, hset, List.length_map]); (repeat refine qI ?_)))
          (refine AS_lend [1000, 1001, 1002, 68] (hm1) rfl rfl rfl (by decide) rfl (by simp only [go_sem, init_env', Nat.reduceEqDiff, Nat.reduceAdd, Nat.reduceMul, reduceIte, Nat.reduceLeDiff, Nat.reduceLT, Nat.reduceBEq, reduceCtorEq, obsLend, Ob.lend, AV.lend, AV.lendL, carO, carC, List.map_append, Pr.cds]) ?_)
          rintro r l' ⟨rfl, rfl⟩
          rw [e1]
          (refine ⟨_, _, rfl, (by simp only [carO, carC, obsBack, Ob.back, AV.back, AV.backL, back_cellsG, ]; rfl), ?_⟩; simp only [go_sem, init_env', Nat.reduceEqDiff, Nat.reduceAdd, Nat.reduceMul, reduceIte, Nat.reduceLeDiff, Nat.reduceLT, Nat.reduceBEq, reduceCtorEq, hP, ownBack, ])
          have g1 : (s1.play1).spells = s1.spells ++ [⟨s1.at_, wayI s1.up, s1.pos, s1.now⟩] := rfl
          have g2 : (s1.play1).plays = s1.plays ++ [⟨s1.pos, s1.now⟩] := rfl
          (repeat ((first | refine WV_seq_ ?_ | refine WV_block ?_ | refine WV_ops ?_ | refine WV_skip ?_ | refine WV_exit ?_); (try simp only [go_sem, init_env', Nat.reduceEqDiff, Nat.reduceAdd, Nat.reduceMul, reduceIte, Nat.reduceLeDiff, Nat.reduceLT, Nat.reduceBEq, reduceCtorEq, hP, hP, Cs.play1, Cs.mark]); (repeat refine qI ?_)))
          (refine ACall_of (hlast) rfl rfl rfl rfl rfl ?_; simp only [go_sem, init_env', Nat.reduceEqDiff, Nat.reduceAdd, Nat.reduceMul, reduceIte, Nat.reduceLeDiff, Nat.reduceLT, Nat.reduceBEq, reduceCtorEq, hP, Tray.av, wc]; (repeat refine qI ?_); (repeat ((first | refine WV_seq_ ?_ | refine WV_block ?_ | refine WV_ops ?_ | refine WV_skip ?_ | refine WV_exit ?_); (try simp only [go_sem, init_env', Nat.reduceEqDiff, Nat.reduceAdd, Nat.reduceMul, reduceIte, Nat.reduceLeDiff, Nat.reduceLT, Nat.reduceBEq, reduceCtorEq, hP, Tray.av, wc]); (repeat refine qI ?_))))
          (refine AS_lend [1000, 1001, 1002, 68] (hm2) rfl rfl rfl (by decide) rfl (by simp only [go_sem, init_env', Nat.reduceEqDiff, Nat.reduceAdd, Nat.reduceMul, reduceIte, Nat.reduceLeDiff, Nat.reduceLT, Nat.reduceBEq, reduceCtorEq, obsLend, Ob.lend, AV.lend, AV.lendL, carO, carC, Cs.play1, Cs.mark]) ?_)
          rintro r l' ⟨rfl, rfl⟩
          rw [e2]
          (refine ⟨_, _, rfl, (by simp only [carO, carC, obsBack, Ob.back, AV.back, AV.backL, back_cellsG, Cs.play2, Cs.play1, Cs.mark]; rfl), ?_⟩; simp only [go_sem, init_env', Nat.reduceEqDiff, Nat.reduceAdd, Nat.reduceMul, reduceIte, Nat.reduceLeDiff, Nat.reduceLT, Nat.reduceBEq, reduceCtorEq, hP, ownBack, Cs.play2, Cs.play1, Cs.mark])
          (repeat ((first | refine WV_seq_ ?_ | refine WV_block ?_ | refine WV_ops ?_ | refine WV_skip ?_ | refine WV_exit ?_); (try simp only [go_sem, init_env', Nat.reduceEqDiff, Nat.reduceAdd, Nat.reduceMul, reduceIte, Nat.reduceLeDiff, Nat.reduceLT, Nat.reduceBEq, reduceCtorEq, hP, ]); (repeat refine qI ?_)))
          (refine AS_lend [1000, 1001, 1002, 68] (hnx) rfl rfl rfl (by decide) rfl (by simp only [go_sem, init_env', Nat.reduceEqDiff, Nat.reduceAdd, Nat.reduceMul, reduceIte, Nat.reduceLeDiff, Nat.reduceLT, Nat.reduceBEq, reduceCtorEq, obsLend, Ob.lend, AV.lend, AV.lendL, carO, carC, Cs.play2, Cs.play1, Cs.mark]) ?_)
          rintro r l' ⟨rfl, rfl⟩
          generalize (s1.play1.play2 t).next t = s2 at *
          (refine ⟨_, _, rfl, (by simp only [carO, carC, obsBack, Ob.back, AV.back, AV.backL, back_cellsG, ]; rfl), ?_⟩; simp only [go_sem, init_env', Nat.reduceEqDiff, Nat.reduceAdd, Nat.reduceMul, reduceIte, Nat.reduceLeDiff, Nat.reduceLT, Nat.reduceBEq, reduceCtorEq, hP, ownBack, ])
          (repeat ((first | refine WV_seq_ ?_ | refine WV_block ?_ | refine WV_ops ?_ | refine WV_skip ?_ | refine WV_exit ?_); (try simp only [go_sem, init_env', Nat.reduceEqDiff, Nat.reduceAdd, Nat.reduceMul, reduceIte, Nat.reduceLeDiff, Nat.reduceLT, Nat.reduceBEq, reduceCtorEq, hP, ]); (repeat refine qI ?_)))
          refine WV_ret ?_
          refine ⟨_, fun a w hg => Gam_move (d := 68) (n := 1003) (by decide) (fun h => by have := hpin 1003 h; rw [carO_place3] at this; cases this) rfl hg, ?_⟩
          simp only [go_sem, init_env', Nat.reduceEqDiff, Nat.reduceAdd, Nat.reduceMul, reduceIte, Nat.reduceLeDiff, Nat.reduceLT, Nat.reduceBEq, reduceCtorEq]
          ((try simp only [thenQ, inQ, RetQL, RetOkL, resAll, resA]); (try simp only [go_sem, init_env', Nat.reduceEqDiff, Nat.reduceAdd, Nat.reduceMul, reduceIte, Nat.reduceLeDiff, Nat.reduceLT, Nat.reduceBEq, reduceCtorEq, tupA, AV.keepP, AV.keepPL]); refine ⟨_, carO t s2, rfl, KeepL_mk rfl rfl ?_ ?_ rfl, ?_⟩)
          · simp only [go_sem, init_env', Nat.reduceEqDiff, Nat.reduceAdd, Nat.reduceMul, reduceIte, Nat.reduceLeDiff, Nat.reduceLT, Nat.reduceBEq, reduceCtorEq, keepAll, Ob.keepP, AV.keepP, AV.keepPL, carO, carC]
          · simp only [go_sem, init_env', Nat.reduceEqDiff, Nat.reduceAdd, Nat.reduceMul, reduceIte, Nat.reduceLeDiff, Nat.reduceLT, Nat.reduceBEq, reduceCtorEq, winAll]
          · rw [hpost]; exact .inr ⟨_, ha, rfl, rfl⟩
        · simp at h
    simp only [carC] at htail
    cases hu : s1.up
    · rw [hu] at htail
      have hw : wayI false = -1 := rfl
      have hp2 : 2 * (s1.at_ : Int) + 1 = (s1.pos : Int) := by unfold Cs.pos sideAt; rw [hu]; simp
      rw [hp2] at wb
      rw [hw] at htail
      (repeat ((first | refine WV_seq_ ?_ | refine WV_block ?_ | refine WV_ops ?_ | refine WV_skip ?_ | refine WV_exit ?_); (try simp only [go_sem, init_env', Nat.reduceEqDiff, Nat.reduceAdd, Nat.reduceMul, reduceIte, Nat.reduceLeDiff, Nat.reduceLT, Nat.reduceBEq, reduceCtorEq, hP, wa, hw]); (repeat refine qI ?_)))
      (refine WV_cond rfl (fun h => ?_) (fun h => ?_))
      · (refine WV_ops ?_; simp only [go_sem, init_env', Nat.reduceEqDiff, Nat.reduceAdd, Nat.reduceMul, reduceIte, Nat.reduceLeDiff, Nat.reduceLT, Nat.reduceBEq, reduceCtorEq, hP, wb, hp2]; (repeat refine qI ?_))
        exact WV_sub (Sub_of (by simp only [go_sem, init_env', Nat.reduceEqDiff, Nat.reduceAdd, Nat.reduceMul, reduceIte, Nat.reduceLeDiff, Nat.reduceLT, Nat.reduceBEq, reduceCtorEq]; ((repeat' (first | exact EnvLe_e0 _ _ | refine EnvLe_upd ?_ ?_)) <;> ((try simp only [upd_app, e0_app, o0_app, Nat.reduceEqDiff, reduceIte]); first | exact AWk.refl _ _ | exact AWk.int (by omega) | exact AWk.int (by rw [w64 (by omega) (by omega)]; omega) | exact AWk.grow rfl | exact AWk.nil _ | exact AWk.of (by simp)))) (by simp only [go_sem, init_env', Nat.reduceEqDiff, Nat.reduceAdd, Nat.reduceMul, reduceIte, Nat.reduceLeDiff, Nat.reduceLT, Nat.reduceBEq, reduceCtorEq]; ((repeat' (first | exact ObjLe_o0 _ | exact ObjLe.rfl' _ | refine ObjLe_same ?_ | refine ObjLe_upd ?_ ?_ | refine ObjLe_new rfl ?_)) <;> rfl))) htail
      · simp at h
    · rw [hu] at htail
      have hw : wayI true = 1 := rfl
      have hp2 : 2 * (s1.at_ : Int) = (s1.pos : Int) := by unfold Cs.pos sideAt; rw [hu]; simp
      rw [hp2] at wa
      rw [hw] at htail
      (repeat ((first | refine WV_seq_ ?_ | refine WV_block ?_ | refine WV_ops ?_ | refine WV_skip ?_ | refine WV_exit ?_); (try simp only [go_sem, init_env', Nat.reduceEqDiff, Nat.reduceAdd, Nat.reduceMul, reduceIte, Nat.reduceLeDiff, Nat.reduceLT, Nat.reduceBEq, reduceCtorEq, hP, wa, hw, hp2]); (repeat refine qI ?_)))
      (refine WV_cond rfl (fun h => ?_) (fun h => ?_))
      · simp at h
      · (refine WV_skip ?_; simp only [go_sem, init_env', Nat.reduceEqDiff, Nat.reduceAdd, Nat.reduceMul, reduceIte, Nat.reduceLeDiff, Nat.reduceLT, Nat.reduceBEq, reduceCtorEq])
        exact WV_sub (Sub_of (by simp only [go_sem, init_env', Nat.reduceEqDiff, Nat.reduceAdd, Nat.reduceMul, reduceIte, Nat.reduceLeDiff, Nat.reduceLT, Nat.reduceBEq, reduceCtorEq]; ((repeat' (first | exact EnvLe_e0 _ _ | refine EnvLe_upd ?_ ?_)) <;> ((try simp only [upd_app, e0_app, o0_app, Nat.reduceEqDiff, reduceIte]); first | exact AWk.refl _ _ | exact AWk.int (by omega) | exact AWk.int (by rw [w64 (by omega) (by omega)]; omega) | exact AWk.grow rfl | exact AWk.nil _ | exact AWk.of (by simp)))) (by simp only [go_sem, init_env', Nat.reduceEqDiff, Nat.reduceAdd, Nat.reduceMul, reduceIte, Nat.reduceLeDiff, Nat.reduceLT, Nat.reduceBEq, reduceCtorEq]; ((repeat' (first | exact ObjLe_o0 _ | exact ObjLe.rfl' _ | refine ObjLe_same ?_ | refine ObjLe_upd ?_ ?_ | refine ObjLe_new rfl ?_)) <;> rfl))) htail
end Go.Proofs.Ytkpgpgaojjobgaa
