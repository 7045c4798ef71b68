/-
  Contracts of the layer's functions, of the laws' helpers and of the law; conditions: as each theorem states.
-/
import Derived.Test.YtlmfdmlochpfcaaDoorU5
import Derived.Test.YtlmfdmlochpfcaaDoorV3
set_option linter.unusedVariables false
set_option linter.unusedSimpArgs false
namespace Go.Proofs.YtlmfdmlochpfcaaDoor
open Go Go.V
attribute [local go_sem] Nat.reduceEqDiff Nat.reduceAdd Nat.reduceMul reduceIte Nat.reduceLeDiff Nat.reduceLT Nat.reduceBEq reduceCtorEq
def putI (R : List IRow) (p : Nat × Nat) (v : Int) : List IRow := if h : p.1 < R.length then R.set p.1 ⟨(R[p.1]).l.set p.2 v, (R[p.1]).j, (R[p.1]).cap⟩ else R
theorem putI_eq {R : List IRow} {p : Nat × Nat} (v : Int) (h : p.1 < R.length) : putI R p v = R.set p.1 ⟨(R[p.1]).l.set p.2 v, (R[p.1]).j, (R[p.1]).cap⟩ := dif_pos h
theorem putI_len (R : List IRow) (p : Nat × Nat) (v : Int) : (putI R p v).length = R.length := by unfold putI; split <;> simp
theorem putI_refs (R : List IRow) (p : Nat × Nat) (v : Int) : refs 1001 1 0 (putI R p v) = refs 1001 1 0 R := by
 unfold putI
 split
 ·rename_i h
  exact refs_set h _ (by simp) rfl
 ·rfl
theorem putI_gi {R : List IRow} {p : Nat × Nat} {v : Int} (h : p.1 < R.length) : gi (putI R p v) = setG (gi R) p v := by
 unfold setG
 rw [gi_row h, putI_eq v h]
 unfold gi
 rw [List.map_set]
theorem gown_putI {R : List IRow} {p : Nat × Nat} {v : Int} (h : p.1 < R.length) (hk : p.2 < (R[p.1]).l.length) (j : Nat) (o : Nat → Ob) : upd (gown icds 1 R j o) (p.1 + 1001) (.box ((cellsG icds (R[p.1]).l (R[p.1]).j).set p.2 (iv v))) = gown icds 1 (putI R p v) j o := by
 have := cellsG_set (cds := icds) icds_one hk (R[p.1]).j 0 (by decide) (.int .i64 v) v rfl
 rw [Nat.mul_one, Nat.add_zero] at this
 rw [this]
 have e : gridOb 1 (putI R p v) j = gridOb 1 R j := by unfold gridOb; rw [putI_refs]
 unfold gown
 rw [e, putI_eq v h]
 exact fam_set h ⟨(R[p.1]).l.set p.2 v, (R[p.1]).j, (R[p.1]).cap⟩
theorem GOk.gow {g : List (List Int)} (h : GOk g) : GOw g.length (wid g) g := ⟨rfl, h.row, h.val⟩
theorem GOw.gok {n w : Nat} {g : List (List Int)} (h : GOw n w g) (hn : 0 < n) (hn2 : n ≤ 41) (hw : w ≤ 32) : GOk g ∧ wid g = w ∧ g.length = n := by
 have hw1 : wid g = w := by unfold wid; exact h.row 0 hn
 refine ⟨⟨by rw [h.len]; exact hn, by rw [h.len]; exact hn2, by rw [hw1]; exact hw, fun i hi => by rw [hw1]; exact h.row i (by rw [← h.len]; exact hi), fun i k hi hk => h.val i k (by rw [← h.len]; exact hi) (by rw [← hw1]; exact hk)⟩, hw1, h.len⟩
theorem line_pos (g : List (List Int)) (i : Nat) (b : Bool) : lineP g i b = posL g.length (wid g) i b := rfl
theorem find_at {α : Type} {p : α → Bool} : ∀ {l : List α} {i : Nat} (hi : i < l.length), (∀ k (hk : k < l.length), k < i → p l[k] = false) → p l[i] = true → l.find? p = some l[i]
 | x :: l, 0, _, _, hp => by simp only [List.getElem_cons_zero] at hp ⊢; simp [hp]
 | x :: l, i + 1, hi, hno, hp => by
  have h0 := hno 0 (by simp) (by omega)
  simp only [List.getElem_cons_zero] at h0
  simp only [List.getElem_cons_succ] at hp ⊢
  rw [List.find?_cons_of_neg (by rw [h0]; simp)]
  exact find_at (by simpa using hi) (fun k hk hki => by have := hno (k + 1) (by simpa using hk) (by omega); simpa using this) hp
end Go.Proofs.YtlmfdmlochpfcaaDoor

namespace Go.Proofs.YtlmfdmlochpfcaaDoor
open Go Go.V
attribute [local go_sem] Nat.reduceEqDiff Nat.reduceAdd Nat.reduceMul reduceIte Nat.reduceLeDiff Nat.reduceLT Nat.reduceBEq reduceCtorEq
end Go.Proofs.YtlmfdmlochpfcaaDoor

namespace Go.Proofs.YtlmfdmlochpfcaaDoor
open Go Go.V
theorem okB_iff {b : UInt8} : okB b = true ↔ BOk b := by
 refine ⟨okB_ok, fun h => ?_⟩
 unfold BOk at h
 unfold okB valB
 simp only [Bool.or_eq_true, decide_eq_true_eq]
 by_cases h63 : b.toNat = 63
 ·exact .inl h63
 ·right
  rw [if_neg (by omega)]
  split <;> omega
theorem valR_iff {b : UInt8} : (valR b).2 = true ↔ BOk b := by
 constructor
 ·intro h
  unfold valR at h
  unfold BOk
  split at h
  ·cases h
  ·omega
 ·intro h
  rw [vq_R h]
theorem segB_nl (b : UInt8) : ∀ (s : List UInt8), ∀ l ∈ segB b s, b ∉ l
 | [], l, hl => by
  simp only [segB, List.mem_singleton] at hl
  subst hl; simp
 | y :: s, l, hl => by
  have ih := segB_nl b s
  unfold segB at hl
  split at hl
  ·rcases List.mem_cons.1 hl with rfl | hl
   ·simp
   ·exact ih l hl
  ·rename_i hyb
   split at hl
   ·rename_i h t he
    rw [he] at ih
    rcases List.mem_cons.1 hl with rfl | hl
    ·intro hm
     rcases List.mem_cons.1 hm with rfl | hm
     ·simp at hyb
     ·exact ih h (by simp) hm
    ·exact ih l (by simp [hl])
   ·simp only [List.mem_singleton] at hl
    subst hl
    intro hm
    simp only [List.mem_singleton] at hm
    subst hm; simp at hyb
theorem textG_cons (l : List UInt8) (t : List (List UInt8)) : textG (l :: t) = l ++ 10 :: textG t := by simp [textG]
theorem seg_text : ∀ (s : List UInt8), textG (segB 10 s) = s ++ [10]
 | [] => rfl
 | y :: s => by
  have ih := seg_text s
  unfold segB
  split
  ·rename_i h
   have hy : y = 10 := by simpa using h
   subst hy
   rw [textG_cons, ih]; rfl
  ·split
   ·rename_i h t he
    rw [he, textG_cons] at ih
    rw [textG_cons, List.cons_append, ih]; rfl
   ·rename_i he
    exact (segB_ne _ _ he).elim
theorem ends_split {s : List UInt8} {b : UInt8} (h : endsB s b = true) : s = s.dropLast ++ [b] := by
 unfold endsB at h
 have h1 : s.getLast? = some b := by simpa using h
 have hne : s ≠ [] := by rintro rfl; cases h1
 rw [List.getLast?_eq_some_getLast hne, Option.some.injEq] at h1
 rw [← h1, List.dropLast_concat_getLast]
theorem seg_text' {s : List UInt8} (h : endsB s 10 = true) : textG (segB 10 s.dropLast) = s := by
 rw [seg_text]
 exact (ends_split h).symm
theorem segB_append (b : UInt8) : ∀ (l t : List UInt8), b ∉ l → segB b (l ++ b :: t) = l :: segB b t
 | [], t, _ => by simp [segB]
 | y :: l, t, h => by
  have hy : y ≠ b := fun e => h (by simp [e])
  have ih := segB_append b l t fun e => h (by simp [e])
  have e : segB b (y :: (l ++ b :: t)) = match segB b (l ++ b :: t) with | h :: t => (y :: h) :: t | [] => [[y]] := by
   rw [segB, if_neg hy]; rfl
  rw [List.cons_append, e, ih]
theorem segB_last (b : UInt8) : ∀ (l : List UInt8), b ∉ l → segB b l = [l]
 | [], _ => rfl
 | y :: l, h => by
  have hy : y ≠ b := fun e => h (by simp [e])
  have ih := segB_last b l fun e => h (by simp [e])
  unfold segB
  rw [if_neg (by simpa using hy), ih]
theorem text_seg : ∀ (rows : List (List UInt8)), rows ≠ [] → (∀ l ∈ rows, (10 : UInt8) ∉ l) → endsB (textG rows) 10 = true ∧ segB 10 (textG rows).dropLast = rows
 | [], h, _ => (h rfl).elim
 | [l], _, h => by
  have e : textG [l] = l ++ [10] := by simp [textG]
  rw [e]
  refine ⟨by simp [endsB], ?_⟩
  rw [List.dropLast_concat]
  exact segB_last 10 l (h l (by simp))
 | l :: m :: t, _, h => by
  obtain ⟨h1, h2⟩ := text_seg (m :: t) (by simp) fun x hx => h x (by simp [hx])
  have hne : textG (m :: t) ≠ [] := by rw [textG_cons]; simp
  have e : textG (l :: m :: t) = l ++ 10 :: textG (m :: t) := textG_cons l (m :: t)
  rw [e]
  constructor
  ·have h3 := ends_split h1
   unfold endsB
   rw [h3, ← List.cons_append, ← List.append_assoc, List.getLast?_concat]
   simp
  ·have e2 : (l ++ 10 :: textG (m :: t)).dropLast = l ++ 10 :: (textG (m :: t)).dropLast := by
    rw [List.dropLast_append_of_ne_nil (by simp), List.dropLast_cons_of_ne_nil hne]
   rw [e2, segB_append 10 l _ (h l (by simp)), h2]
theorem textG_length (rows : List (List UInt8)) (w : Nat) (h : ∀ l ∈ rows, l.length = w) : (textG rows).length = rows.length * (w + 1) := by
 induction rows with
 | nil => simp [textG]
 | cons l t ih =>
  rw [textG_cons, List.length_append, List.length_cons, ih (fun x hx => h x (by simp [hx])), h l (by simp), List.length_cons, Nat.succ_mul]
  omega
theorem BOk.ne10 {b : UInt8} (h : BOk b) : b ≠ 10 := by
 rintro rfl
 unfold BOk at h
 simp at h
theorem SOk.nl {rows : List (List UInt8)} {w : Nat} (h : SOk rows w) : ∀ l ∈ rows, (10 : UInt8) ∉ l := fun l hl hm => (h.byte l hl 10 hm).ne10 rfl
theorem allOk_of {w : Nat} : ∀ (k : Nat) (t : List (List UInt8)), (∀ l ∈ t, 2 ≤ l.length ∧ l.length ≤ 32 ∧ l.length = w ∧ ∀ b ∈ l, BOk b) → k + t.length ≤ 41 → allOk w k t = true
 | k, [], _, _ => rfl
 | k, l :: t, h, hk => by
  simp only [List.length_cons] at hk
  simp only [allOk, Bool.and_eq_true]
  refine ⟨?_, allOk_of (k + 1) t (fun x hx => h x (by simp [hx])) (by omega)⟩
  obtain ⟨h1, h2, h3, h4⟩ := h l (by simp)
  unfold okSeg
  simp only [Bool.and_eq_true, decide_eq_true_eq]
  exact ⟨⟨⟨⟨h1, h2⟩, h3⟩, by omega⟩, List.all_eq_true.2 fun b hb => okB_iff.2 (h4 b hb)⟩
theorem parse_is {s : List UInt8} {rows : List (List UInt8)} (h : parseP s = some rows) : textG rows = s ∧ SOk rows (rows.headD []).length := by
 refine ⟨?_, parse_ok h⟩
 unfold parseP at h
 split at h
 ·rename_i he
  split at h
  ·simp only [Option.some.injEq] at h
   subst h
   exact seg_text' he
  ·cases h
 ·cases h
def stp (p : List (List Int) × List Int) (c : UInt8) : List (List Int) × List Int := if c = 10 then (p.1 ++ [p.2], []) else (p.1, p.2 ++ [(valR c).1])
def stR (s : List UInt8) : List (List Int) × List Int := s.foldl stp ([], [])
theorem stR_snoc {s : List UInt8} {k : Nat} (h : k < s.length) : stR (s.take (k + 1)) = stp (stR (s.take k)) s[k] := by
 unfold stR
 rw [List.take_succ_eq_append_getElem h, List.foldl_append]; rfl
def rowR (l : List UInt8) : List Int := l.map fun b => (valR b).1
theorem fold_line (l : List UInt8) (h : (10 : UInt8) ∉ l) : ∀ p : List (List Int) × List Int, l.foldl stp p = (p.1, p.2 ++ rowR l) := by
 induction l with
 | nil => intro p; simp [rowR]
 | cons y l ih =>
  intro p
  have hy : y ≠ 10 := fun e => h (by simp [e])
  rw [List.foldl_cons, ih (fun e => h (by simp [e]))]
  unfold stp
  rw [if_neg hy]
  simp [rowR]
theorem fold_rows (rows : List (List UInt8)) (h : ∀ l ∈ rows, (10 : UInt8) ∉ l) : ∀ g : List (List Int), (textG rows).foldl stp (g, []) = (g ++ rows.map rowR, []) := by
 induction rows with
 | nil => intro g; simp [textG]
 | cons l t ih =>
  intro g
  rw [textG_cons, List.foldl_append, fold_line l (h l (by simp)), List.foldl_cons]
  have e : stp (g, ([] : List Int) ++ rowR l) 10 = (g ++ [rowR l], []) := by unfold stp; rw [if_pos rfl]; simp
  rw [e, ih (fun x hx => h x (by simp [hx]))]
  simp
theorem stR_end {s : List UInt8} (h : endsB s 10 = true) : stR s = ((segB 10 s.dropLast).map rowR, []) := by
 have := fold_rows (segB 10 s.dropLast) (segB_nl 10 _) []
 rw [seg_text' h] at this
 simpa [stR] using this
theorem rowR_vq {l : List UInt8} (h : ∀ b ∈ l, BOk b) : rowR l = l.map vq := List.map_congr_left fun b hb => by rw [vq_R (h b hb)]
end Go.Proofs.YtlmfdmlochpfcaaDoor

namespace Go.Proofs.YtlmfdmlochpfcaaDoor
open Go Go.V
abbrev o61_0 : List Ins := [⟨(some 2), .mv (.k (.c (.raw (.slice none 0 0)))), none, true⟩,
 ⟨(some 3), .mv (.k (.c (.bool false))), none, true⟩]
abbrev o61_1 : List Ins := [⟨(some 10), .mv (.t 0), none, true⟩,
 ⟨(some 11), .prim .slen [(.t 10)], none, true⟩,
 ⟨(some 12), .bin .eql (.t 11) (.k (.c (.int .i64 0))), none, true⟩,
 ⟨(some 13), .mv (.t 12), none, true⟩,
 ⟨(some 14), .mv (.t 0), (some (13, false)), true⟩,
 ⟨(some 15), .prim .slen [(.t 14)], (some (13, false)), true⟩,
 ⟨(some 16), .bin .gtr (.t 15) (.k (.c (.int .i64 1353))), (some (13, false)), true⟩,
 ⟨(some 17), .pick (.t 13) (.k (.c (.bool true))) (.t 16), none, true⟩,
 ⟨(some 18), .mv (.t 17), none, true⟩,
 ⟨(some 19), .mv (.t 0), (some (18, false)), true⟩,
 ⟨(some 20), .mv (.t 0), (some (18, false)), true⟩,
 ⟨(some 21), .prim .slen [(.t 20)], (some (18, false)), true⟩,
 ⟨(some 22), .bin .sub (.t 21) (.k (.c (.int .i64 1))), (some (18, false)), true⟩,
 ⟨(some 23), .prim .sidx [(.t 19), (.t 22)], (some (18, false)), true⟩,
 ⟨(some 24), .bin .neq (.t 23) (.k (.c (.int .u8 10))), (some (18, false)), true⟩,
 ⟨(some 25), .pick (.t 18) (.k (.c (.bool true))) (.t 24), none, true⟩]
abbrev o61_2 : List Ins := [⟨(some 2), .mv (.k (.c (.raw (.slice none 0 0)))), none, true⟩,
 ⟨(some 3), .mv (.k (.c (.bool false))), none, true⟩]
abbrev v61_3 : VC := (.seq (.ops o61_2) .ret)
abbrev v61_4 : VC := (.cond (.t 25) v61_3 .skip)
abbrev o61_5 : List Ins := [⟨(some 4), .mv (.k (.c (.raw (.slice none 0 0)))), none, true⟩]
abbrev o61_6 : List Ins := [⟨(some 5), .mv (.k (.c (.raw (.slice none 0 0)))), none, true⟩]
abbrev o61_7 : List Ins := [⟨(some 6), .mv (.k (.c (.int .i64 0))), none, true⟩]
abbrev o61_8 : List Ins := [⟨(some 26), .mv (.t 6), none, true⟩,
 ⟨(some 27), .mv (.t 0), none, true⟩,
 ⟨(some 28), .prim .slen [(.t 27)], none, true⟩,
 ⟨(some 29), .bin .lss (.t 26) (.t 28), none, true⟩]
abbrev v61_9 : VC := (.cond (.t 29) .skip (.exit 0))
abbrev o61_10 : List Ins := [⟨(some 32), .mv (.t 0), none, true⟩,
 ⟨(some 33), .mv (.t 6), none, true⟩,
 ⟨(some 34), .prim .sidx [(.t 32), (.t 33)], none, true⟩,
 ⟨(some 35), .bin .eql (.t 34) (.k (.c (.int .u8 10))), none, true⟩]
abbrev o61_11 : List Ins := [⟨(some 36), .mv (.t 4), none, true⟩,
 ⟨(some 37), .mv (.t 5), none, true⟩,
 ⟨(some 38), .bsl 50 1 [(.t 37)], none, true⟩,
 ⟨(some 39), .app 50 1 24 (.t 36) (.t 38), none, true⟩,
 ⟨(some 4), .mv (.t 39), none, true⟩,
 ⟨(some 5), .mv (.k (.c (.raw (.slice none 0 0)))), none, true⟩]
abbrev v61_12 : VC := (.seq (.ops o61_11) (.exit 1))
abbrev v61_13 : VC := (.cond (.t 35) v61_12 .skip)
abbrev o61_14 : List Ins := [⟨(some 41), .mv (.t 0), none, true⟩,
 ⟨(some 42), .mv (.t 6), none, true⟩,
 ⟨(some 43), .prim .sidx [(.t 41), (.t 42)], none, true⟩,
 ⟨(some 44), .call (.k (.fn 22 [])) [(.t 43)], none, true⟩,
 ⟨(some 40), .mv (.t 44), none, true⟩,
 ⟨(some 45), .ext (.t 40) 0, none, true⟩,
 ⟨(some 46), .ext (.t 40) 1, none, true⟩,
 ⟨(some 7), .mv (.t 45), none, true⟩,
 ⟨(some 8), .mv (.t 46), none, true⟩]
abbrev o61_15 : List Ins := [⟨(some 47), .mv (.t 8), none, true⟩,
 ⟨(some 48), .un .not (.t 47), none, true⟩]
abbrev o61_16 : List Ins := [⟨(some 2), .mv (.k (.c (.raw (.slice none 0 0)))), none, true⟩,
 ⟨(some 3), .mv (.k (.c (.bool false))), none, true⟩]
abbrev v61_17 : VC := (.seq (.ops o61_16) .ret)
abbrev v61_18 : VC := (.cond (.t 48) v61_17 .skip)
abbrev o61_19 : List Ins := [⟨(some 49), .mv (.t 5), none, true⟩,
 ⟨(some 50), .mv (.t 7), none, true⟩,
 ⟨(some 51), .bsl 3 1 [(.t 50)], none, true⟩,
 ⟨(some 52), .app 3 1 8 (.t 49) (.t 51), none, true⟩,
 ⟨(some 5), .mv (.t 52), none, true⟩]
abbrev v61_20 : VC := (.seq (.seq (.ops o61_15) v61_18) (.ops o61_19))
abbrev v61_21 : VC := (.seq (.ops o61_14) v61_20)
abbrev v61_22 : VC := (.seq (.seq (.ops o61_10) v61_13) v61_21)
abbrev o61_23 : List Ins := [⟨(some 30), .mv (.t 6), none, true⟩,
 ⟨(some 31), .bin .add (.t 30) (.k (.c (.int .i64 1))), none, true⟩,
 ⟨(some 6), .mv (.t 31), none, true⟩]
abbrev v61_24 : VC := (.seq (.block 1 v61_22) (.ops o61_23))
abbrev v61_25 : VC := (.seq (.seq (.ops o61_8) v61_9) v61_24)
-- K61_1: changed and kept: [6, 4, 5]
abbrev K61_1 : List Nat := [0]
abbrev v61_26 : VC := (.loop v61_25)
abbrev v61_27 : VC := (.block 0 v61_26)
abbrev o61_28 : List Ins := [⟨(some 9), .mv (.k (.c (.int .i64 0))), none, true⟩]
abbrev o61_29 : List Ins := [⟨(some 53), .mv (.t 9), none, true⟩,
 ⟨(some 54), .mv (.t 4), none, true⟩,
 ⟨(some 55), .len (.t 54), none, true⟩,
 ⟨(some 56), .bin .lss (.t 53) (.t 55), none, true⟩]
abbrev v61_30 : VC := (.cond (.t 56) .skip (.exit 2))
abbrev o61_31 : List Ins := [⟨(some 59), .mv (.t 4), none, false⟩,
 ⟨(some 60), .mv (.t 9), none, false⟩,
 ⟨(some 61), .ia 1 (.t 59) (.t 60), none, false⟩,
 ⟨(some 62), .ld true 1 (.t 61), none, false⟩,
 ⟨(some 63), .len (.t 62), none, false⟩,
 ⟨(some 64), .mv (.t 4), none, false⟩,
 ⟨(some 65), .ia 1 (.t 64) (.k (.c (.int .i64 0))), none, false⟩,
 ⟨(some 66), .ld true 1 (.t 65), none, false⟩,
 ⟨(some 67), .len (.t 66), none, false⟩,
 ⟨(some 68), .bin .neq (.t 63) (.t 67), none, true⟩]
abbrev o61_32 : List Ins := [⟨(some 2), .mv (.k (.c (.raw (.slice none 0 0)))), none, true⟩,
 ⟨(some 3), .mv (.k (.c (.bool false))), none, true⟩]
abbrev v61_33 : VC := (.seq (.ops o61_32) .ret)
abbrev v61_34 : VC := (.cond (.t 68) v61_33 .skip)
abbrev v61_35 : VC := (.seq (.dops o61_31) v61_34)
abbrev o61_36 : List Ins := [⟨(some 57), .mv (.t 9), none, true⟩,
 ⟨(some 58), .bin .add (.t 57) (.k (.c (.int .i64 1))), none, true⟩,
 ⟨(some 9), .mv (.t 58), none, true⟩]
abbrev v61_37 : VC := (.seq (.block 3 v61_35) (.ops o61_36))
abbrev v61_38 : VC := (.seq (.seq (.ops o61_29) v61_30) v61_37)
-- K61_2: changed and kept: [9]
abbrev K61_2 : List Nat := [4]
abbrev v61_39 : VC := (.loop v61_38)
abbrev v61_40 : VC := (.block 2 v61_39)
abbrev o61_41 : List Ins := [⟨(some 69), .mv (.t 4), none, true⟩,
 ⟨(some 70), .mv (.t 4), none, true⟩,
 ⟨(some 71), .len (.t 70), none, true⟩,
 ⟨(some 72), .bin .leq (.t 71) (.k (.c (.int .i64 41))), none, true⟩,
 ⟨(some 73), .mv (.t 72), none, true⟩,
 ⟨(some 74), .mv (.t 4), (some (73, true)), true⟩,
 ⟨(some 75), .ia 1 (.t 74) (.k (.c (.int .i64 0))), (some (73, true)), true⟩,
 ⟨(some 76), .ld true 1 (.t 75), (some (73, true)), true⟩,
 ⟨(some 77), .len (.t 76), (some (73, true)), true⟩,
 ⟨(some 78), .call (.k (.fn 67 [])) [(.t 77), (.k (.c (.int .i64 2))), (.k (.c (.int .i64 32)))], (some (73, true)), true⟩,
 ⟨(some 79), .pick (.t 73) (.t 78) (.k (.c (.bool false))), none, true⟩,
 ⟨(some 2), .mv (.t 69), none, true⟩,
 ⟨(some 3), .mv (.t 79), none, true⟩]
abbrev v61_42 : VC := (.seq (.ops o61_41) .ret)
abbrev v61_43 : VC := (.seq (.seq (.ops o61_28) v61_40) v61_42)
abbrev v61_44 : VC := (.seq (.seq (.ops o61_7) v61_27) v61_43)
abbrev v61_45 : VC := (.seq (.ops o61_6) v61_44)
abbrev v61_46 : VC := (.seq (.ops o61_5) v61_45)
abbrev v61_47 : VC := (.seq (.seq (.ops o61_1) v61_4) v61_46)
def ir61 : FC := ⟨1, 80, [.t 2, .t 3], (.seq (.ops o61_0) v61_47)⟩
theorem c61 : compM Tryd.prog [] 61 = some ir61 := by kernel_rfl
attribute [local go_sem] Nat.reduceEqDiff Nat.reduceAdd Nat.reduceMul reduceIte Nat.reduceLeDiff Nat.reduceLT Nat.reduceBEq reduceCtorEq
def badByte (s : List UInt8) : Bool := s.any fun c => !(c == 10 || (valR c).2)
def eqLen (g : List (List Int)) : Bool := g.all fun l => decide (l.length = wid g)
def retR (s : List UInt8) : List (List Int) × Bool :=
 if s.length = 0 ∨ 1353 < s.length ∨ endsB s 10 = false then ([], false)
 else if badByte s then ([], false)
 else if eqLen (stR s).1 then ((stR s).1, decide ((stR s).1.length ≤ 41) && (decide (2 ≤ wid (stR s).1) && decide (wid (stR s).1 ≤ 32)))
 else ([], false)
theorem bad_take {s : List UInt8} {k : Nat} (h : k < s.length) (hb : s[k] ≠ 10) (hv : (valR s[k]).2 = false) : badByte s = true := by
 unfold badByte
 rw [List.any_eq_true]
 exact ⟨s[k], List.getElem_mem h, by simp [hb, hv]⟩
theorem bad_not {s : List UInt8} (h : ∀ k (hk : k < s.length), s[k] = 10 ∨ (valR s[k]).2 = true) : badByte s = false := by
 unfold badByte
 rw [Bool.eq_false_iff]
 intro hc
 rw [List.any_eq_true] at hc
 obtain ⟨c, hc, hn⟩ := hc
 obtain ⟨k, hk, rfl⟩ := List.getElem_of_mem hc
 rcases h k hk with h | h <;> simp [h] at hn
theorem stR_ne {s : List UInt8} (h : endsB s 10 = true) : 0 < (stR s).1.length := by
 rw [stR_end h]
 simp only [List.length_map]
 have := segB_ne 10 s.dropLast
 exact List.length_pos_iff.2 this
theorem stR_len : ∀ (s : List UInt8), (stR s).1.length ≤ s.length ∧ (stR s).2.length ≤ s.length := by
 intro s
 have key : ∀ (k : Nat), k ≤ s.length → (stR (s.take k)).1.length ≤ k ∧ (stR (s.take k)).2.length ≤ k := by
  intro k
  induction k with
  | zero => intro _; simp [stR]
  | succ k ih =>
   intro hk
   have := ih (by omega)
   rw [stR_snoc (by omega)]
   unfold stp
   split
   ·simp; omega
   ·simp; omega
 have := key s.length (Nat.le_refl _)
 rwa [List.take_length] at this
def rw1 (l : List Int) : List CD := [rowC l]
def nw1 (n : Int) : List CD := [.int .i64 n]
theorem rw1_one (g : List (List Int)) : ((g.map rw1).all fun e => e.length == 1) = true := by
 rw [List.all_eq_true]; intro e he; obtain ⟨n, _, rfl⟩ := List.mem_map.1 he; rfl
theorem nw1_one (g : List Int) : ((g.map nw1).all fun e => e.length == 1) = true := by
 rw [List.all_eq_true]; intro e he; obtain ⟨n, _, rfl⟩ := List.mem_map.1 he; rfl
theorem last_at {s : List UInt8} (h : 0 < s.length) : (endsB s 10 = true ↔ s[s.length - 1] = 10) := by
 unfold endsB
 rw [List.getLast?_eq_getElem?, List.getElem?_eq_getElem (by omega)]
 simp
theorem beq10 (b : UInt8) : ((b.toNat : Int) == 10) = decide (b = 10) := by
 rw [Bool.eq_iff_iff]
 simp only [beq_iff_eq, decide_eq_true_eq]
 constructor
 ·intro h; exact UInt8.toNat_inj.1 (by show b.toNat = 10; omega)
 ·rintro rfl; rfl
set_option maxRecDepth 20000 in
set_option maxHeartbeats 8000000 in
theorem parse61D (s : List UInt8) (hs : s.length ≤ 100000) : FSpec Tryd.prog 61 [sv s] (.tup [.c (gridC (retR s).1), bv (retR s).2]) := by
 have hmax : maxLen = 9223372036854775807 := rfl
 refine FSpec_ofP c61 (Nat.le_refl _) (by decide) fun C hP hN hC hpin hL => ?_; rw [init_st]
 simp only [ir61]
 refine WV_seq_ ?_
 (refine WV_op ?_; simp only [go_sem, hP]; (repeat refine qJ ?_))
 refine WV_seq_ (WV_seq_ ?_)
 by_cases h0 : s.length = 0
 ·have hr : retR s = ([], false) := by unfold retR; rw [if_pos (.inl h0)]
  have hs0 : s = [] := List.eq_nil_of_length_eq_zero h0
  subst hs0
  rw [hr]
  (refine WV_op ?_; simp only [go_sem, hP, List.length_nil]; (repeat refine qJ ?_))
  (refine WV_cond rfl (fun h => ?_) (fun h => ?_))
  ·(repeat ((first | refine Va ?_ | refine Vb ?_ | refine Vc ?_ | refine Vd ?_ | refine Ve ?_ | refine Vf ?_); (try simp only [go_sem, hP]); (repeat refine qJ ?_)))
   (refine WV_ret ?_; simp only [thenQ, inQ, RetQ, RetOk, resAll, resA]; simp only [go_sem, tupA, AV.port, AV.portL, exists_eq_left'])
   exact AVle.tup ⟨_, _, rfl, AVle.nil 1, _, _, rfl, AVle.refl _, rfl⟩
  ·simp at h
 by_cases h1 : 1353 < s.length
 ·have hr : retR s = ([], false) := by unfold retR; rw [if_pos (.inr (.inl h1))]
  have hw0 := w64 (n := (s.length : Int) - 1) (by omega) (by omega)
  have hln : ((s.length : Int) - 1).toNat = s.length - 1 := by omega
  rw [hr]
  (refine WV_op ?_; simp only [go_sem, hP, hw0, hln, str_at (show s.length - 1 < s.length by omega)]; (repeat refine qJ ?_))
  (refine WV_cond rfl (fun h => ?_) (fun h => ?_))
  ·(repeat ((first | refine Va ?_ | refine Vb ?_ | refine Vc ?_ | refine Vd ?_ | refine Ve ?_ | refine Vf ?_); (try simp only [go_sem, hP]); (repeat refine qJ ?_)))
   (refine WV_ret ?_; simp only [thenQ, inQ, RetQ, RetOk, resAll, resA]; simp only [go_sem, tupA, AV.port, AV.portL, exists_eq_left'])
   exact AVle.tup ⟨_, _, rfl, AVle.nil 1, _, _, rfl, AVle.refl _, rfl⟩
  ·simp at h; omega
 have hw0 := w64 (n := (s.length : Int) - 1) (by omega) (by omega)
 have hln : ((s.length : Int) - 1).toNat = s.length - 1 := by omega
 have hlast := last_at (s := s) (by omega)
 have h10 := beq10 (s[s.length - 1]'(by omega))
 by_cases h2 : endsB s 10 = true
 ·have h2' := hlast.1 h2
  have hr : retR s = if badByte s then ([], false) else if eqLen (stR s).1 then ((stR s).1, decide ((stR s).1.length ≤ 41) && (decide (2 ≤ wid (stR s).1) && decide (wid (stR s).1 ≤ 32))) else ([], false) := by
   unfold retR
   rw [if_neg (by rintro (h | h | h); exact h0 h; exact h1 h; rw [h2] at h; cases h)]
  rw [h2'] at h10
  (refine WV_op ?_; simp only [go_sem, hP, hw0, hln, str_at (show s.length - 1 < s.length by omega), h2']; (repeat refine qJ ?_))
  (refine WV_cond rfl (fun h => ?_) (fun h => ?_))
  ·exfalso
   have hs0 : s ≠ [] := fun e => h0 (by rw [e]; rfl)
   simp [hs0] at h; omega
  (refine WV_skip ?_; simp only [go_sem])
  refine WV_keep [0] ?_
  simp only [go_sem]
  (repeat ((first | refine Va ?_ | refine Vb ?_ | refine Vc ?_ | refine Vd ?_ | refine Ve ?_ | refine Vf ?_); (try simp only [go_sem, hP]); (repeat refine qJ ?_)))
  refine WV_nilslot 4 39 50 1 (by decide) (by decide) rfl rfl ?_
  simp only [go_sem]
  refine WV_nilslot 5 52 3 1 (by decide) (by decide) rfl rfl ?_
  simp only [go_sem]
  refine WV_loopK K61_1 [39, 52] (fun i : Nat => i ≤ s.length ∧ ∀ k (hk : k < s.length), k < i → s[k] = 10 ∨ (valR s[k]).2 = true) (fun i => s.length - i) (fun i => [(6, iv i), (4, .gr 39), (5, .gr 52)]) (fun i => [(39, .grow 50 1 ((stR (s.take i)).1.map rw1)), (52, .grow 3 1 ((stR (s.take i)).2.map nw1))]) 0 ⟨Nat.zero_le _, fun k _ hk => by omega⟩ ?_ ?_
  ·(refine Sub_of (by simp only [go_sem]; ((repeat' (first | exact EnvLe_e0 _ _ | refine EnvLe_upd ?_ ?_)) <;> ((try simp only [upd_app, e0_app, o0_app, Nat.reduceEqDiff, reduceIte]); first | exact AWk.refl _ _ | exact AWk.int (by omega) | exact AWk.int (by rw [w64 (by omega) (by omega)]; omega) | exact AWk.grow rfl | exact AWk.nil _ | exact AWk.of (by simp [stR])))) (by simp only [go_sem]; exact ObjLe_au))
  ·intro i ⟨hi0, hno⟩
   simp only [go_sem]
   (repeat ((first | refine Va ?_ | refine Vb ?_ | refine Vc ?_ | refine Vd ?_ | refine Ve ?_ | refine Vf ?_); (try simp only [go_sem, hP]); (repeat refine qJ ?_)))
   (refine WV_cond rfl (fun h => ?_) (fun h => ?_))
   ·have hi : i < s.length := by simpa using h
    have hw2 := w64 (n := (i : Int) + 1) (by omega) (by omega)
    have hsn := stR_snoc hi
    have hl1 := stR_len (s.take i)
    have htl : (s.take i).length = i := by rw [List.length_take]; omega
    rw [htl] at hl1
    (repeat ((first | refine Va ?_ | refine Vb ?_ | refine Vc ?_ | refine Vd ?_ | refine Ve ?_ | refine Vf ?_); (try simp only [go_sem, hP, Int.toNat_natCast, Int.ofNat_lt, hi, Int.natCast_nonneg, str_at hi, beq10]); (repeat refine qJ ?_)))
    generalize stR (s.take i) = st at hsn hl1
    obtain ⟨g, row⟩ := st
    simp only at hl1 ⊢
    have n1 := rw1_one g
    have n2 := nw1_one row
    by_cases hc : s[i] = 10
    ·unfold stp at hsn
     rw [if_pos hc] at hsn
     have hl52 : ∀ own : Nat → Ob, AWk (upd own 52 (.grow 3 1 (row.map nw1))) (.gr 52) (.c (rowC row)) := fun own => .inr (.inr (.inl ⟨52, 3, 1, _, rfl, by rw [upd_app, if_pos rfl]; rfl, rfl⟩))
     (refine WV_cond rfl (fun h => ?_) (fun h => ?_))
     ·refine WV_seq_ ?_
      refine WV_sub (σ' := ⟨upd (upd (upd (upd e0 0 (.c (.str s))) 6 (iv i)) 4 (.gr 39)) 5 (.c (rowC row)), upd o0 39 (.grow 50 1 (g.map rw1))⟩) (Sub_of ?_ ?_) ?_
      ·refine EnvLe_upd (hl52 _) ?_
       exact EnvLe_au
      ·exact ObjLe_au
      (refine WV_op ?_; simp only [go_sem, hP, rowC, n1, List.length_map]; (repeat refine qJ ?_))
      (refine WV_exit ?_; simp only [go_sem])
      refine WV_nilslot 5 52 3 1 (by decide) (by decide) rfl rfl ?_
      simp only [go_sem]
      (repeat ((first | refine Va ?_ | refine Vb ?_ | refine Vc ?_ | refine Vd ?_ | refine Ve ?_ | refine Vf ?_); (try simp only [go_sem, hP, hw2]); (repeat refine qJ ?_)))
      refine ⟨i + 1, ⟨by omega, fun k hk hki => ?_⟩, by omega, ?_⟩
      ·by_cases hk2 : k = i
       ·subst hk2; exact .inl hc
       ·exact hno k hk (by omega)
      ·rw [hsn]
       simp only [List.map_append, List.map_cons, List.map_nil]
       exact Sub_au
     ·simp [hc] at h
    ·unfold stp at hsn
     rw [if_neg hc] at hsn
     (refine WV_cond rfl (fun h => ?_) (fun h => ?_))
     ·simp [hc] at h
     ·(refine WV_skip ?_; simp only [go_sem])
      refine WV_seq_ ?_
      (refine WV_op ?_; simp only [go_sem, hP, Int.toNat_natCast, Int.ofNat_lt, hi, Int.natCast_nonneg, str_at hi]; (repeat refine qJ ?_))
      (refine AS_pu (value22 s[i]) ?_; simp only [go_sem, hP]; (repeat refine qJ ?_); (repeat ((first | refine Va ?_ | refine Vb ?_ | refine Vc ?_ | refine Vd ?_ | refine Ve ?_ | refine Vf ?_); (try simp only [go_sem, hP]); (repeat refine qJ ?_))))
      by_cases hv : (valR s[i]).2 = true
      ·rw [hv]
       (refine WV_cond rfl (fun h => ?_) (fun h => ?_))
       ·simp at h
       (repeat ((first | refine Va ?_ | refine Vb ?_ | refine Vc ?_ | refine Vd ?_ | refine Ve ?_ | refine Vf ?_); (try simp only [go_sem, hP, n2, hw2, List.length_map]); (repeat refine qJ ?_)))
       refine ⟨i + 1, ⟨by omega, fun k hk hki => ?_⟩, by omega, ?_⟩
       ·by_cases hk2 : k = i
        ·subst hk2; exact .inr hv
        ·exact hno k hk (by omega)
       ·rw [hsn]
        simp only [List.map_append, List.map_cons, List.map_nil]
        (refine Sub_of (by simp only [go_sem]; ((repeat' (first | exact EnvLe_e0 _ _ | refine EnvLe_upd ?_ ?_)) <;> ((try simp only [upd_app, e0_app, o0_app, Nat.reduceEqDiff, reduceIte]); first | exact AWk.refl _ _ | exact AWk.int (by omega) | exact AWk.int (by rw [w64 (by omega) (by omega)]; omega) | exact AWk.grow rfl | exact AWk.nil _ | exact AWk.of (by simp [nw1])))) (by simp only [go_sem]; exact ObjLe_au))
      ·have hbad := bad_take hi hc (by simpa using hv)
       have hr2 : retR s = ([], false) := by rw [hr, if_pos hbad]
       rw [hr2]
       rw [show (valR s[i]).2 = false from by simpa using hv]
       (refine WV_cond rfl (fun h => ?_) (fun h => ?_))
       ·(repeat ((first | refine Va ?_ | refine Vb ?_ | refine Vc ?_ | refine Vd ?_ | refine Ve ?_ | refine Vf ?_); (try simp only [go_sem, hP]); (repeat refine qJ ?_)))
        (refine WV_ret ?_; simp only [thenQ, inQ, RetQ, RetOk, resAll, resA]; simp only [go_sem, tupA, AV.port, AV.portL, exists_eq_left'])
        exact AVle.tup ⟨_, _, rfl, AVle.nil 1, _, _, rfl, AVle.refl _, rfl⟩
       ·simp at h
   ·have hi : i = s.length := by simp at h; omega
    subst hi
    rw [List.take_length]
    have hr2 := hr
    rw [if_neg (by rw [bad_not fun k hk => hno k hk hk]; simp)] at hr2
    have hl1 := (stR_len s).1
    have hp1 := stR_ne h2
    generalize (stR s).1 = g at hr2 hl1 hp1 ⊢
    refine WV_exit ?_
    simp only [thenQ, inQ, reduceIte, beq_self_eq_true]
    refine WV_sub (σ' := ⟨upd e0 4 (.c (gridC g)), o0⟩) (Sub_of ?_ ?_) ?_
    ·refine EnvLe_upd ?_ (EnvLe_e0 _ _)
     exact .inr (.inr (.inl ⟨39, 50, 1, _, rfl, rfl, rfl⟩))
    ·exact ObjLe_o0 _
    (repeat ((first | refine Va ?_ | refine Vb ?_ | refine Vc ?_ | refine Vd ?_ | refine Ve ?_ | refine Vf ?_); (try simp only [go_sem, hP]); (repeat refine qJ ?_)))
    have hw00 := wid_at hp1
    refine WV_loopK K61_2 [] (fun k : Nat => k ≤ g.length ∧ ∀ m (hm : m < g.length), m < k → g[m].length = wid g) (fun k => g.length - k) (fun k => [(9, iv k)]) (fun _ => []) 0 ⟨Nat.zero_le _, fun m _ h => by omega⟩ ?_ ?_
    ·exact Sub_au
    ·intro k ⟨hk0, hke⟩
     simp only [go_sem]
     (repeat ((first | refine Va ?_ | refine Vb ?_ | refine Vc ?_ | refine Vd ?_ | refine Ve ?_ | refine Vf ?_); (try simp only [go_sem, hP, gridC, List.length_map]); (repeat refine qJ ?_)))
     (refine WV_cond rfl (fun h => ?_) (fun h => ?_))
     ·have hk : k < g.length := by simpa using h
      have hw2 := w64 (n := (k : Int) + 1) (by omega) (by omega)
      (refine WV_skip ?_; simp only [go_sem])
      refine WV_seq_ (WV_block (WV_seq_ ?_))
      (refine WV_op ?_; simp only [go_sem, hP, gridC, rowC, map_getD hk, map_getD hp1, List.length_map, Int.toNat_natCast, Int.toNat_zero, Int.ofNat_lt, hk, hp1, Int.natCast_nonneg, hw00]; (repeat refine qJ ?_))
      by_cases he : g[k].length = wid g
      ·(refine WV_cond rfl (fun h => ?_) (fun h => ?_))
       ·simp [he] at h
       ·(repeat ((first | refine Va ?_ | refine Vb ?_ | refine Vc ?_ | refine Vd ?_ | refine Ve ?_ | refine Vf ?_); (try simp only [go_sem, hP, hw2]); (repeat refine qJ ?_)))
        refine ⟨k + 1, ⟨by omega, fun m hm hmk => ?_⟩, by omega, ?_⟩
        ·by_cases e2 : m = k
         ·subst e2; exact he
         ·exact hke m hm (by omega)
        ·(refine Sub_of (by simp only [go_sem]; ((repeat' (first | exact EnvLe_e0 _ _ | refine EnvLe_upd ?_ ?_)) <;> ((try simp only [upd_app, e0_app, o0_app, Nat.reduceEqDiff, reduceIte]); first | exact AWk.refl _ _ | exact AWk.int (by omega) | exact AWk.int (by rw [w64 (by omega) (by omega)]; omega) | exact AWk.grow rfl | exact AWk.nil _ | exact AWk.of (by simp [gridC])))) (by simp only [go_sem]; exact ObjLe_au))
      ·have hne : eqLen g = false := by
        unfold eqLen
        rw [Bool.eq_false_iff]
        intro hc
        exact he (by simpa using List.all_eq_true.1 hc g[k] (List.getElem_mem hk))
       rw [hne, if_neg (by simp)] at hr2
       rw [hr2]
       (refine WV_cond rfl (fun h => ?_) (fun h => ?_))
       ·(repeat ((first | refine Va ?_ | refine Vb ?_ | refine Vc ?_ | refine Vd ?_ | refine Ve ?_ | refine Vf ?_); (try simp only [go_sem, hP]); (repeat refine qJ ?_)))
        (refine WV_ret ?_; simp only [thenQ, inQ, RetQ, RetOk, resAll, resA]; simp only [go_sem, tupA, AV.port, AV.portL, exists_eq_left'])
        exact AVle.tup ⟨_, _, rfl, AVle.nil 1, _, _, rfl, AVle.refl _, rfl⟩
       ·simp at h; omega
     ·have hk : k = g.length := by simp at h; omega
      subst hk
      have heq : eqLen g = true := by
       unfold eqLen
       rw [List.all_eq_true]
       intro l hl
       obtain ⟨m, hm, rfl⟩ := List.getElem_of_mem hl
       simpa using hke m hm hm
      rw [heq, if_pos rfl] at hr2
      rw [hr2]
      refine WV_exit ?_
      simp only [thenQ, inQ, reduceIte, beq_self_eq_true]
      have hwi := within67 (wid g) 2 32
      refine WV_seq_ ?_
      (refine WV_op ?_; simp only [go_sem, hP, gridC, rowC, map_getD hp1, List.length_map, Int.toNat_zero, Int.ofNat_lt, hp1, Int.natCast_nonneg, hw00]; (repeat refine qJ ?_))
      (refine AG_pu (fun hG => hwi) ?_; simp only [go_sem, hP]; (repeat refine qJ ?_); (repeat ((first | refine Va ?_ | refine Vb ?_ | refine Vc ?_ | refine Vd ?_ | refine Ve ?_ | refine Vf ?_); (try simp only [go_sem, hP]); (repeat refine qJ ?_))))
      (refine WV_ret ?_; simp only [thenQ, inQ, RetQ, RetOk, resAll, resA]; simp only [go_sem, tupA, AV.port, AV.portL, exists_eq_left'])
      have hcast : decide ((g.length : Int) ≤ 41) = decide (g.length ≤ 41) := by rw [Bool.eq_iff_iff]; simp; omega
      have hc2 : decide ((2 : Int) ≤ (wid g : Int)) = decide (2 ≤ wid g) := by rw [Bool.eq_iff_iff]; simp; omega
      have hc3 : decide ((wid g : Int) ≤ 32) = decide (wid g ≤ 32) := by rw [Bool.eq_iff_iff]; simp; omega
      rw [hcast, hc2, hc3]
      exact AVle.refl _
 ·have hr : retR s = ([], false) := by unfold retR; rw [if_pos (.inr (.inr (by simpa using h2)))]
  have h2' : s[s.length - 1]'(by omega) ≠ 10 := fun h => h2 (hlast.2 h)
  rw [hr]
  (refine WV_op ?_; simp only [go_sem, hP, hw0, hln, str_at (show s.length - 1 < s.length by omega), bne, h10]; (repeat refine qJ ?_))
  (refine WV_cond rfl (fun h => ?_) (fun h => ?_))
  ·(repeat ((first | refine Va ?_ | refine Vb ?_ | refine Vc ?_ | refine Vd ?_ | refine Ve ?_ | refine Vf ?_); (try simp only [go_sem, hP]); (repeat refine qJ ?_)))
   (refine WV_ret ?_; simp only [thenQ, inQ, RetQ, RetOk, resAll, resA]; simp only [go_sem, tupA, AV.port, AV.portL, exists_eq_left'])
   exact AVle.tup ⟨_, _, rfl, AVle.nil 1, _, _, rfl, AVle.refl _, rfl⟩
  ·exfalso
   simp at h
   first | exact h2' h.2.2 | exact h2' h.2
end Go.Proofs.YtlmfdmlochpfcaaDoor

namespace Go.Proofs.YtlmfdmlochpfcaaDoor
open Go Go.V
attribute [local go_sem] Nat.reduceEqDiff Nat.reduceAdd Nat.reduceMul reduceIte Nat.reduceLeDiff Nat.reduceLT Nat.reduceBEq reduceCtorEq
theorem text_mem : ∀ {rows : List (List UInt8)} {c : UInt8}, c ∈ textG rows → c = 10 ∨ ∃ l ∈ rows, c ∈ l
 | [], c, h => by simp [textG] at h
 | l :: t, c, h => by
  rw [textG_cons, List.mem_append, List.mem_cons] at h
  rcases h with h | h | h
  ·exact .inr ⟨l, by simp, h⟩
  ·exact .inl h
  ·rcases text_mem h with h | ⟨m, hm, h⟩
   ·exact .inl h
   ·exact .inr ⟨m, by simp [hm], h⟩
theorem rowsR_vals {rows : List (List UInt8)} (h : ∀ l ∈ rows, ∀ b ∈ l, BOk b) : rows.map rowR = valsG rows := List.map_congr_left fun l hl => rowR_vq (h l hl)
theorem vals_wid {rows : List (List UInt8)} {w : Nat} (h : SOk rows w) : wid (valsG rows) = w := by
 have hp := h.pos
 unfold wid valsG
 rw [map_getD (d := []) hp, List.length_map]
 exact h.row _ (List.getElem_mem hp)
theorem vals_len (rows : List (List UInt8)) : (valsG rows).length = rows.length := by simp [valsG]
theorem stR_rows {rows : List (List UInt8)} {w : Nat} (h : SOk rows w) : stR (textG rows) = (valsG rows, []) := by
 have hne : rows ≠ [] := by rintro rfl; exact absurd h.pos (by simp)
 obtain ⟨h1, h2⟩ := text_seg rows hne h.nl
 rw [stR_end h1, h2, rowsR_vals h.byte]
theorem seg_sub {s : List UInt8} (h : endsB s 10 = true) {l : List UInt8} (hl : l ∈ segB 10 s.dropLast) {b : UInt8} (hb : b ∈ l) : b ∈ s := by
 rw [← seg_text' h]
 unfold textG
 rw [List.mem_flatMap]
 exact ⟨l, hl, by simp [hb]⟩
theorem retR_none {s : List UInt8} (h : parseP s = none) : (retR s).2 = false := by
 rw [Bool.eq_false_iff]
 intro hc
 unfold retR at hc
 split at hc
 ·cases hc
 ·rename_i h0
  have h10 : endsB s 10 = true := by
   cases he : endsB s 10
   ·exact (h0 (.inr (.inr he))).elim
   ·rfl
  split at hc
  ·cases hc
  ·rename_i hbad
   split at hc
   ·rename_i heq
    simp only [Bool.and_eq_true, decide_eq_true_eq] at hc
    rw [stR_end h10] at hc heq
    simp only [List.length_map] at hc
    obtain ⟨c1, c2, c3⟩ := hc
    have hbytes : ∀ l ∈ segB 10 s.dropLast, ∀ b ∈ l, BOk b := by
     intro l hl b hb
     have hbs := seg_sub h10 hl hb
     have hn : b ≠ 10 := fun e => segB_nl 10 _ l hl (e ▸ hb)
     refine valR_iff.1 ?_
     cases hv : (valR b).2
     ·exfalso
      apply hbad
      unfold badByte
      rw [List.any_eq_true]
      exact ⟨b, hbs, by simp [hn, hv]⟩
     ·rfl
    have hlens : ∀ l ∈ segB 10 s.dropLast, l.length = wid ((segB 10 s.dropLast).map rowR) := by
     intro l hl
     have := List.all_eq_true.1 heq (rowR l) (List.mem_map_of_mem hl)
     simpa [rowR] using this
    have hhead : ((segB 10 s.dropLast).headD []).length = wid ((segB 10 s.dropLast).map rowR) := by
     cases hsg : segB 10 s.dropLast with
     | nil => exact (segB_ne _ _ hsg).elim
     | cons x t => rw [hsg] at hlens; exact hlens x (by simp)
    have hal := allOk_of (w := wid ((segB 10 s.dropLast).map rowR)) 0 (segB 10 s.dropLast) (fun l hl => ⟨by rw [hlens l hl]; exact c2, by rw [hlens l hl]; exact c3, hlens l hl, hbytes l hl⟩) (by omega)
    unfold parseP at h
    rw [if_pos h10, hhead, if_pos hal] at h
    cases h
   ·cases hc
end Go.Proofs.YtlmfdmlochpfcaaDoor

namespace Go.Proofs.YtlmfdmlochpfcaaDoor
open Go Go.V
namespace W
abbrev o61_0 : List Ins := [⟨(some 2), .mv (.k (.c (.raw (.slice none 0 0)))), none, true⟩,
 ⟨(some 3), .mv (.k (.c (.bool false))), none, true⟩]
abbrev o61_1 : List Ins := [⟨(some 10), .mv (.t 0), none, true⟩,
 ⟨(some 11), .prim .slen [(.t 10)], none, true⟩,
 ⟨(some 12), .bin .eql (.t 11) (.k (.c (.int .i64 0))), none, true⟩,
 ⟨(some 13), .mv (.t 12), none, true⟩,
 ⟨(some 14), .mv (.t 0), (some (13, false)), true⟩,
 ⟨(some 15), .prim .slen [(.t 14)], (some (13, false)), true⟩,
 ⟨(some 16), .bin .gtr (.t 15) (.k (.c (.int .i64 1353))), (some (13, false)), true⟩,
 ⟨(some 17), .pick (.t 13) (.k (.c (.bool true))) (.t 16), none, true⟩,
 ⟨(some 18), .mv (.t 17), none, true⟩,
 ⟨(some 19), .mv (.t 0), (some (18, false)), true⟩,
 ⟨(some 20), .mv (.t 0), (some (18, false)), true⟩,
 ⟨(some 21), .prim .slen [(.t 20)], (some (18, false)), true⟩,
 ⟨(some 22), .bin .sub (.t 21) (.k (.c (.int .i64 1))), (some (18, false)), true⟩,
 ⟨(some 23), .prim .sidx [(.t 19), (.t 22)], (some (18, false)), true⟩,
 ⟨(some 24), .bin .neq (.t 23) (.k (.c (.int .u8 10))), (some (18, false)), true⟩,
 ⟨(some 25), .pick (.t 18) (.k (.c (.bool true))) (.t 24), none, true⟩]
abbrev o61_2 : List Ins := [⟨(some 2), .mv (.k (.c (.raw (.slice none 0 0)))), none, true⟩,
 ⟨(some 3), .mv (.k (.c (.bool false))), none, true⟩]
abbrev v61_3 : VC := (.seq (.ops o61_2) .ret)
abbrev v61_4 : VC := (.cond (.t 25) v61_3 .skip)
abbrev o61_5 : List Ins := [⟨(some 4), .mv (.k (.c (.raw (.slice none 0 0)))), none, true⟩]
abbrev o61_6 : List Ins := [⟨(some 5), .mv (.k (.c (.raw (.slice none 0 0)))), none, true⟩]
abbrev o61_7 : List Ins := [⟨(some 6), .mv (.k (.c (.int .i64 0))), none, true⟩]
abbrev o61_8 : List Ins := [⟨(some 26), .mv (.t 6), none, true⟩,
 ⟨(some 27), .mv (.t 0), none, true⟩,
 ⟨(some 28), .prim .slen [(.t 27)], none, true⟩,
 ⟨(some 29), .bin .lss (.t 26) (.t 28), none, true⟩]
abbrev v61_9 : VC := (.cond (.t 29) .skip (.exit 0))
abbrev o61_10 : List Ins := [⟨(some 32), .mv (.t 0), none, true⟩,
 ⟨(some 33), .mv (.t 6), none, true⟩,
 ⟨(some 34), .prim .sidx [(.t 32), (.t 33)], none, true⟩,
 ⟨(some 35), .bin .eql (.t 34) (.k (.c (.int .u8 10))), none, true⟩]
abbrev o61_11 : List Ins := [⟨(some 36), .mv (.t 4), none, true⟩,
 ⟨(some 37), .mv (.t 5), none, true⟩,
 ⟨(some 38), .bslv 50 1 [(.t 37)], none, true⟩,
 ⟨(some 39), .appv 50 1 24 (.t 36) (.t 38), none, true⟩,
 ⟨(some 4), .mv (.t 39), none, true⟩,
 ⟨(some 5), .mv (.k (.c (.raw (.slice none 0 0)))), none, true⟩]
abbrev v61_12 : VC := (.seq (.ops o61_11) (.exit 1))
abbrev v61_13 : VC := (.cond (.t 35) v61_12 .skip)
abbrev o61_14 : List Ins := [⟨(some 41), .mv (.t 0), none, true⟩,
 ⟨(some 42), .mv (.t 6), none, true⟩,
 ⟨(some 43), .prim .sidx [(.t 41), (.t 42)], none, true⟩,
 ⟨(some 44), .call (.k (.fn 22 [])) [(.t 43)], none, true⟩,
 ⟨(some 40), .mv (.t 44), none, true⟩,
 ⟨(some 45), .ext (.t 40) 0, none, true⟩,
 ⟨(some 46), .ext (.t 40) 1, none, true⟩,
 ⟨(some 7), .mv (.t 45), none, true⟩,
 ⟨(some 8), .mv (.t 46), none, true⟩]
abbrev o61_15 : List Ins := [⟨(some 47), .mv (.t 8), none, true⟩,
 ⟨(some 48), .un .not (.t 47), none, true⟩]
abbrev o61_16 : List Ins := [⟨(some 2), .mv (.k (.c (.raw (.slice none 0 0)))), none, true⟩,
 ⟨(some 3), .mv (.k (.c (.bool false))), none, true⟩]
abbrev v61_17 : VC := (.seq (.ops o61_16) .ret)
abbrev v61_18 : VC := (.cond (.t 48) v61_17 .skip)
abbrev o61_19 : List Ins := [⟨(some 49), .mv (.t 5), none, true⟩,
 ⟨(some 50), .mv (.t 7), none, true⟩,
 ⟨(some 51), .bsl 3 1 [(.t 50)], none, true⟩,
 ⟨(some 52), .appv 3 1 8 (.t 49) (.t 51), none, true⟩,
 ⟨(some 5), .mv (.t 52), none, true⟩]
abbrev v61_20 : VC := (.seq (.seq (.ops o61_15) v61_18) (.ops o61_19))
abbrev v61_21 : VC := (.seq (.ops o61_14) v61_20)
abbrev v61_22 : VC := (.seq (.seq (.ops o61_10) v61_13) v61_21)
abbrev o61_23 : List Ins := [⟨(some 30), .mv (.t 6), none, true⟩,
 ⟨(some 31), .bin .add (.t 30) (.k (.c (.int .i64 1))), none, true⟩,
 ⟨(some 6), .mv (.t 31), none, true⟩]
abbrev v61_24 : VC := (.seq (.block 1 v61_22) (.ops o61_23))
abbrev v61_25 : VC := (.seq (.seq (.ops o61_8) v61_9) v61_24)
-- K61_1: changed and kept: [6, 4, 5]
abbrev K61_1 : List Nat := [0]
abbrev v61_26 : VC := (.loop v61_25)
abbrev v61_27 : VC := (.block 0 v61_26)
abbrev o61_28 : List Ins := [⟨(some 9), .mv (.k (.c (.int .i64 0))), none, true⟩]
abbrev o61_29 : List Ins := [⟨(some 53), .mv (.t 9), none, true⟩,
 ⟨(some 54), .mv (.t 4), none, true⟩,
 ⟨(some 55), .len (.t 54), none, true⟩,
 ⟨(some 56), .bin .lss (.t 53) (.t 55), none, true⟩]
abbrev v61_30 : VC := (.cond (.t 56) .skip (.exit 2))
abbrev o61_31 : List Ins := [⟨(some 59), .mv (.t 4), none, false⟩,
 ⟨(some 60), .mv (.t 9), none, false⟩,
 ⟨(some 61), .ia 1 (.t 59) (.t 60), none, false⟩,
 ⟨(some 62), .ld true 1 (.t 61), none, false⟩,
 ⟨(some 63), .len (.t 62), none, false⟩,
 ⟨(some 64), .mv (.t 4), none, false⟩,
 ⟨(some 65), .ia 1 (.t 64) (.k (.c (.int .i64 0))), none, false⟩,
 ⟨(some 66), .ld true 1 (.t 65), none, false⟩,
 ⟨(some 67), .len (.t 66), none, false⟩,
 ⟨(some 68), .bin .neq (.t 63) (.t 67), none, true⟩]
abbrev o61_32 : List Ins := [⟨(some 2), .mv (.k (.c (.raw (.slice none 0 0)))), none, true⟩,
 ⟨(some 3), .mv (.k (.c (.bool false))), none, true⟩]
abbrev v61_33 : VC := (.seq (.ops o61_32) .ret)
abbrev v61_34 : VC := (.cond (.t 68) v61_33 .skip)
abbrev v61_35 : VC := (.seq (.dops o61_31) v61_34)
abbrev o61_36 : List Ins := [⟨(some 57), .mv (.t 9), none, true⟩,
 ⟨(some 58), .bin .add (.t 57) (.k (.c (.int .i64 1))), none, true⟩,
 ⟨(some 9), .mv (.t 58), none, true⟩]
abbrev v61_37 : VC := (.seq (.block 3 v61_35) (.ops o61_36))
abbrev v61_38 : VC := (.seq (.seq (.ops o61_29) v61_30) v61_37)
-- K61_2: changed and kept: [9]
abbrev K61_2 : List Nat := [4]
abbrev v61_39 : VC := (.loop v61_38)
abbrev v61_40 : VC := (.block 2 v61_39)
abbrev o61_41 : List Ins := [⟨(some 69), .mv (.t 4), none, true⟩,
 ⟨(some 70), .mv (.t 4), none, true⟩,
 ⟨(some 71), .len (.t 70), none, true⟩,
 ⟨(some 72), .bin .leq (.t 71) (.k (.c (.int .i64 41))), none, true⟩,
 ⟨(some 73), .mv (.t 72), none, true⟩,
 ⟨(some 74), .mv (.t 4), (some (73, true)), true⟩,
 ⟨(some 75), .ia 1 (.t 74) (.k (.c (.int .i64 0))), (some (73, true)), true⟩,
 ⟨(some 76), .ld true 1 (.t 75), (some (73, true)), true⟩,
 ⟨(some 77), .len (.t 76), (some (73, true)), true⟩,
 ⟨(some 78), .call (.k (.fn 67 [])) [(.t 77), (.k (.c (.int .i64 2))), (.k (.c (.int .i64 32)))], (some (73, true)), true⟩,
 ⟨(some 79), .pick (.t 73) (.t 78) (.k (.c (.bool false))), none, true⟩,
 ⟨(some 2), .mv (.t 69), none, true⟩,
 ⟨(some 3), .mv (.t 79), none, true⟩]
abbrev v61_42 : VC := (.seq (.ops o61_41) .ret)
abbrev v61_43 : VC := (.seq (.seq (.ops o61_28) v61_40) v61_42)
abbrev v61_44 : VC := (.seq (.seq (.ops o61_7) v61_27) v61_43)
abbrev v61_45 : VC := (.seq (.ops o61_6) v61_44)
abbrev v61_46 : VC := (.seq (.ops o61_5) v61_45)
abbrev v61_47 : VC := (.seq (.seq (.ops o61_1) v61_4) v61_46)
def ir61 : FC := ⟨1, 80, [.t 2, .t 3], (.seq (.ops o61_0) v61_47)⟩
theorem c61 : compM Tryd.prog [100038,100039,100052] 61 = some ir61 := by kernel_rfl
end W
attribute [local go_sem] Nat.reduceEqDiff Nat.reduceAdd Nat.reduceMul reduceIte Nat.reduceLeDiff Nat.reduceLT Nat.reduceBEq reduceCtorEq
def GrowL (D : Nat) (l : List Int) (z : AV) (x : Ob) : Prop :=
 (l = [] ∧ z = .c (.raw (.slice none 0 0)) ∧ x = .none) ∨ (l ≠ [] ∧ ∃ cap j, l.length ≤ cap ∧ cap ≤ maxLen ∧ cap ≤ l.length + j ∧ z = .vw 1 D 0 l.length cap ∧ x = .box (cellsG icds l j))
theorem icells_take (s : List Int) (j : Nat) : List.take (s.length * 1) (cellsG icds s j) = cellsG icds s 0 := cellsG_take icds_one s j
theorem icells_app (d : Nat) (s : List Int) (b : Int) (j : Nat) : AV.prgL d (cellsG icds s 0 ++ List.map AV.c [[CD.int .i64 b]].flatten ++ List.replicate j .non) = cellsG icds (s ++ [b]) j := by
 have e : cellsG icds s 0 ++ List.map AV.c [[CD.int .i64 b]].flatten ++ List.replicate j .non = cellsG icds (s ++ [b]) j := by simp [cellsG, flatG, icds]
 rw [e, prg_cellsG]
theorem icells_new (d : Nat) (b : Int) (j : Nat) : AV.prgL d (List.map AV.c [[CD.int .i64 b]].flatten ++ List.replicate j .non) = cellsG icds [b] j := by
 have := icells_app d [] b j
 simpa [cellsG, flatG] using this
def ParseR (g : List (List Int)) (r : AV) (os : List Ob) : Prop := ∃ (R : List IRow) (j cap : Nat), gi R = g ∧ R.length ≤ cap ∧ cap ≤ maxLen ∧ r = .tup [.vw 1 1000 0 R.length cap, bv true] ∧ os = gridL icds 1 R j
theorem cur_pos {rows : List (List UInt8)} {w : Nat} (h : SOk rows w) {i : Nat} (hi : i < (textG rows).length) (hc : (textG rows)[i] = 10) : (stR ((textG rows).take i)).2 ≠ [] := by
 -- all rows that come out are as wide as the others
 intro he
 have hn := stR_snoc hi
 unfold stp at hn
 rw [if_pos hc, he] at hn
 have key : ∀ (m : Nat), m + (i + 1) ≤ (textG rows).length → [] ∈ (stR ((textG rows).take (m + (i + 1)))).1 := by
  intro m
  induction m with
  | zero => intro _; rw [Nat.zero_add, hn]; simp
  | succ m ih =>
   intro hm
   have := ih (by omega)
   rw [show m + 1 + (i + 1) = (m + (i + 1)) + 1 from by omega, stR_snoc (by omega)]
   unfold stp
   split
   ·simp only [List.mem_append]; exact .inl this
   ·exact this
 have := key ((textG rows).length - (i + 1)) (by omega)
 rw [show (textG rows).length - (i + 1) + (i + 1) = (textG rows).length by omega, List.take_length, stR_rows h] at this
 simp only [valsG, List.mem_map] at this
 obtain ⟨l, hl, he⟩ := this
 have hw := h.row l hl
 have h2 := h.w2
 have := congrArg List.length he
 simp at this
 rw [this] at hw
 simp at hw; omega
theorem fold_mono : ∀ (l : List UInt8) (p : List (List Int) × List Int), p.1.length ≤ (l.foldl stp p).1.length
 | [], p => Nat.le_refl _
 | c :: l, p => by
  refine Nat.le_trans ?_ (fold_mono l (stp p c))
  unfold stp
  split <;> simp
theorem stR_mono (s : List UInt8) (i : Nat) : (stR (s.take i)).1.length ≤ (stR s).1.length := by
 have := fold_mono (s.drop i) (stR (s.take i))
 unfold stR at this ⊢
 rwa [← List.foldl_append, List.take_append_drop] at this
set_option maxRecDepth 20000 in
set_option maxHeartbeats 16000000 in
theorem parse61N {rows : List (List UInt8)} {w : Nat} (h : SOk rows w) : FSpecN Tryd.prog 61 [sv (textG rows)] (ParseR (valsG rows)) := by
 have hmax : maxLen = 9223372036854775807 := rfl
 have hne : rows ≠ [] := by rintro rfl; exact absurd h.pos (by simp)
 obtain ⟨he10, hseg⟩ := text_seg rows hne h.nl
 have hl := textG_length rows w h.row
 have hb : rows.length * (w + 1) ≤ 41 * 33 := Nat.mul_le_mul h.len (by have := h.w32; omega)
 have hb2 : 1 * 1 ≤ rows.length * (w + 1) := Nat.mul_le_mul h.pos (by omega)
 have hcur := fun i hi hc => cur_pos h (i := i) hi hc
 have hst := stR_rows h
 have hbyte : ∀ k (hk : k < (textG rows).length), (textG rows)[k] = 10 ∨ (valR (textG rows)[k]).2 = true := by
  intro k hk
  rcases text_mem (List.getElem_mem hk) with e | ⟨l, hl, hc⟩
  ·exact .inl e
  ·exact .inr (valR_iff.2 (h.byte l hl _ hc))
 generalize hs : textG rows = s at he10 hl hcur hst hbyte
 have h41 := h.len
 have hSok := h
 have hwide := h.w32
 have hw2' := h.w2
 have hspos : 0 < s.length := by omega
 have hsmax : s.length ≤ 1353 := by omega
 clear hl hb hb2
 have hlast := (last_at (s := s) (by omega)).1 he10
 have hw0 := w64 (n := (s.length : Int) - 1) (by omega) (by omega)
 have hln : ((s.length : Int) - 1).toNat = s.length - 1 := by omega
 refine FSpecN_ofP W.c61 (Nat.le_refl _) (by decide) fun C hP hN hC hpin hL => ?_
 simp only [W.ir61]
 refine WV_seq_ ?_
 (refine WV_op ?_; simp only [go_sem, hP]; (repeat refine qJ ?_))
 refine WV_seq_ (WV_seq_ ?_)
 (refine WV_op ?_; simp only [go_sem, hP, hw0, hln, str_at (show s.length - 1 < s.length by omega), hlast]; (repeat refine qJ ?_))
 (refine WV_cond rfl (fun h => ?_) (fun h => ?_))
 ·exfalso
  have hs0 : s ≠ [] := fun e => by rw [e] at hspos; simp at hspos
  simp [hs0] at h; omega
 (refine WV_skip ?_; simp only [go_sem])
 refine WV_keep [0] ?_
 simp only [go_sem]
 (repeat ((first | refine Va ?_ | refine Vb ?_ | refine Vc ?_ | refine Vd ?_ | refine Ve ?_ | refine Vf ?_); (try simp only [go_sem, hP]); (repeat refine qJ ?_)))
 refine WV_loopS (fun p : Nat × List IRow × (AV × Ob) × (AV × Ob) => ⟨upd (upd (upd (upd e0 0 (sv s)) 6 (iv p.1)) 4 p.2.2.1.1) 5 p.2.2.2.1, fam 1001 icds p.2.1 (upd (upd o0 39 p.2.2.1.2) 52 p.2.2.2.2)⟩) (fun p => p.1 ≤ s.length ∧ gi p.2.1 = (stR (s.take p.1)).1 ∧ GrowG 1001 39 p.2.1 p.2.2.1.1 p.2.2.1.2 ∧ GrowL 52 (stR (s.take p.1)).2 p.2.2.2.1 p.2.2.2.2) (fun p => s.length - p.1) (0, [], (.c (.raw (.slice none 0 0)), .none), (.c (.raw (.slice none 0 0)), .none)) ⟨Nat.zero_le _, rfl, GrowG.nil _ _, .inl ⟨rfl, rfl, rfl⟩⟩ ?_ ?_
 ·refine Sub_of (by exact EnvLe_au) ?_
  rw [fam_nil]
  intro n
  right
  simp only [upd_app]
  split
  ·rfl
  ·split <;> rfl
 ·rintro ⟨i, R, ⟨y, x⟩, ⟨z, xz⟩⟩ ⟨hi0, hgi, hg, hz⟩
  simp only at hi0 hgi hg hz ⊢
  (repeat ((first | refine Va ?_ | refine Vb ?_ | refine Vc ?_ | refine Vd ?_ | refine Ve ?_ | refine Vf ?_); (try simp only [go_sem, hP]); (repeat refine qJ ?_)))
  (refine WV_cond rfl (fun h => ?_) (fun h => ?_))
  ·have hi : i < s.length := by simpa using h
   have hw2 := w64 (n := (i : Int) + 1) (by omega) (by omega)
   have hsn := stR_snoc hi
   have hl1 := stR_len (s.take i)
   have hRl : R.length = (stR (s.take i)).1.length := by rw [← hgi, gi_len]
   have htl : (s.take i).length = i := by rw [List.length_take]; omega
   rw [htl] at hl1
   have hci := hcur i hi
   have hmo := stR_mono s i
   rw [hst, vals_len] at hmo
   have hr41 := h41
   have hbi := hbyte i hi
   (repeat ((first | refine Va ?_ | refine Vb ?_ | refine Vc ?_ | refine Vd ?_ | refine Ve ?_ | refine Vf ?_); (try simp only [go_sem, hP, Int.toNat_natCast, Int.ofNat_lt, hi, Int.natCast_nonneg, str_at hi, beq10]); (repeat refine qJ ?_)))
   generalize stR (s.take i) = st at hsn hl1 hgi hz hRl hci hmo
   obtain ⟨g, row⟩ := st
   simp only at hl1 hgi hz hRl hci hmo ⊢
   by_cases hc : s[i] = 10
   ·unfold stp at hsn
    rw [if_pos hc] at hsn
    rcases hz with ⟨h1, _, _⟩ | ⟨_, cap, j, c1, c2, c3, rfl, rfl⟩
    ·exact (hci hc h1).elim
    (refine WV_cond rfl (fun h => ?_) (fun h => ?_))
    ·have hyd := hg.dg.1
     have hyv := hg.dg.2
     refine WV_seq_ ?_
     (refine WV_split 2 ?_; simp only [List.take_succ_cons, List.take_zero, List.take_nil, List.drop_succ_cons, List.drop_zero, List.drop_nil]; simp only [go_sem, hP, hyd, hyv]; (repeat refine qJ ?_))
     refine ⟨hyd, ?_⟩
     refine SOps_addrow (cds := icds) (b := 1001) (D := 39) (E := 52) (B := 38) (tr := 37) (tg := 36) (R := R) (l := row) (j := j) (cap := cap) (y := y) (x := x) [0, 6] hpin (by decide) (by decide) (by decide) (by decide) (by decide) (by decide) rfl hyv (by decide) hg (ObjLe.rfl' _) (by omega) (by decide) (by rfl) hg.any ?_
     intro c4 j4 v1 v2 v3
     refine SOps_ops ?_
     simp only [go_sem, keepE]
     (refine WV_exit ?_; simp only [go_sem])
     (repeat ((first | refine Va ?_ | refine Vb ?_ | refine Vc ?_ | refine Vd ?_ | refine Ve ?_ | refine Vf ?_); (try simp only [go_sem, hP, hw2]); (repeat refine qJ ?_)))
     have hrl2 : (R ++ [(⟨row, j, cap⟩ : IRow)]).length = R.length + 1 := by simp
     refine ⟨(i + 1, R ++ [⟨row, j, cap⟩], (.vw 1 39 0 (R.length + 1) c4, .box (refs 1001 1 0 (R ++ [⟨row, j, cap⟩]) ++ List.replicate j4 .non)), (.c (.raw (.slice none 0 0)), .none)), ⟨by simp only; omega, ?_, ?_, ?_⟩, by simp only; omega, ?_⟩
     ·simp only [hsn]
      unfold gi at hgi ⊢
      rw [List.map_append, hgi]; rfl
     ·simp only
      rw [← hrl2]
      exact GrowG.some (by simp) (by rw [hrl2]; exact v1) v2 (by rw [hrl2]; omega)
     ·simp only [hsn]
      exact .inl ⟨rfl, rfl, rfl⟩
     ·simp only
      refine Sub_of ?_ (ObjLe_fam fun n => ?_)
      ·exact EnvLe_au
      ·simp only [upd_app]
       split
       ·rename_i e; subst e; right; rfl
       ·left; rfl
    ·simp [hc] at h
   ·unfold stp at hsn
    rw [if_neg hc] at hsn
    have hyd := hg.dg.1
    have hyv := hg.dg.2
    obtain ⟨o1, ho1⟩ : ∃ o1, o1 = upd o0 39 x := ⟨_, rfl⟩
    have gp : ∀ d, d ≠ 39 → d < 1001 → AV.prg d y = y ∧ Ob.prg d x = x := fun d h1 h2 => hg.prg h1 h2
    have gq : ∀ d, d ≠ 39 → d < 1001 → prgO d o1 = o1 := fun d h1 h2 => by rw [ho1, prgO_upd, prgO_o0, (gp d h1 h2).2]
    have gz : ∀ d, d ≠ 39 → o1 d = .none := fun d h1 => by rw [ho1, upd_app, if_neg h1]; rfl
    have p51 := gp 51 (by decide) (by decide)
    have q51 := gq 51 (by decide) (by decide)
    have z51 := gz 51 (by decide)
    have p52 := gp 52 (by decide) (by decide)
    have q52 := gq 52 (by decide) (by decide)
    have z52 := gz 52 (by decide)
    rw [← ho1]
    (refine WV_cond rfl (fun h => ?_) (fun h => ?_))
    ·simp [hc] at h
    ·have hv := hbi.resolve_left hc
     have hend : ∀ (c3 j3 : Nat) (own : Nat → Ob) (env : Nat → AV), row.length + 1 ≤ c3 → c3 ≤ maxLen → c3 ≤ row.length + 1 + j3 → EnvLe own env (upd (upd (upd (upd e0 0 (sv s)) 6 (iv ((i : Int) + 1))) 4 y) 5 (.vw 1 52 0 (row.length + 1) c3)) → ObjLe own (fam 1001 icds R (upd o1 52 (.box (cellsG icds (row ++ [(valR s[i]).1]) j3)))) →
       ∃ i' : Nat × List IRow × (AV × Ob) × (AV × Ob), (i'.1 ≤ s.length ∧ gi i'.2.1 = (stR (s.take i'.1)).1 ∧ GrowG 1001 39 i'.2.1 i'.2.2.1.1 i'.2.2.1.2 ∧ GrowL 52 (stR (s.take i'.1)).2 i'.2.2.2.1 i'.2.2.2.2) ∧ s.length - i'.1 < s.length - i ∧ Sub ⟨env, own⟩ ⟨upd (upd (upd (upd e0 0 (sv s)) 6 (iv i'.1)) 4 i'.2.2.1.1) 5 i'.2.2.2.1, fam 1001 icds i'.2.1 (upd (upd o0 39 i'.2.2.1.2) 52 i'.2.2.2.2)⟩ := by
      intro c3 j3 own env c1 c2 c3' he ho
      have hrl : (row ++ [(valR s[i]).1]).length = row.length + 1 := by simp
      refine ⟨(i + 1, R, (y, x), (.vw 1 52 0 (row.length + 1) c3, .box (cellsG icds (row ++ [(valR s[i]).1]) j3))), ⟨by simp only; omega, ?_, hg, ?_⟩, by simp only; omega, ?_⟩
      ·simp only [hsn, hgi]
      ·simp only [hsn]
       exact .inr ⟨by simp, c3, j3, by rw [hrl]; exact c1, c2, by rw [hrl]; exact c3', by rw [hrl], rfl⟩
      ·simp only
       rw [← ho1]
       exact Sub_of he ho
     (refine WV_skip ?_; simp only [go_sem])
     refine WV_seq_ ?_
     rcases hz with ⟨rfl, rfl, rfl⟩ | ⟨hrn, cap, j, c1, c2, c3, rfl, rfl⟩
     ·(refine WV_op ?_; simp only [go_sem, hP, Int.toNat_natCast, Int.ofNat_lt, hi, Int.natCast_nonneg, str_at hi]; (repeat refine qJ ?_))
      (refine AS_pu (value22 s[i]) ?_; simp only [go_sem, hP, hv]; (repeat refine qJ ?_); (repeat ((first | refine Va ?_ | refine Vb ?_ | refine Vc ?_ | refine Vd ?_ | refine Ve ?_ | refine Vf ?_); (try simp only [go_sem, hP, hv]); (repeat refine qJ ?_))))
      (refine WV_cond rfl (fun h => ?_) (fun h => ?_))
      ·simp at h
      (refine WV_skip ?_; simp only [go_sem])
      (refine WV_op ?_; simp only [go_sem, hP, fam_lo, fam_upd, prgO_fam, p51, q51, z51, p52, q52, z52]; (repeat refine qJ ?_))
      intro cap j q1 q2 q3
      rw [icells_new]
      (repeat ((first | refine Va ?_ | refine Vb ?_ | refine Vc ?_ | refine Vd ?_ | refine Ve ?_ | refine Vf ?_); (try simp only [go_sem, hP, hw2]); (repeat refine qJ ?_)))
      refine hend cap j _ _ (by simpa using q1) q2 (by simp; omega) (by simp only [List.length_nil, Nat.zero_add]; exact EnvLe_au) (ObjLe_fam fun n => ?_)
      by_cases e52 : n = 52
      ·subst e52; left; simp [upd_app]
      by_cases e51 : n = 51
      ·subst e51; right; simpa [upd_app] using z51
      left; simp [upd_app, e51, e52]
     ·(refine WV_op ?_; simp only [go_sem, hP, Int.toNat_natCast, Int.ofNat_lt, hi, Int.natCast_nonneg, str_at hi]; (repeat refine qJ ?_))
      (refine AS_pu (value22 s[i]) ?_; simp only [go_sem, hP, hv]; (repeat refine qJ ?_); (repeat ((first | refine Va ?_ | refine Vb ?_ | refine Vc ?_ | refine Vd ?_ | refine Ve ?_ | refine Vf ?_); (try simp only [go_sem, hP, hv]); (repeat refine qJ ?_))))
      (refine WV_cond rfl (fun h => ?_) (fun h => ?_))
      ·simp at h
      (refine WV_skip ?_; simp only [go_sem])
      (refine WV_op ?_; simp only [go_sem, hP, fam_lo, fam_upd, prgO_fam, p51, q51, z51, p52, q52, z52]; (repeat refine qJ ?_))
      refine ⟨by rw [cellsG_len icds_one]; omega, by omega, by omega, ?_⟩
      intro cap2 j2 q1 q2 q3
      rw [icells_take, icells_app]
      (repeat ((first | refine Va ?_ | refine Vb ?_ | refine Vc ?_ | refine Vd ?_ | refine Ve ?_ | refine Vf ?_); (try simp only [go_sem, hP, hw2]); (repeat refine qJ ?_)))
      refine hend cap2 j2 _ _ q1 q2 (by omega) (by exact EnvLe_au) (ObjLe_fam fun n => ?_)
      by_cases e52 : n = 52
      ·subst e52; left; simp [upd_app]
      by_cases e51 : n = 51
      ·subst e51; right; simpa [upd_app] using z51
      left; simp [upd_app, e51, e52]
  ·have hi : i = s.length := by simp at h; omega
   subst hi
   rw [List.take_length, hst] at hgi hz
   simp only at hgi hz
   have hRl : R.length = rows.length := by rw [← gi_len, hgi, vals_len]
   obtain ⟨cap, j, c1, c2, c3, rfl, rfl⟩ : ∃ cap j, R.length ≤ cap ∧ cap ≤ maxLen ∧ cap ≤ R.length + j ∧ y = .vw 1 39 0 R.length cap ∧ x = .box (refs 1001 1 0 R ++ List.replicate j .non) := by
    rcases hg with ⟨rfl, _, _⟩ | ⟨_, h⟩
    ·exact (hne (List.eq_nil_of_length_eq_zero (by simpa using hRl.symm))).elim
    ·exact h
   refine WV_exit ?_
   simp only [thenQ, inQ, reduceIte, beq_self_eq_true]
   refine WV_sub (σ' := ⟨upd e0 4 (.vw 1 39 0 R.length cap), fam 1001 icds R (upd o0 39 (.box (refs 1001 1 0 R ++ List.replicate j .non)))⟩) (Sub_of (by exact EnvLe_au) (ObjLe_fam fun n => ?_)) ?_
   ·by_cases e39 : n = 39
    ·subst e39; left; simp [upd_app]
    right; simp [upd_app, e39, o0_app]
   refine WV_grown (t := 4) [] (by decide) hpin rfl rfl ?_
   simp only [go_sem, keepE]
   have hwd : ∀ m (hm : m < R.length), (R[m]).l.length = w := by
    intro m hm
    have := gi_row hm
    rw [hgi] at this
    have hm2 : m < rows.length := by omega
    unfold valsG at this
    rw [map_getD hm2] at this
    rw [← this, List.length_map]
    exact hSok.row _ (List.getElem_mem hm2)
   have hR0 : 0 < R.length := by have := hSok.pos; omega
   (repeat ((first | refine Va ?_ | refine Vb ?_ | refine Vc ?_ | refine Vd ?_ | refine Ve ?_ | refine Vf ?_); (try simp only [go_sem, hP]); (repeat refine qJ ?_)))
   refine WV_loopS (fun k : Nat => ⟨upd (upd e0 4 (.vw 1 1000 0 R.length cap)) 9 (iv k), gown icds 1 R j o0⟩) (fun k => k ≤ R.length) (fun k => R.length - k) 0 (Nat.zero_le _) ?_ ?_
   ·exact Sub_of (by exact EnvLe_au) (ObLe_gown (by exact ObjLe_au))
   ·intro k hk0
    (repeat ((first | refine Va ?_ | refine Vb ?_ | refine Vc ?_ | refine Vd ?_ | refine Ve ?_ | refine Vf ?_); (try simp only [go_sem, hP]); (repeat refine qJ ?_)))
    (refine WV_cond rfl (fun h => ?_) (fun h => ?_))
    ·have hk : k < R.length := by simpa using h
     have hw2 := w64 (n := (k : Int) + 1) (by omega) (by omega)
     have hwk := hwd k hk
     have hw00 := hwd 0 hR0
     (refine WV_skip ?_; simp only [go_sem])
     refine WV_seq_ (WV_block (WV_seq_ ?_))
     (refine WV_op ?_; simp only [go_sem, hP, gown_grid, gown_row hk, gown_row hR0, Row.ob_box, gridOb, Ob.isBox, refs_get hk, refs_get hR0, irefs_glen, Int.toNat_zero, Int.toNat_natCast, Nat.mul_one, Nat.zero_add, Nat.zero_mul, Nat.add_zero, hk, hR0, Int.ofNat_lt, Int.natCast_nonneg, hwk, hw00]; (repeat refine qJ ?_))
     (refine WV_cond rfl (fun h => ?_) (fun h => ?_))
     ·simp at h
     (repeat ((first | refine Va ?_ | refine Vb ?_ | refine Vc ?_ | refine Vd ?_ | refine Ve ?_ | refine Vf ?_); (try simp only [go_sem, hP, hw2]); (repeat refine qJ ?_)))
     refine ⟨k + 1, by omega, by omega, ?_⟩
     exact Sub_of (by exact EnvLe_au) (ObLe_gown (by exact ObjLe_au))
    ·have hk : k = R.length := by simp at h; omega
     subst hk
     have hw00 := hwd 0 hR0
     have hwi := within67 w 2 32
     have hb1 : decide ((R.length : Int) ≤ 41) = true := by simp; omega
     have hb2 : decide ((2 : Int) ≤ (w : Int)) = true := by simp; omega
     have hb3 : decide ((w : Int) ≤ 32) = true := by simp; omega
     refine WV_exit ?_
     simp only [thenQ, inQ, reduceIte, beq_self_eq_true]
     refine WV_seq_ ?_
     (refine WV_op ?_; simp only [go_sem, hP, gown_grid, gown_row hR0, Row.ob_box, gridOb, Ob.isBox, refs_get hR0, irefs_glen, Int.toNat_zero, Nat.mul_one, Nat.zero_add, Nat.zero_mul, Nat.add_zero, hR0, Int.ofNat_lt, Int.natCast_nonneg, hw00]; (repeat refine qJ ?_))
     (refine AG_pu (fun hG => hwi) ?_; simp only [go_sem, hP, hb1, hb2, hb3]; (repeat refine qJ ?_); (repeat ((first | refine Va ?_ | refine Vb ?_ | refine Vc ?_ | refine Vd ?_ | refine Ve ?_ | refine Vf ?_); (try simp only [go_sem, hP, hb1, hb2, hb3]); (repeat refine qJ ?_))))
     refine WV_ret ?_
     simp only [thenQ, inQ, RetQN]
     refine retG_ok (R := R) (j := j) (q := True) (vs := [.vw 1 1000 0 R.length cap, bv true]) (r := .tup [.vw 1 1000 0 R.length cap, bv true]) (by omega) ?_ trivial ?_ ?_
     ·simp only [resAll, resA]
      simp only [go_sem, hb1, hb2, hb3]
     ·simp only [tupA]
      rw [AV.lend]
      simp only [AV.lendL]
      rw [lend_grid]
      rfl
     ·exact ⟨R, j, cap, hgi, c1, c2, rfl, rfl⟩
end Go.Proofs.YtlmfdmlochpfcaaDoor

namespace Go.Proofs.YtlmfdmlochpfcaaDoor
open Go Go.V
abbrev o59_0 : List Ins := [⟨(some 2), .mv (.k (.c (.str []))), none, true⟩]
abbrev o59_1 : List Ins := [⟨(some 3), .mv (.k (.c (.str []))), none, true⟩]
abbrev o59_2 : List Ins := [⟨(some 4), .mv (.k (.c (.int .i64 0))), none, true⟩]
abbrev o59_3 : List Ins := [⟨(some 6), .mv (.t 4), none, true⟩,
 ⟨(some 7), .mv (.t 0), none, true⟩,
 ⟨(some 8), .len (.t 7), none, true⟩,
 ⟨(some 9), .bin .lss (.t 6) (.t 8), none, true⟩]
abbrev v59_4 : VC := (.cond (.t 9) .skip (.exit 0))
abbrev o59_5 : List Ins := [⟨(some 5), .mv (.k (.c (.int .i64 0))), none, true⟩]
abbrev o59_6 : List Ins := [⟨(some 12), .mv (.t 5), none, true⟩,
 ⟨(some 13), .mv (.t 0), none, true⟩,
 ⟨(some 14), .mv (.t 4), none, true⟩,
 ⟨(some 15), .ia 1 (.t 13) (.t 14), none, true⟩,
 ⟨(some 16), .ld true 1 (.t 15), none, true⟩,
 ⟨(some 17), .len (.t 16), none, true⟩,
 ⟨(some 18), .bin .lss (.t 12) (.t 17), none, true⟩]
abbrev v59_7 : VC := (.cond (.t 18) .skip (.exit 2))
abbrev o59_8 : List Ins := [⟨(some 21), .mv (.t 3), none, true⟩,
 ⟨(some 22), .mv (.t 0), none, true⟩,
 ⟨(some 23), .mv (.t 4), none, true⟩,
 ⟨(some 24), .ia 1 (.t 22) (.t 23), none, true⟩,
 ⟨(some 25), .ld true 1 (.t 24), none, true⟩,
 ⟨(some 26), .mv (.t 5), none, true⟩,
 ⟨(some 27), .ia 1 (.t 25) (.t 26), none, true⟩,
 ⟨(some 28), .ld true 1 (.t 27), none, true⟩,
 ⟨(some 29), .call (.k (.fn 86 [])) [(.t 28)], none, true⟩,
 ⟨(some 30), .bsl 5 1 [(.t 29)], none, true⟩,
 ⟨(some 31), .raw (.convert 68 9 (.tmp 30)), none, true⟩,
 ⟨(some 32), .prim (.sbin .add) [(.t 21), (.t 31)], none, true⟩,
 ⟨(some 3), .mv (.t 32), none, true⟩]
abbrev o59_9 : List Ins := [⟨(some 19), .mv (.t 5), none, true⟩,
 ⟨(some 20), .bin .add (.t 19) (.k (.c (.int .i64 1))), none, true⟩,
 ⟨(some 5), .mv (.t 20), none, true⟩]
abbrev v59_10 : VC := (.seq (.block 3 (.ops o59_8)) (.ops o59_9))
abbrev v59_11 : VC := (.seq (.seq (.ops o59_6) v59_7) v59_10)
-- K59_2: changed and kept: [5, 3]
abbrev K59_2 : List Nat := [0, 4]
abbrev v59_12 : VC := (.loop v59_11)
abbrev v59_13 : VC := (.block 2 v59_12)
abbrev o59_14 : List Ins := [⟨(some 33), .mv (.t 3), none, true⟩,
 ⟨(some 34), .prim (.sbin .add) [(.t 33), (.k (.c (.str [10])))], none, true⟩,
 ⟨(some 3), .mv (.t 34), none, true⟩]
abbrev v59_15 : VC := (.seq (.seq (.ops o59_5) v59_13) (.ops o59_14))
abbrev o59_16 : List Ins := [⟨(some 10), .mv (.t 4), none, true⟩,
 ⟨(some 11), .bin .add (.t 10) (.k (.c (.int .i64 1))), none, true⟩,
 ⟨(some 4), .mv (.t 11), none, true⟩]
abbrev v59_17 : VC := (.seq (.block 1 v59_15) (.ops o59_16))
abbrev v59_18 : VC := (.seq (.seq (.ops o59_3) v59_4) v59_17)
-- K59_1: changed and kept: [4, 3]
abbrev K59_1 : List Nat := [0]
abbrev v59_19 : VC := (.loop v59_18)
abbrev v59_20 : VC := (.block 0 v59_19)
abbrev o59_21 : List Ins := [⟨(some 35), .mv (.t 3), none, true⟩,
 ⟨(some 2), .mv (.t 35), none, true⟩]
abbrev v59_22 : VC := (.seq (.ops o59_21) .ret)
abbrev v59_23 : VC := (.seq (.seq (.ops o59_2) v59_20) v59_22)
abbrev v59_24 : VC := (.seq (.ops o59_1) v59_23)
def ir59 : FC := ⟨1, 36, [.t 2], (.seq (.ops o59_0) v59_24)⟩
theorem c59 : compM Tryd.prog [] 59 = some ir59 := by kernel_rfl
attribute [local go_sem] Nat.reduceEqDiff Nat.reduceAdd Nat.reduceMul reduceIte Nat.reduceLeDiff Nat.reduceLT Nat.reduceBEq reduceCtorEq
def ValsOk (g : List (List Int)) : Prop := ∀ l ∈ g, l.length ≤ 1000 ∧ ∀ n ∈ l, -1 ≤ n ∧ n < 94
theorem GOw.valsOk {n w : Nat} {g : List (List Int)} (h : GOw n w g) (hw : w ≤ 1000) : ValsOk g := by
 intro l hl
 obtain ⟨i, hi, rfl⟩ := List.getElem_of_mem hl
 have hi2 : i < n := by rw [← h.len]; exact hi
 have e : g.getD i [] = g[i] := by rw [List.getD_eq_getElem?_getD, List.getElem?_eq_getElem hi]; rfl
 have hr := h.row i hi2
 rw [e] at hr
 refine ⟨by omega, fun m hm => ?_⟩
 obtain ⟨k, hk, rfl⟩ := List.getElem_of_mem hm
 have := h.val i k hi2 (by omega)
 unfold valAt at this
 simp only [e] at this
 rwa [List.getD_eq_getElem?_getD, List.getElem?_eq_getElem hk] at this
theorem bytesG_snoc {g : List (List Int)} {k : Nat} (h : k < g.length) : textG (bytesG (g.take (k + 1))) = textG (bytesG (g.take k)) ++ ((g[k]).map sgn ++ [10]) := by
 unfold textG bytesG
 rw [List.take_succ_eq_append_getElem h, List.map_append, List.flatMap_append]
 simp
theorem take_map_snoc {l : List Int} {k : Nat} (h : k < l.length) : (l.take (k + 1)).map sgn = (l.take k).map sgn ++ [sgn l[k]] := by
 rw [List.take_succ_eq_append_getElem h, List.map_append]; rfl
theorem textB_len (g : List (List Int)) (h : ValsOk g) : ∀ k, k ≤ g.length → (textG (bytesG (g.take k))).length ≤ k * 1001
 | 0, _ => by simp [textG, bytesG]
 | k + 1, hk => by
  have ih := textB_len g h k (by omega)
  rw [bytesG_snoc (by omega)]
  have := (h _ (List.getElem_mem (show k < g.length by omega))).1
  simp
  omega
set_option maxRecDepth 20000 in
set_option maxHeartbeats 8000000 in
theorem text59 {g : List (List Int)} (h : ValsOk g) (hg : g.length ≤ 1000) : FSpec Tryd.prog 59 [.c (gridC g)] (sv (textG (bytesG g))) := by
 have hmax : maxLen = 9223372036854775807 := rfl
 refine FSpec_ofP c59 (Nat.le_refl _) (by decide) fun C hP hN hC hpin hL => ?_; rw [init_st]
 simp only [ir59]
 (repeat ((first | refine Va ?_ | refine Vb ?_ | refine Vc ?_ | refine Vd ?_ | refine Ve ?_ | refine Vf ?_); (try simp only [go_sem, hP]); (repeat refine qJ ?_)))
 refine WV_loopK K59_1 [] (fun k : Nat => k ≤ g.length) (fun k => g.length - k) (fun k => [(4, iv k), (3, sv (textG (bytesG (g.take k))))]) (fun _ => []) 0 (Nat.zero_le _) ?_ ?_
 ·(refine Sub_of (by simp only [go_sem]; ((repeat' (first | exact EnvLe_e0 _ _ | refine EnvLe_upd ?_ ?_)) <;> ((try simp only [upd_app, e0_app, o0_app, Nat.reduceEqDiff, reduceIte]); first | exact AWk.refl _ _ | exact AWk.int (by omega) | exact AWk.int (by rw [w64 (by omega) (by omega)]; omega) | exact AWk.grow rfl | exact AWk.nil _ | exact AWk.of (by simp [textG, bytesG])))) (by simp only [go_sem]; exact ObjLe_au))
 ·intro k hk0
  simp only [go_sem]
  (repeat ((first | refine Va ?_ | refine Vb ?_ | refine Vc ?_ | refine Vd ?_ | refine Ve ?_ | refine Vf ?_); (try simp only [go_sem, hP, gridC, List.length_map]); (repeat refine qJ ?_)))
  (refine WV_cond rfl (fun h => ?_) (fun h => ?_))
  ·have hk : k < g.length := by simpa using h
   have hw2 := w64 (n := (k : Int) + 1) (by omega) (by omega)
   have hv := ‹ValsOk g› _ (List.getElem_mem hk)
   have htl := textB_len g (by assumption) k (by omega)
   have htl2 : k * 1001 ≤ 1000 * 1001 := Nat.mul_le_mul (by omega) (Nat.le_refl _)
   have hsn := bytesG_snoc hk
   generalize textG (bytesG (g.take k)) = T at htl hsn
   generalize hrow : g[k] = row at hv hsn
   have hgr : (g.map fun l => [rowC l]).getD k [] = [.sl 1 (row.map fun n => [CD.int .i64 n])] := by rw [map_getD hk, hrow]; rfl
   (refine WV_skip ?_; simp only [go_sem])
   refine WV_seq_ (WV_block (WV_seq_ (WV_seq_ ?_)))
   (refine WV_op ?_; simp only [go_sem, hP]; (repeat refine qJ ?_))
   refine WV_block ?_
   refine WV_loopK K59_2 [] (fun i : Nat => i ≤ row.length) (fun i => row.length - i) (fun i => [(5, iv i), (3, sv (T ++ (row.take i).map sgn))]) (fun _ => []) 0 (Nat.zero_le _) ?_ ?_
   ·exact Sub_au
   ·intro i hi0
    simp only [go_sem]
    (repeat ((first | refine Va ?_ | refine Vb ?_ | refine Vc ?_ | refine Vd ?_ | refine Ve ?_ | refine Vf ?_); (try simp only [go_sem, hP, gridC, hgr, List.length_map, Int.toNat_natCast, Int.ofNat_lt, hk, Int.natCast_nonneg]); (repeat refine qJ ?_)))
    (refine WV_cond rfl (fun h => ?_) (fun h => ?_))
    ·have hi : i < row.length := by simpa using h
     have hw3 := w64 (n := (i : Int) + 1) (by omega) (by omega)
     have hvi := hv.2 _ (List.getElem_mem hi)
     have hir : (row.map fun n => [CD.int .i64 n]).getD i [] = [.int .i64 row[i]] := map_getD hi
     have hts := take_map_snoc hi
     (refine WV_skip ?_; simp only [go_sem])
     refine WV_seq_ (WV_block ?_)
     have hlt : (T ++ (row.take i).map sgn).length + 1 ≤ 2000000 := by simp; omega
     (refine WV_op ?_; simp only [go_sem, hP, hgr, hir, List.length_map, Int.toNat_natCast, Int.ofNat_lt, hk, hi, Int.natCast_nonneg]; (repeat refine qJ ?_))
     refine AS_pure (byte86 hvi) rfl rfl rfl rfl rfl ?_
     simp only [go_sem]
     refine raw_bs (s := [sgn row[i]]) (e := 5) (x' := .t 30) (by kernel_rfl) (by kernel_rfl) (by kernel_rfl) rfl rfl rfl ?_
     simp only [go_sem, List.length_cons, List.length_nil]
     (repeat refine qJ ?_)
     (repeat ((first | refine Va ?_ | refine Vb ?_ | refine Vc ?_ | refine Vd ?_ | refine Ve ?_ | refine Vf ?_); (try simp only [go_sem, hP, hw3]); (repeat refine qJ ?_)))
     refine ⟨i + 1, by omega, by omega, ?_⟩
     rw [hts, ← List.append_assoc]
     exact Sub_au
    ·have hi : i = row.length := by simp at h; omega
     subst hi
     rw [List.take_length]
     refine WV_exit ?_
     simp only [thenQ, inQ, reduceIte, beq_self_eq_true]
     have hlt : (T ++ row.map sgn).length + 1 ≤ 2000000 := by simp; omega
     (repeat ((first | refine Va ?_ | refine Vb ?_ | refine Vc ?_ | refine Vd ?_ | refine Ve ?_ | refine Vf ?_); (try simp only [go_sem, hP, hw2, List.length_cons, List.length_nil]); (repeat refine qJ ?_)))
     refine ⟨k + 1, by omega, by omega, ?_⟩
     rw [hsn, ← List.append_assoc]
     exact Sub_au
  ·have hk : k = g.length := by simp at h; omega
   subst hk
   rw [List.take_length]
   (repeat ((first | refine Va ?_ | refine Vb ?_ | refine Vc ?_ | refine Vd ?_ | refine Ve ?_ | refine Vf ?_); (try simp only [go_sem, hP]); (repeat refine qJ ?_)))
   (refine WV_ret ?_; simp only [thenQ, inQ, RetQ, RetOk, resAll, resA]; simp only [go_sem, tupA, AV.port, AV.portL, exists_eq_left']; (first | exact AVle.of rfl | refine AVle.of ?_ | skip))
theorem ncd_len (l : List Nat) : (l.map ncd).length = l.length := List.length_map _
end Go.Proofs.YtlmfdmlochpfcaaDoor

namespace Go.Proofs.YtlmfdmlochpfcaaDoor
open Go Go.V
attribute [local go_sem] Nat.reduceEqDiff Nat.reduceAdd Nat.reduceMul reduceIte Nat.reduceLeDiff Nat.reduceLT Nat.reduceBEq reduceCtorEq
end Go.Proofs.YtlmfdmlochpfcaaDoor

namespace Go.Proofs.YtlmfdmlochpfcaaDoor
open Go Go.V
theorem posL_mem {n w i : Nat} {b : Bool} {p : Nat × Nat} : p ∈ posL n w i b ↔ if b then p.1 = i ∧ p.2 < w else p.2 = i ∧ p.1 < n := by
 unfold posL
 cases b
 ·simp only [Bool.false_eq_true, if_false, List.mem_map, List.mem_range]
  constructor
  ·rintro ⟨k, hk, rfl⟩; exact ⟨rfl, hk⟩
  ·rintro ⟨rfl, h⟩; exact ⟨p.1, h, rfl⟩
 ·simp only [if_true, List.mem_map, List.mem_range]
  constructor
  ·rintro ⟨k, hk, rfl⟩; exact ⟨rfl, hk⟩
  ·rintro ⟨rfl, h⟩; exact ⟨p.2, h, rfl⟩
theorem posL_row_mem {n w i : Nat} {p : Nat × Nat} : p ∈ posL n w i true ↔ p.1 = i ∧ p.2 < w := by rw [posL_mem]; simp
theorem allP_mem {n w : Nat} {l : List (Nat × Nat)} : l ∈ allP n w ↔ (∃ i, i < n ∧ l = posL n w i true) ∨ (∃ k, k < w ∧ l = posL n w k false) := by
 simp only [allP, List.mem_append, List.mem_map, List.mem_range]
 constructor
 ·rintro (⟨i, h, rfl⟩ | ⟨i, h, rfl⟩)
  ·exact .inl ⟨i, h, rfl⟩
  ·exact .inr ⟨i, h, rfl⟩
 ·rintro (⟨i, h, rfl⟩ | ⟨i, h, rfl⟩)
  ·exact .inl ⟨i, h, rfl⟩
  ·exact .inr ⟨i, h, rfl⟩
theorem lostL_mem {g : List (List Int)} {l : List (Nat × Nat)} {p : Nat × Nat} : p ∈ lostL g l ↔ p ∈ l ∧ valAt g p = -1 := by simp [lostL]
theorem sumL_app (g : List (List Int)) (a b : List (Nat × Nat)) : sumL g (a ++ b) = sumL g a + sumL g b := by simp [sumL]
theorem sumL_cons (g : List (List Int)) (m : Nat × Nat) (b : List (Nat × Nat)) : sumL g (m :: b) = (if valAt g m = -1 then 0 else valAt g m) + sumL g b := by simp [sumL]
theorem sumL_congr {g G : List (List Int)} {l : List (Nat × Nat)} (h : ∀ m ∈ l, valAt g m = valAt G m) : sumL g l = sumL G l := by
 unfold sumL
 congr 1
 exact List.map_congr_left fun m hm => by rw [h m hm]
end Go.Proofs.YtlmfdmlochpfcaaDoor

namespace Go.Proofs.YtlmfdmlochpfcaaDoor
open Go Go.V
end Go.Proofs.YtlmfdmlochpfcaaDoor

namespace Go.Proofs.YtlmfdmlochpfcaaDoor
open Go Go.V
theorem marks_iff {n : Nat} {g : List (List Int)} : (marksG g n).length = 0 ↔ ∀ i k, i < n → k < wid g → valAt g (i, k) ≠ -1 := by
 rw [List.length_eq_zero_iff, List.eq_nil_iff_forall_not_mem]
 unfold marksG
 constructor
 ·intro h i k hi hk hv
  refine h (i, k) ?_
  rw [List.mem_flatMap]
  exact ⟨i, List.mem_range.2 hi, lostL_mem.2 ⟨posL_row_mem.2 ⟨rfl, hk⟩, hv⟩⟩
 ·intro h p hp
  rw [List.mem_flatMap] at hp
  obtain ⟨i, hi, hp⟩ := hp
  obtain ⟨h1, h2⟩ := lostL_mem.1 hp
  have h1 := posL_row_mem.1 h1
  have := h i p.2 (List.mem_range.1 hi) h1.2
  rw [← h1.1] at this
  exact this h2
theorem noLack_iff {n w : Nat} {g : List (List Int)} (hn : g.length = n) (hw : wid g = w) : noLack n w g = true ↔ (badL g true (manyL g true)).length + (badL g false (manyL g false)).length = 0 := by
 have hb : ∀ b k, (badL g b k).length = 0 ↔ ∀ i, i < k → lackL g (posL n w i b) = 0 := by
  intro b k
  rw [List.length_eq_zero_iff]
  unfold badL
  rw [List.filter_eq_nil_iff]
  constructor
  ·intro h i hi
   have := h i (List.mem_range.2 hi)
   rw [line_pos, hn, hw] at this
   simpa using this
  ·intro h i hi
   rw [line_pos, hn, hw, h i (List.mem_range.1 hi)]
   simp
 have h1 := hb true (manyL g true)
 have h2 := hb false (manyL g false)
 unfold manyL at h1 h2 ⊢
 simp only [if_true, Bool.false_eq_true, if_false] at h1 h2 ⊢
 rw [hn] at h1 ⊢
 rw [hw] at h2 ⊢
 unfold noLack
 rw [List.all_eq_true]
 constructor
 ·intro h
  have e1 := h1.2 fun i hi => by have := h _ (allP_mem.2 (.inl ⟨i, hi, rfl⟩)); simpa using this
  have e2 := h2.2 fun i hi => by have := h _ (allP_mem.2 (.inr ⟨i, hi, rfl⟩)); simpa using this
  omega
 ·intro h l hl
  rcases allP_mem.1 hl with ⟨i, hi, rfl⟩ | ⟨i, hi, rfl⟩
  ·simpa using h1.1 (by omega) i hi
  ·simpa using h2.1 (by omega) i hi
end Go.Proofs.YtlmfdmlochpfcaaDoor

namespace Go.Proofs.YtlmfdmlochpfcaaDoor
open Go Go.V
abbrev o21_0 : List Ins := [⟨(some 4), .mv (.k (.c (.bool false))), none, true⟩]
abbrev o21_1 : List Ins := [⟨(some 6), .mv (.t 0), none, true⟩,
 ⟨(some 7), .len (.t 6), none, true⟩,
 ⟨(some 8), .mv (.t 1), none, true⟩,
 ⟨(some 9), .len (.t 8), none, true⟩,
 ⟨(some 10), .bin .neq (.t 7) (.t 9), none, true⟩]
abbrev o21_2 : List Ins := [⟨(some 4), .mv (.k (.c (.bool false))), none, true⟩]
abbrev v21_3 : VC := (.seq (.ops o21_2) .ret)
abbrev v21_4 : VC := (.cond (.t 10) v21_3 .skip)
abbrev o21_5 : List Ins := [⟨(some 5), .mv (.k (.c (.int .i64 0))), none, true⟩]
abbrev o21_6 : List Ins := [⟨(some 11), .mv (.t 5), none, true⟩,
 ⟨(some 12), .mv (.t 0), none, true⟩,
 ⟨(some 13), .len (.t 12), none, true⟩,
 ⟨(some 14), .bin .lss (.t 11) (.t 13), none, true⟩]
abbrev v21_7 : VC := (.cond (.t 14) .skip (.exit 0))
abbrev o21_8 : List Ins := [⟨(some 17), .mv (.t 0), none, false⟩,
 ⟨(some 18), .mv (.t 5), none, false⟩,
 ⟨(some 19), .ia 1 (.t 17) (.t 18), none, false⟩,
 ⟨(some 20), .ld true 1 (.t 19), none, false⟩,
 ⟨(some 21), .mv (.t 1), none, false⟩,
 ⟨(some 22), .mv (.t 5), none, false⟩,
 ⟨(some 23), .ia 1 (.t 21) (.t 22), none, false⟩,
 ⟨(some 24), .ld true 1 (.t 23), none, false⟩,
 ⟨(some 25), .prim (.sbin .neq) [(.t 20), (.t 24)], none, true⟩]
abbrev o21_9 : List Ins := [⟨(some 4), .mv (.k (.c (.bool false))), none, true⟩]
abbrev v21_10 : VC := (.seq (.ops o21_9) .ret)
abbrev v21_11 : VC := (.cond (.t 25) v21_10 .skip)
abbrev v21_12 : VC := (.seq (.dops o21_8) v21_11)
abbrev o21_13 : List Ins := [⟨(some 15), .mv (.t 5), none, true⟩,
 ⟨(some 16), .bin .add (.t 15) (.k (.c (.int .i64 1))), none, true⟩,
 ⟨(some 5), .mv (.t 16), none, true⟩]
abbrev v21_14 : VC := (.seq (.block 1 v21_12) (.ops o21_13))
abbrev v21_15 : VC := (.seq (.seq (.ops o21_6) v21_7) v21_14)
-- K21_1: changed and kept: [5]
abbrev K21_1 : List Nat := [0, 1]
abbrev v21_16 : VC := (.loop v21_15)
abbrev v21_17 : VC := (.block 0 v21_16)
abbrev o21_18 : List Ins := [⟨(some 4), .mv (.k (.c (.bool true))), none, true⟩]
abbrev v21_19 : VC := (.seq (.ops o21_18) .ret)
abbrev v21_20 : VC := (.seq (.seq (.ops o21_5) v21_17) v21_19)
abbrev v21_21 : VC := (.seq (.seq (.ops o21_1) v21_4) v21_20)
def ir21 : FC := ⟨2, 26, [.t 4], (.seq (.ops o21_0) v21_21)⟩
abbrev o16_0 : List Ins := [⟨(some 0), .mv (.k (.c (.bool false))), none, true⟩]
abbrev o16_1 : List Ins := [⟨(some 13), .bsl 9 1 [(.k (.c (.str [97, 98]))), (.k (.c (.str [99])))], none, true⟩,
 ⟨(some 14), .call (.k (.fn 24 [])) [(.t 13)], none, true⟩,
 ⟨(some 12), .mv (.t 14), none, true⟩,
 ⟨(some 15), .ext (.t 12) 0, none, true⟩,
 ⟨(some 16), .ext (.t 12) 1, none, true⟩,
 ⟨(some 1), .mv (.t 15), none, true⟩,
 ⟨(some 2), .mv (.t 16), none, true⟩]
abbrev o16_2 : List Ins := [⟨(some 18), .call (.k (.fn 18 [])) [(.k (.c (.str [97, 63, 63, 95, 10, 99, 124, 32, 64, 10, 91, 65, 63, 33, 10])))], none, true⟩,
 ⟨(some 17), .mv (.t 18), none, true⟩,
 ⟨(some 19), .ext (.t 17) 0, none, true⟩,
 ⟨(some 20), .ext (.t 17) 1, none, true⟩,
 ⟨(some 3), .mv (.t 19), none, true⟩,
 ⟨(some 4), .mv (.t 20), none, true⟩]
abbrev o16_3 : List Ins := [⟨(some 22), .call (.k (.fn 20 [])) [(.k (.c (.str [97, 98, 124, 95, 10, 99, 124, 32, 64, 10, 91, 65, 35, 33, 10])))], none, true⟩,
 ⟨(some 21), .mv (.t 22), none, true⟩,
 ⟨(some 23), .ext (.t 21) 0, none, true⟩,
 ⟨(some 24), .ext (.t 21) 1, none, true⟩,
 ⟨(some 5), .mv (.t 23), none, true⟩,
 ⟨(some 6), .mv (.t 24), none, true⟩]
abbrev o16_4 : List Ins := [⟨(some 26), .call (.k (.fn 31 [])) [(.k (.c (.str [63, 63, 124, 95, 10, 63, 63, 32, 64, 10, 91, 65, 35, 33, 10])))], none, true⟩,
 ⟨(some 25), .mv (.t 26), none, true⟩,
 ⟨(some 27), .ext (.t 25) 0, none, true⟩,
 ⟨(some 28), .ext (.t 25) 1, none, true⟩,
 ⟨(some 7), .mv (.t 27), none, true⟩,
 ⟨(some 8), .mv (.t 28), none, true⟩]
abbrev o16_5 : List Ins := [⟨(some 30), .call (.k (.fn 23 [])) [(.k (.c (.str [97, 98, 124, 95, 10, 100, 124, 32, 64, 10, 91, 65, 35, 33, 10])))], none, true⟩,
 ⟨(some 29), .mv (.t 30), none, true⟩,
 ⟨(some 31), .ext (.t 29) 0, none, true⟩,
 ⟨(some 32), .ext (.t 29) 1, none, true⟩,
 ⟨(some 33), .ext (.t 29) 2, none, true⟩,
 ⟨(some 9), .alloc [(.c (.int .i64 0)), (.c (.int .i64 0))], none, true⟩,
 ⟨none, .st 2 (.t 9) (.t 31), none, true⟩,
 ⟨(some 10), .mv (.t 32), none, true⟩,
 ⟨(some 11), .mv (.t 33), none, true⟩]
abbrev o16_6 : List Ins := [⟨(some 34), .mv (.t 2), none, true⟩,
 ⟨(some 35), .bin .eql (.t 34) (.k (.c (.int .i64 0))), none, true⟩,
 ⟨(some 36), .mv (.t 35), none, true⟩,
 ⟨(some 37), .mv (.t 4), (some (36, true)), true⟩,
 ⟨(some 38), .bin .eql (.t 37) (.k (.c (.int .i64 0))), (some (36, true)), true⟩,
 ⟨(some 39), .pick (.t 36) (.t 38) (.k (.c (.bool false))), none, true⟩,
 ⟨(some 40), .mv (.t 39), none, true⟩,
 ⟨(some 41), .mv (.t 6), (some (40, true)), true⟩,
 ⟨(some 42), .bin .eql (.t 41) (.k (.c (.int .i64 0))), (some (40, true)), true⟩,
 ⟨(some 43), .pick (.t 40) (.t 42) (.k (.c (.bool false))), none, true⟩,
 ⟨(some 44), .mv (.t 43), none, true⟩,
 ⟨(some 45), .mv (.t 8), (some (44, true)), true⟩,
 ⟨(some 46), .bin .eql (.t 45) (.k (.c (.int .i64 0))), (some (44, true)), true⟩,
 ⟨(some 47), .pick (.t 44) (.t 46) (.k (.c (.bool false))), none, true⟩,
 ⟨(some 48), .mv (.t 47), none, true⟩,
 ⟨(some 49), .mv (.t 11), (some (48, true)), true⟩,
 ⟨(some 50), .bin .eql (.t 49) (.k (.c (.int .i64 0))), (some (48, true)), true⟩,
 ⟨(some 51), .pick (.t 48) (.t 50) (.k (.c (.bool false))), none, true⟩,
 ⟨(some 52), .mv (.t 51), none, true⟩,
 ⟨(some 53), .mv (.t 1), (some (52, true)), true⟩,
 ⟨(some 54), .prim (.sbin .eql) [(.t 53), (.k (.c (.str [97, 98, 124, 95, 10, 99, 124, 32, 64, 10, 91, 65, 35, 33, 10])))], (some (52, true)), true⟩,
 ⟨(some 55), .pick (.t 52) (.t 54) (.k (.c (.bool false))), none, true⟩,
 ⟨(some 56), .mv (.t 55), none, true⟩,
 ⟨(some 57), .mv (.t 3), (some (56, true)), true⟩,
 ⟨(some 58), .prim (.sbin .eql) [(.t 57), (.k (.c (.str [97, 98, 124, 95, 10, 99, 124, 32, 64, 10, 91, 65, 35, 33, 10])))], (some (56, true)), true⟩,
 ⟨(some 59), .pick (.t 56) (.t 58) (.k (.c (.bool false))), none, true⟩,
 ⟨(some 60), .mv (.t 59), none, true⟩,
 ⟨(some 61), .mv (.t 5), (some (60, true)), true⟩,
 ⟨(some 62), .bsl 9 1 [(.k (.c (.str [97, 98]))), (.k (.c (.str [99])))], (some (60, true)), true⟩,
 ⟨(some 63), .call (.k (.fn 21 [])) [(.t 61), (.t 62)], (some (60, true)), true⟩,
 ⟨(some 64), .pick (.t 60) (.t 63) (.k (.c (.bool false))), none, true⟩,
 ⟨(some 65), .mv (.t 64), none, true⟩,
 ⟨(some 66), .mv (.t 7), (some (65, true)), true⟩,
 ⟨(some 67), .bin .eql (.t 66) (.k (.c (.int .i64 1))), (some (65, true)), true⟩,
 ⟨(some 68), .pick (.t 65) (.t 67) (.k (.c (.bool false))), none, true⟩,
 ⟨(some 69), .mv (.t 68), none, true⟩,
 ⟨(some 70), .ld false 2 (.t 9), (some (69, true)), true⟩,
 ⟨(some 71), .bld [(.c (.int .i64 0)), (.c (.int .i64 0))] [(0, 1, (.k (.c (.int .i64 1))))], (some (69, true)), true⟩,
 ⟨(some 72), .seq false [(0, true), (1, true)] (.t 70) (.t 71), (some (69, true)), true⟩,
 ⟨(some 73), .pick (.t 69) (.t 72) (.k (.c (.bool false))), none, true⟩,
 ⟨(some 74), .mv (.t 73), none, true⟩,
 ⟨(some 75), .mv (.t 10), (some (74, true)), true⟩,
 ⟨(some 76), .prim (.sbin .eql) [(.t 75), (.k (.c (.str [97, 98, 124, 95, 10, 99, 124, 32, 64, 10, 91, 65, 35, 33, 10])))], (some (74, true)), true⟩,
 ⟨(some 77), .pick (.t 74) (.t 76) (.k (.c (.bool false))), none, true⟩,
 ⟨(some 0), .mv (.t 77), none, true⟩]
abbrev v16_7 : VC := (.seq (.ops o16_6) .ret)
abbrev v16_8 : VC := (.seq (.ops o16_5) v16_7)
abbrev v16_9 : VC := (.seq (.ops o16_4) v16_8)
abbrev v16_10 : VC := (.seq (.ops o16_3) v16_9)
abbrev v16_11 : VC := (.seq (.ops o16_2) v16_10)
abbrev v16_12 : VC := (.seq (.ops o16_1) v16_11)
def ir16 : FC := ⟨0, 78, [.t 0], (.seq (.ops o16_0) v16_12)⟩
theorem c21 : compM Tryd.prog [] 21 = some ir21 := by kernel_rfl
theorem c16 : compM Tryd.prog [] 16 = some ir16 := by kernel_rfl
attribute [local go_sem] Nat.reduceEqDiff Nat.reduceAdd Nat.reduceMul reduceIte Nat.reduceLeDiff Nat.reduceLT Nat.reduceBEq reduceCtorEq
theorem same21 (a b : List (List UInt8)) (ha : a.length ≤ 1000000) : FSpec Tryd.prog 21 [.c (strsV a), .c (strsV b)] (bv (a == b)) := by
 have hmax : maxLen = 9223372036854775807 := rfl
 refine FSpec_of c21 (Nat.le_refl _) (by decide) fun C hP hN hC hL => ?_; rw [init_st]
 simp only [ir21, strsV]
 (repeat ((first | refine Va ?_ | refine Vb ?_ | refine Vc ?_ | refine Vd ?_ | refine Ve ?_ | refine Vf ?_); (try simp only [go_sem, hP, List.length_map]); (repeat refine qJ ?_)))
 by_cases hl : a.length = b.length
 ·(refine WV_cond rfl (fun h => ?_) (fun h => ?_))
  ·simp [hl] at h
  (repeat ((first | refine Va ?_ | refine Vb ?_ | refine Vc ?_ | refine Vd ?_ | refine Ve ?_ | refine Vf ?_); (try simp only [go_sem, hP]); (repeat refine qJ ?_)))
  refine WV_loopK K21_1 [] (fun k : Nat => k ≤ a.length ∧ ∀ m (hm : m < a.length) (hm2 : m < b.length), m < k → a[m] = b[m]) (fun k => a.length - k) (fun k => [(5, iv k)]) (fun _ => []) 0 ⟨Nat.zero_le _, fun m _ _ h => by omega⟩ ?_ ?_
  ·exact Sub_au
  ·intro k ⟨hk0, hke⟩
   simp only [go_sem]
   (repeat ((first | refine Va ?_ | refine Vb ?_ | refine Vc ?_ | refine Vd ?_ | refine Ve ?_ | refine Vf ?_); (try simp only [go_sem, hP, List.length_map]); (repeat refine qJ ?_)))
   (refine WV_cond rfl (fun h => ?_) (fun h => ?_))
   ·have hk : k < a.length := by simpa using h
    have hkb : k < b.length := by omega
    have hw2 := w64 (n := (k : Int) + 1) (by omega) (by omega)
    (refine WV_skip ?_; simp only [go_sem])
    refine WV_seq_ (WV_block (WV_seq_ ?_))
    (refine WV_op ?_; simp only [go_sem, hP, map_getD hk, map_getD hkb, List.length_map, Int.toNat_natCast, Int.ofNat_lt, hk, hkb, Int.natCast_nonneg]; (repeat refine qJ ?_))
    by_cases he : a[k] = b[k]
    ·(refine WV_cond rfl (fun h => ?_) (fun h => ?_))
     ·simp [he] at h
     ·(repeat ((first | refine Va ?_ | refine Vb ?_ | refine Vc ?_ | refine Vd ?_ | refine Ve ?_ | refine Vf ?_); (try simp only [go_sem, hP, hw2]); (repeat refine qJ ?_)))
      refine ⟨k + 1, ⟨by omega, fun m hm hm2 hmk => ?_⟩, by omega, ?_⟩
      ·by_cases e2 : m = k
       ·subst e2; exact he
       ·exact hke m hm hm2 (by omega)
      ·exact Sub_au
    ·have hne : (a == b) = false := by
      rw [beq_eq_false_iff_ne]
      rintro rfl
      exact he rfl
     rw [hne]
     (refine WV_cond rfl (fun h => ?_) (fun h => ?_))
     ·(repeat ((first | refine Va ?_ | refine Vb ?_ | refine Vc ?_ | refine Vd ?_ | refine Ve ?_ | refine Vf ?_); (try simp only [go_sem, hP]); (repeat refine qJ ?_)))
      (refine WV_ret ?_; simp only [thenQ, inQ, RetQ, RetOk, resAll, resA]; simp only [go_sem, tupA, AV.port, AV.portL, exists_eq_left']; (first | exact AVle.of rfl | refine AVle.of ?_ | skip))
     ·simp [he] at h
   ·have hk : k = a.length := by simp at h; omega
    subst hk
    have heq : (a == b) = true := by
     rw [beq_iff_eq]
     exact List.ext_getElem hl fun m h1 h2 => hke m h1 h2 h1
    rw [heq]
    (repeat ((first | refine Va ?_ | refine Vb ?_ | refine Vc ?_ | refine Vd ?_ | refine Ve ?_ | refine Vf ?_); (try simp only [go_sem, hP]); (repeat refine qJ ?_)))
    (refine WV_ret ?_; simp only [thenQ, inQ, RetQ, RetOk, resAll, resA]; simp only [go_sem, tupA, AV.port, AV.portL, exists_eq_left']; (first | exact AVle.of rfl | refine AVle.of ?_ | skip))
 ·have hne : (a == b) = false := by
   rw [beq_eq_false_iff_ne]
   rintro rfl
   exact hl rfl
  rw [hne]
  (refine WV_cond rfl (fun h => ?_) (fun h => ?_))
  ·(repeat ((first | refine Va ?_ | refine Vb ?_ | refine Vc ?_ | refine Vd ?_ | refine Ve ?_ | refine Vf ?_); (try simp only [go_sem, hP]); (repeat refine qJ ?_)))
   (refine WV_ret ?_; simp only [thenQ, inQ, RetQ, RetOk, resAll, resA]; simp only [go_sem, tupA, AV.port, AV.portL, exists_eq_left']; (first | exact AVle.of rfl | refine AVle.of ?_ | skip))
  ·simp at h; omega
def ex1 : List UInt8 := [97, 98, 124, 95, 10, 99, 124, 32, 64, 10, 91, 65, 35, 33, 10]
theorem ex_write : writeG [[97, 98], [99]] = (ex1, 0) := by kernel_rfl
theorem ex_mend : mendG [97, 63, 63, 95, 10, 99, 124, 32, 64, 10, 91, 65, 63, 33, 10] = (ex1, 0) := by kernel_rfl
theorem ex_read : readG ex1 = ([[97, 98], [99]], 0) := by kernel_rfl
theorem ex_left : leftG [63, 63, 124, 95, 10, 63, 63, 32, 64, 10, 91, 65, 35, 33, 10] = ([(0, 0), (0, 1), (1, 0), (1, 1)], 0) := by kernel_rfl
theorem ex_wrong : wrongG [97, 98, 124, 95, 10, 100, 124, 32, 64, 10, 91, 65, 35, 33, 10] = ((1, 0), ex1, 0) := by kernel_rfl
theorem Conn.inv {ms : List (Nat × Nat)} (f : Int → Bool) (h : ∀ m ∈ ms, f m.1 = f (-1 - m.2)) {x y : Int} (hc : Conn ms x y) : f x = f y := by
 induction hc with
 | refl x => rfl
 | edge hm => exact h _ hm
 | symm _ ih => exact ih.symm
 | trans _ _ ih1 ih2 => exact ih1.trans ih2
theorem ex_circ : (circ [(0, 0), (0, 1), (1, 0), (1, 1)]).length = 1 := by
 have h0 : ¬ Conn ([(0, 0), (0, 1), (1, 0), (1, 1)].take 0) ((0 : Nat) : Int) (-1 - ((0 : Nat) : Int)) := fun h => by
  have := h.inv (fun x => decide (x = 0)) (by decide)
  revert this; decide
 have h1 : ¬ Conn ([(0, 0), (0, 1), (1, 0), (1, 1)].take 1) ((0 : Nat) : Int) (-1 - ((1 : Nat) : Int)) := fun h => by
  have := h.inv (fun x => decide (x = 0 ∨ x = -1)) (by decide)
  revert this; decide
 have h2 : ¬ Conn ([(0, 0), (0, 1), (1, 0), (1, 1)].take 2) ((1 : Nat) : Int) (-1 - ((0 : Nat) : Int)) := fun h => by
  have := h.inv (fun x => decide (x = 1)) (by decide)
  revert this; decide
 have h3 : Conn ([(0, 0), (0, 1), (1, 0), (1, 1)].take 3) ((1 : Nat) : Int) (-1 - ((1 : Nat) : Int)) := by
  have e0 : Conn ([(0, 0), (0, 1), (1, 0), (1, 1)].take 3) ((0 : Nat) : Int) (-1 - ((0 : Nat) : Int)) := .edge (m := (0, 0)) (by simp)
  have e1 : Conn ([(0, 0), (0, 1), (1, 0), (1, 1)].take 3) ((0 : Nat) : Int) (-1 - ((1 : Nat) : Int)) := .edge (m := (0, 1)) (by simp)
  have e2 : Conn ([(0, 0), (0, 1), (1, 0), (1, 1)].take 3) ((1 : Nat) : Int) (-1 - ((0 : Nat) : Int)) := .edge (m := (1, 0)) (by simp)
  exact e2.trans (e0.symm.trans e1)
 unfold circ
 show (circK _ 4).length = 1
 rw [circK_snoc (k := 3) (m := (1, 1)) rfl, circK_snoc (k := 2) (m := (1, 0)) rfl, circK_snoc (k := 1) (m := (0, 1)) rfl, circK_snoc (k := 0) (m := (0, 0)) rfl, if_pos h3, if_neg h2, if_neg h1, if_neg h0]
 rfl
set_option maxRecDepth 20000 in
set_option maxHeartbeats 8000000 in
theorem works16 : FSpec Tryd.prog 16 [] (bv true) := by
 have hmax : maxLen = 9223372036854775807 := rfl
 have h1 := write24 [[97, 98], [99]] (by simp) (by simp)
 have h2 := mend18 [97, 63, 63, 95, 10, 99, 124, 32, 64, 10, 91, 65, 63, 33, 10] (by simp)
 have h3 := read20 ex1 (by decide)
 have h4 := fewest31 [63, 63, 124, 95, 10, 63, 63, 32, 64, 10, 91, 65, 35, 33, 10] (by simp)
 have h5 := wrong23 [97, 98, 124, 95, 10, 100, 124, 32, 64, 10, 91, 65, 35, 33, 10] (by simp)
 have h6 := same21 [[97, 98], [99]] [[97, 98], [99]] (by simp)
 rw [ex_write] at h1
 rw [ex_mend] at h2
 rw [ex_read] at h3
 rw [ex_left, ex_circ] at h4
 rw [ex_wrong] at h5
 have h6' : FSpec Tryd.prog 21 [.c (.sl 1 [[.str [97, 98]], [.str [99]]]), .c (.sl 1 [[.str [97, 98]], [.str [99]]])] (bv true) := h6
 have h1' : FSpec Tryd.prog 24 [.c (.sl 1 [[.str [97, 98]], [.str [99]]])] (.tup [.c (.str ex1), iv 0]) := h1
 unfold ex1 at h1' h2 h3 h5
 clear h1 h6
 refine FSpec_of c16 (Nat.le_refl _) (by decide) fun C hP hN hC hL => ?_; rw [init_st]
 simp only [ir16]
 (repeat ((first | refine Va ?_ | refine Vb ?_ | refine Vc ?_ | refine Vd ?_ | refine Ve ?_ | refine Vf ?_); (try simp only [go_sem, hP]); (repeat refine qJ ?_)))
 (refine AS_pu (h1') ?_; simp only [go_sem, hP]; (repeat refine qJ ?_); (repeat ((first | refine Va ?_ | refine Vb ?_ | refine Vc ?_ | refine Vd ?_ | refine Ve ?_ | refine Vf ?_); (try simp only [go_sem, hP]); (repeat refine qJ ?_))))
 (refine AS_pu (h2) ?_; simp only [go_sem, hP]; (repeat refine qJ ?_); (repeat ((first | refine Va ?_ | refine Vb ?_ | refine Vc ?_ | refine Vd ?_ | refine Ve ?_ | refine Vf ?_); (try simp only [go_sem, hP]); (repeat refine qJ ?_))))
 (refine AS_pu (h3) ?_; simp only [go_sem, hP]; (repeat refine qJ ?_); (repeat ((first | refine Va ?_ | refine Vb ?_ | refine Vc ?_ | refine Vd ?_ | refine Ve ?_ | refine Vf ?_); (try simp only [go_sem, hP]); (repeat refine qJ ?_))))
 (refine AS_pu (h4) ?_; simp only [go_sem, hP]; (repeat refine qJ ?_); (repeat ((first | refine Va ?_ | refine Vb ?_ | refine Vc ?_ | refine Vd ?_ | refine Ve ?_ | refine Vf ?_); (try simp only [go_sem, hP]); (repeat refine qJ ?_))))
 (refine AS_pu (h5) ?_; simp only [go_sem, hP, beq_self_eq_true, Bool.and_self, Bool.true_and, true_implies, Bool.true_eq_false, false_implies, and_true]; (repeat refine qJ ?_); (repeat ((first | refine Va ?_ | refine Vb ?_ | refine Vc ?_ | refine Vd ?_ | refine Ve ?_ | refine Vf ?_); (try simp only [go_sem, hP, beq_self_eq_true, Bool.and_self, Bool.true_and, true_implies, Bool.true_eq_false, false_implies, and_true]); (repeat refine qJ ?_))))
 (refine AG_pu (fun hG => h6') ?_; simp only [go_sem, hP, beq_self_eq_true, Bool.and_self, Bool.true_and, true_implies, Bool.true_eq_false, false_implies, and_true]; (repeat refine qJ ?_); (repeat ((first | refine Va ?_ | refine Vb ?_ | refine Vc ?_ | refine Vd ?_ | refine Ve ?_ | refine Vf ?_); (try simp only [go_sem, hP, beq_self_eq_true, Bool.and_self, Bool.true_and, true_implies, Bool.true_eq_false, false_implies, and_true]); (repeat refine qJ ?_))))
 (refine WV_ret ?_; simp only [thenQ, inQ, RetQ, RetOk, resAll, resA]; simp only [go_sem, tupA, AV.port, AV.portL, exists_eq_left'])
 exact AVle.of rfl
end Go.Proofs.YtlmfdmlochpfcaaDoor

namespace Go.Proofs.YtlmfdmlochpfcaaDoor
open Go Go.V
namespace W
abbrev o63_0 : List Ins := [⟨(some 4), .mv (.k (.c (.raw (.slice none 0 0)))), none, true⟩]
abbrev o63_1 : List Ins := [⟨(some 10), .mv (.t 0), none, true⟩,
 ⟨(some 11), .ia 1 (.t 10) (.k (.c (.int .i64 0))), none, true⟩,
 ⟨(some 12), .ld true 1 (.t 11), none, true⟩,
 ⟨(some 13), .len (.t 12), none, true⟩,
 ⟨(some 5), .mv (.t 13), none, true⟩]
abbrev o63_2 : List Ins := [⟨(some 14), .mv (.t 1), none, true⟩]
abbrev o63_3 : List Ins := [⟨(some 15), .mv (.t 0), none, true⟩,
 ⟨(some 16), .len (.t 15), none, true⟩,
 ⟨(some 5), .mv (.t 16), none, true⟩]
abbrev v63_4 : VC := (.cond (.t 14) (.ops o63_3) .skip)
abbrev o63_5 : List Ins := [⟨(some 6), .mv (.k (.c (.raw (.slice none 0 0)))), none, true⟩]
abbrev o63_6 : List Ins := [⟨(some 7), .mv (.k (.c (.int .i64 0))), none, true⟩]
abbrev o63_7 : List Ins := [⟨(some 17), .mv (.t 7), none, true⟩,
 ⟨(some 18), .mv (.t 5), none, true⟩,
 ⟨(some 19), .bin .lss (.t 17) (.t 18), none, true⟩]
abbrev v63_8 : VC := (.cond (.t 19) .skip (.exit 0))
abbrev o63_9 : List Ins := [⟨(some 23), .mv (.t 0), none, true⟩,
 ⟨(some 24), .mv (.t 0), none, true⟩,
 ⟨(some 25), .mv (.t 7), none, true⟩,
 ⟨(some 26), .mv (.t 1), none, true⟩,
 ⟨(some 27), .call (.k (.fn 58 [])) [(.t 24), (.t 25), (.t 26)], none, true⟩,
 ⟨(some 28), .call (.k (.fn 57 [])) [(.t 23), (.t 27)], none, true⟩,
 ⟨(some 22), .mv (.t 28), none, true⟩,
 ⟨(some 29), .ext (.t 22) 0, none, true⟩,
 ⟨(some 30), .ext (.t 22) 1, none, true⟩,
 ⟨(some 8), .mv (.t 29), none, true⟩,
 ⟨(some 9), .mv (.t 30), none, true⟩]
abbrev o63_10 : List Ins := [⟨(some 31), .mv (.t 8), none, true⟩,
 ⟨(some 32), .bin .neq (.t 31) (.k (.c (.int .i64 0))), none, true⟩]
abbrev o63_11 : List Ins := [⟨(some 33), .mv (.t 6), none, true⟩,
 ⟨(some 34), .mv (.t 7), none, true⟩,
 ⟨(some 35), .bsl 3 1 [(.t 34)], none, true⟩,
 ⟨(some 36), .app 3 1 8 (.t 33) (.t 35), none, true⟩,
 ⟨(some 6), .mv (.t 36), none, true⟩]
abbrev v63_12 : VC := (.cond (.t 32) (.ops o63_11) .skip)
abbrev v63_13 : VC := (.seq (.ops o63_10) v63_12)
abbrev v63_14 : VC := (.seq (.ops o63_9) v63_13)
abbrev o63_15 : List Ins := [⟨(some 20), .mv (.t 7), none, true⟩,
 ⟨(some 21), .bin .add (.t 20) (.k (.c (.int .i64 1))), none, true⟩,
 ⟨(some 7), .mv (.t 21), none, true⟩]
abbrev v63_16 : VC := (.seq (.block 1 v63_14) (.ops o63_15))
abbrev v63_17 : VC := (.seq (.seq (.ops o63_7) v63_8) v63_16)
-- K63_1: changed and kept: [7, 6]
abbrev v63_18 : VC := (.loop v63_17)
abbrev v63_19 : VC := (.block 0 v63_18)
abbrev o63_20 : List Ins := [⟨(some 37), .mv (.t 6), none, true⟩,
 ⟨(some 4), .mv (.t 37), none, true⟩]
abbrev v63_21 : VC := (.seq (.ops o63_20) .ret)
abbrev v63_22 : VC := (.seq (.seq (.ops o63_6) v63_19) v63_21)
abbrev v63_23 : VC := (.seq (.ops o63_5) v63_22)
abbrev v63_24 : VC := (.seq (.seq (.ops o63_2) v63_4) v63_23)
abbrev v63_25 : VC := (.seq (.ops o63_1) v63_24)
def ir63 : FC := ⟨2, 38, [.t 4], (.seq (.ops o63_0) v63_25)⟩
abbrev o62_0 : List Ins := [⟨(some 2), .mv (.k (.c (.raw (.slice none 0 0)))), none, true⟩]
abbrev o62_1 : List Ins := [⟨(some 3), .mv (.k (.c (.raw (.slice none 0 0)))), none, true⟩]
abbrev o62_2 : List Ins := [⟨(some 4), .mv (.k (.c (.int .i64 0))), none, true⟩]
abbrev o62_3 : List Ins := [⟨(some 7), .mv (.t 4), none, true⟩,
 ⟨(some 8), .mv (.t 0), none, true⟩,
 ⟨(some 9), .len (.t 8), none, true⟩,
 ⟨(some 10), .bin .lss (.t 7) (.t 9), none, true⟩]
abbrev v62_4 : VC := (.cond (.t 10) .skip (.exit 0))
abbrev o62_5 : List Ins := [⟨(some 14), .mv (.t 0), none, true⟩,
 ⟨(some 15), .mv (.t 0), none, true⟩,
 ⟨(some 16), .mv (.t 4), none, true⟩,
 ⟨(some 17), .call (.k (.fn 58 [])) [(.t 15), (.t 16), (.k (.c (.bool true)))], none, true⟩,
 ⟨(some 18), .call (.k (.fn 57 [])) [(.t 14), (.t 17)], none, true⟩,
 ⟨(some 13), .mv (.t 18), none, true⟩,
 ⟨(some 19), .ext (.t 13) 0, none, true⟩,
 ⟨(some 20), .ext (.t 13) 1, none, true⟩,
 ⟨(some 5), .mv (.t 19), none, true⟩,
 ⟨(some 6), .mv (.t 20), none, true⟩]
abbrev o62_6 : List Ins := [⟨(some 21), .mv (.t 3), none, true⟩,
 ⟨(some 22), .mv (.t 6), none, true⟩,
 ⟨(some 23), .app 31 2 16 (.t 21) (.t 22), none, true⟩,
 ⟨(some 3), .mv (.t 23), none, true⟩]
abbrev v62_7 : VC := (.seq (.ops o62_5) (.ops o62_6))
abbrev o62_8 : List Ins := [⟨(some 11), .mv (.t 4), none, true⟩,
 ⟨(some 12), .bin .add (.t 11) (.k (.c (.int .i64 1))), none, true⟩,
 ⟨(some 4), .mv (.t 12), none, true⟩]
abbrev v62_9 : VC := (.seq (.block 1 v62_7) (.ops o62_8))
abbrev v62_10 : VC := (.seq (.seq (.ops o62_3) v62_4) v62_9)
-- K62_1: changed and kept: [4, 3]
abbrev v62_11 : VC := (.loop v62_10)
abbrev v62_12 : VC := (.block 0 v62_11)
abbrev o62_13 : List Ins := [⟨(some 24), .mv (.t 3), none, true⟩,
 ⟨(some 2), .mv (.t 24), none, true⟩]
abbrev v62_14 : VC := (.seq (.ops o62_13) .ret)
abbrev v62_15 : VC := (.seq (.seq (.ops o62_2) v62_12) v62_14)
abbrev v62_16 : VC := (.seq (.ops o62_1) v62_15)
def ir62 : FC := ⟨1, 25, [.t 2], (.seq (.ops o62_0) v62_16)⟩
theorem c63 : compM Tryd.prog [] 63 = some ir63 := by kernel_rfl
theorem c62 : compM Tryd.prog [] 62 = some ir62 := by kernel_rfl
end W
attribute [local go_sem] Nat.reduceEqDiff Nat.reduceAdd Nat.reduceMul reduceIte Nat.reduceLeDiff Nat.reduceLT Nat.reduceBEq reduceCtorEq
set_option maxHeartbeats 4000000 in
theorem bad63L {R : List IRow} (h : GOk (gi R)) (b : Bool) {j cap : Nat} : FSpecL Tryd.prog 63 [.vw 1 1000 0 R.length cap, bv b] (gridL icds 1 R j) [] (fun r l' => r = .c (natsC (badL (gi R) b (manyL (gi R) b))) ∧ l' = gridL icds 1 R j) := by
 have hmax : maxLen = 9223372036854775807 := rfl
 have hn : 0 < R.length := by have := h.pos; rwa [gi_len] at this
 have hl := h.len
 rw [gi_len] at hl
 have hw := h.wd
 have hw0 := gi_wid hn
 have hG : GOk (gi R) := h
 have hmy : manyL (gi R) b ≤ 41 := by unfold manyL; rw [gi_len]; split <;> omega
 refine enterG W.c63 (by omega) (Nat.le_refl _) (by decide) (by decide) fun C hP hN hC hL => ?_; rw [init_env']; simp only [W.ir63, updL, Nat.reduceAdd]
 have rest : WV C W.v63_23 (RetQL [RV.t 4] (gridL icds 1 R j) [] (fun r l' => r = .c (natsC (badL (gi R) b (manyL (gi R) b))) ∧ l' = gridL icds 1 R j)) ⟨upd (upd (upd e0 0 (.vw 1 1000 0 R.length cap)) 1 (bv b)) 5 (iv (manyL (gi R) b)), gown icds 1 R j o0⟩ := by
  obtain ⟨M, hM⟩ : ∃ M, manyL (gi R) b = M := ⟨_, rfl⟩
  rw [hM] at hmy ⊢
  (repeat ((first | refine Va ?_ | refine Vb ?_ | refine Vc ?_ | refine Vd ?_ | refine Ve ?_ | refine Vf ?_); (try simp only [go_sem, hP]); (repeat refine qJ ?_)))
  refine WV_nilslot 6 36 3 1 (by decide) (by decide) (by rw [gown_lo (by decide)]; rfl) rfl ?_
  rw [prgO_gown (by decide), gown_upd (by decide)]
  simp only [go_sem]
  refine WV_loopS (fun k : Nat => ⟨upd (upd (upd (upd (upd e0 0 (.vw 1 1000 0 R.length cap)) 1 (bv b)) 5 (iv M)) 7 (iv k)) 6 (.gr 36), gown icds 1 R j (upd o0 36 (.grow 3 1 ((badL (gi R) b k).map ncd)))⟩) (fun k => k ≤ M) (fun k => M - k) 0 (Nat.zero_le _) ?_ ?_
  ·exact Sub_of (by ((repeat' (first | exact EnvLe_e0 _ _ | refine EnvLe_upd ?_ ?_)) <;> ((try simp only [upd_app, e0_app, o0_app, Nat.reduceEqDiff, reduceIte]); first | exact AWk.refl _ _ | exact AWk.int (by omega) | exact AWk.int (by rw [w64 (by omega) (by omega)]; omega) | exact AWk.grow rfl | exact AWk.nil _ | exact AWk.of (by simp [badL])))) (ObLe_gown (by exact ObjLe_au))
  ·intro k hk
   (repeat ((first | refine Va ?_ | refine Vb ?_ | refine Vc ?_ | refine Vd ?_ | refine Ve ?_ | refine Vf ?_); (try simp only [go_sem, hP]); (repeat refine qJ ?_)))
   (refine WV_cond rfl (fun h => ?_) (fun h => ?_))
   ·have hk2 : k < M := by simpa using h
    have hw2 := w64 (n := (k : Int) + 1) (by omega) (by omega)
    have hsn := badL_succ (gi R) b k
    have hbl := badL_len (gi R) b k
    have hn1 := ncd_one (badL (gi R) b k)
    (repeat ((first | refine Va ?_ | refine Vb ?_ | refine Vc ?_ | refine Vd ?_ | refine Ve ?_ | refine Vf ?_); (try simp only [go_sem, hP]); (repeat refine qJ ?_)))
    (refine AS_grid (line58L (j := j) (cap := cap) hG k b) rfl rfl rfl (by simp only [List.map_cons, List.map_nil, List.append_nil]; simp only [go_sem, AV.lendL, lend_grid, AV.lend]) ?_; rintro r l' ⟨rfl, rfl⟩; refine ⟨R, rfl, rfl, rfl, ?_⟩; simp only [go_sem, hP]; (repeat refine qJ ?_); (repeat ((first | refine Va ?_ | refine Vb ?_ | refine Vc ?_ | refine Vd ?_ | refine Ve ?_ | refine Vf ?_); (try simp only [go_sem, hP]); (repeat refine qJ ?_))))
    (refine AS_grid (lacksLL (j := j) (cap := cap) (n := k) (b := b) hG (by rw [hM]; exact hk2)) rfl rfl rfl (by simp only [List.map_cons, List.map_nil, List.append_nil]; simp only [go_sem, AV.lendL, lend_grid, AV.lend]) ?_; rintro r l' ⟨rfl, rfl⟩; refine ⟨R, rfl, rfl, rfl, ?_⟩; simp only [go_sem, hP]; (repeat refine qJ ?_); (repeat ((first | refine Va ?_ | refine Vb ?_ | refine Vc ?_ | refine Vd ?_ | refine Ve ?_ | refine Vf ?_); (try simp only [go_sem, hP]); (repeat refine qJ ?_))))
    (refine WV_cond rfl (fun h => ?_) (fun h => ?_))
    ·have hv : ¬ lackL (gi R) (lineP (gi R) k b) = 0 := by simpa using h
     rw [if_neg hv] at hsn
     (repeat ((first | refine Va ?_ | refine Vb ?_ | refine Vc ?_ | refine Vd ?_ | refine Ve ?_ | refine Vf ?_); (try simp only [go_sem, hP, hw2, hn1, List.length_map, gown_lo, gown_upd, prgO_gown]); (repeat refine qJ ?_)))
     refine ⟨k + 1, by omega, by omega, ?_⟩
     rw [hsn, List.map_append]
     exact Sub_of (by ((repeat' (first | exact EnvLe_e0 _ _ | refine EnvLe_upd ?_ ?_)) <;> ((try simp only [upd_app, e0_app, o0_app, Nat.reduceEqDiff, reduceIte]); first | exact AWk.refl _ _ | exact AWk.int (by omega) | exact AWk.int (by rw [w64 (by omega) (by omega)]; omega) | exact AWk.grow rfl | exact AWk.nil _ | exact AWk.of (by simp [ncd])))) (ObLe_gown (by exact ObjLe_au))
    ·have hv : lackL (gi R) (lineP (gi R) k b) = 0 := by simpa using h
     rw [if_pos hv] at hsn
     (repeat ((first | refine Va ?_ | refine Vb ?_ | refine Vc ?_ | refine Vd ?_ | refine Ve ?_ | refine Vf ?_); (try simp only [go_sem, hP, hw2]); (repeat refine qJ ?_)))
     refine ⟨k + 1, by omega, by omega, ?_⟩
     rw [hsn, List.append_nil]
     exact Sub_of (by exact EnvLe_au) (ObLe_gown (by exact ObjLe_au))
   ·have hk3 : k = M := by simp at h; omega
    subst hk3
    (repeat ((first | refine Va ?_ | refine Vb ?_ | refine Vc ?_ | refine Vd ?_ | refine Ve ?_ | refine Vf ?_); (try simp only [go_sem, hP, gown_lo]); (repeat refine qJ ?_)))
    (refine WV_ret ?_; simp only [thenQ, inQ, RetQL, RetOkL, resAll, resA]; simp only [go_sem, tupA, AV.keepP, AV.keepPL, gown_lo]; refine ⟨_, gridL icds 1 R j, rfl, KeepL_grid rfl (by omega), ?_⟩)
    exact ⟨rfl, rfl⟩
 (repeat ((first | refine Va ?_ | refine Vb ?_ | refine Vc ?_ | refine Vd ?_ | refine Ve ?_ | refine Vf ?_); (try simp only [go_sem, hP, gown_grid, gown_row hn, Row.ob_box, gridOb, Ob.isBox, refs_get hn, irefs_glen, Int.toNat_zero, Nat.mul_one, Nat.zero_add, Nat.zero_mul, Nat.add_zero, hn, Int.ofNat_lt, Int.natCast_nonneg, ← hw0]); (repeat refine qJ ?_)))
 cases b
 ·(refine WV_cond rfl (fun h => ?_) (fun h => ?_))
  ·simp at h
  ·refine WV_skip ?_
   refine WV_sub ?_ rest
   simp only [manyL]
   exact Sub_of (by simp only [go_sem]; exact EnvLe_au) (ObLe_gown (by exact ObjLe_au))
 ·(refine WV_cond rfl (fun h => ?_) (fun h => ?_))
  ·(refine WV_op ?_; simp only [go_sem, hP, gown_grid, gridOb, Ob.isBox]; (repeat refine qJ ?_))
   refine WV_sub ?_ rest
   simp only [manyL, gi_len]
   exact Sub_of (by simp only [go_sem]; exact EnvLe_au) (ObLe_gown (by exact ObjLe_au))
  ·simp at h
set_option maxHeartbeats 4000000 in
theorem marks62L {R : List IRow} (h : GOk (gi R)) {j cap : Nat} : FSpecL Tryd.prog 62 [.vw 1 1000 0 R.length cap] (gridL icds 1 R j) [] (fun r l' => r = .c (marksC (marksG (gi R) R.length)) ∧ l' = gridL icds 1 R j) := by
 have hmax : maxLen = 9223372036854775807 := rfl
 have hn : 0 < R.length := by have := h.pos; rwa [gi_len] at this
 have hl := h.len
 rw [gi_len] at hl
 have h1 := h.wd
 have hG : GOk (gi R) := h
 refine enterG W.c62 (by omega) (Nat.le_refl _) (by decide) (by decide) fun C hP hN hC hL => ?_; rw [init_env']; simp only [W.ir62, updL, Nat.reduceAdd]
 (repeat ((first | refine Va ?_ | refine Vb ?_ | refine Vc ?_ | refine Vd ?_ | refine Ve ?_ | refine Vf ?_); (try simp only [go_sem, hP]); (repeat refine qJ ?_)))
 refine WV_nilslot 3 23 31 2 (by decide) (by decide) (by rw [gown_lo (by decide)]; rfl) rfl ?_
 rw [prgO_gown (by decide), gown_upd (by decide)]
 simp only [go_sem]
 refine WV_loopS (fun k : Nat => ⟨upd (upd (upd e0 0 (.vw 1 1000 0 R.length cap)) 4 (iv k)) 3 (.gr 23), gown icds 1 R j (upd o0 23 (.grow 31 2 ((marksG (gi R) k).map mcd)))⟩) (fun k => k ≤ R.length) (fun k => R.length - k) 0 (Nat.zero_le _) ?_ ?_
 ·exact Sub_of (by ((repeat' (first | exact EnvLe_e0 _ _ | refine EnvLe_upd ?_ ?_)) <;> ((try simp only [upd_app, e0_app, o0_app, Nat.reduceEqDiff, reduceIte]); first | exact AWk.refl _ _ | exact AWk.int (by omega) | exact AWk.int (by rw [w64 (by omega) (by omega)]; omega) | exact AWk.grow rfl | exact AWk.nil _ | exact AWk.of (by simp [marksG])))) (ObLe_gown (by exact ObjLe_au))
 ·intro k hk
  (repeat ((first | refine Va ?_ | refine Vb ?_ | refine Vc ?_ | refine Vd ?_ | refine Ve ?_ | refine Vf ?_); (try simp only [go_sem, hP, gown_grid, gridOb, Ob.isBox]); (repeat refine qJ ?_)))
  (refine WV_cond rfl (fun h => ?_) (fun h => ?_))
  ·have hk2 : k < R.length := by simpa using h
   have hw2 := w64 (n := (k : Int) + 1) (by omega) (by omega)
   have hsn := marksG_succ (gi R) k
   have hml := marksG_len (gi R) k
   have hll := lost_len (g := gi R) k
   have hmul : k * wid (gi R) ≤ 41 * 32 := Nat.mul_le_mul (by omega) h1
   have n1 := mcd_two (marksG (gi R) k)
   have n2 := mcd_two (lostL (gi R) (lineP (gi R) k true))
   (repeat ((first | refine Va ?_ | refine Vb ?_ | refine Vc ?_ | refine Vd ?_ | refine Ve ?_ | refine Vf ?_); (try simp only [go_sem, hP]); (repeat refine qJ ?_)))
   (refine AS_grid (line58L (j := j) (cap := cap) hG k true) rfl rfl rfl (by simp only [List.map_cons, List.map_nil, List.append_nil]; simp only [go_sem, AV.lendL, lend_grid, AV.lend]) ?_; rintro r l' ⟨rfl, rfl⟩; refine ⟨R, rfl, rfl, rfl, ?_⟩; simp only [go_sem, hP]; (repeat refine qJ ?_); (repeat ((first | refine Va ?_ | refine Vb ?_ | refine Vc ?_ | refine Vd ?_ | refine Ve ?_ | refine Vf ?_); (try simp only [go_sem, hP]); (repeat refine qJ ?_))))
   (refine AS_grid (lacksLL (j := j) (cap := cap) (n := k) (b := true) hG (by unfold manyL; rw [if_pos rfl, gi_len]; exact hk2)) rfl rfl rfl (by simp only [List.map_cons, List.map_nil, List.append_nil]; simp only [go_sem, AV.lendL, lend_grid, AV.lend]) ?_; rintro r l' ⟨rfl, rfl⟩; refine ⟨R, rfl, rfl, rfl, ?_⟩; simp only [go_sem, hP, marksC, List.length_map, n1, n2, hw2, gown_lo, gown_upd, prgO_gown]; (repeat refine qJ ?_); (repeat ((first | refine Va ?_ | refine Vb ?_ | refine Vc ?_ | refine Vd ?_ | refine Ve ?_ | refine Vf ?_); (try simp only [go_sem, hP, marksC, List.length_map, n1, n2, hw2, gown_lo, gown_upd, prgO_gown]); (repeat refine qJ ?_))))
   refine ⟨k + 1, by omega, by omega, ?_⟩
   rw [hsn, List.map_append]
   exact Sub_of (by exact EnvLe_au) (ObLe_gown (by exact ObjLe_au))
  ·have hk3 : k = R.length := by simp at h; omega
   subst hk3
   (repeat ((first | refine Va ?_ | refine Vb ?_ | refine Vc ?_ | refine Vd ?_ | refine Ve ?_ | refine Vf ?_); (try simp only [go_sem, hP, gown_lo]); (repeat refine qJ ?_)))
   (refine WV_ret ?_; simp only [thenQ, inQ, RetQL, RetOkL, resAll, resA]; simp only [go_sem, tupA, AV.keepP, AV.keepPL, gown_lo]; refine ⟨_, gridL icds 1 R j, rfl, KeepL_grid rfl (by omega), ?_⟩)
   exact ⟨rfl, rfl⟩
end Go.Proofs.YtlmfdmlochpfcaaDoor

namespace Go.Proofs.YtlmfdmlochpfcaaDoor
open Go Go.V
theorem line_lack {g G : List (List Int)} {l : List (Nat × Nat)} {p : Nat × Nat} (hlo : lostL g l = [p]) (ha : ∀ m ∈ l, valAt g m ≠ -1 → valAt g m = valAt G m) (hv : 0 ≤ valAt G p ∧ valAt G p < 94) (hz : lackL G l = 0) : lackL g l = valAt G p := by
 obtain ⟨A, q, B, e, hA, hB, hq, hlo2⟩ := lost_one (g := g) (ps := l) (by rw [hlo]; rfl)
 rw [hlo] at hlo2
 simp only [List.cons.injEq, and_true] at hlo2
 subst hlo2
 have hA2 : sumL g A = sumL G A := sumL_congr fun m hm => ha m (by rw [e]; simp [hm]) (hA m hm)
 have hB2 : sumL g B = sumL G B := sumL_congr fun m hm => ha m (by rw [e]; simp [hm]) (hB m hm)
 have hf' : valAt G p ≠ -1 := by omega
 unfold lackL at hz ⊢
 rw [e, sumL_app, sumL_cons] at hz ⊢
 rw [if_pos hq, hA2, hB2]
 rw [if_neg hf'] at hz
 omega
theorem setG_setG (g : List (List Int)) (p : Nat × Nat) (u v : Int) : setG (setG g p u) p v = setG g p v := by
 unfold setG
 by_cases h : p.1 < g.length
 ·rw [List.getD_eq_getElem?_getD (l := g.set _ _), List.getElem?_set_self h, Option.getD_some, List.set_set, List.set_set]
 ·rw [List.set_eq_of_length_le (by simp; omega), List.set_eq_of_length_le (by omega), List.set_eq_of_length_le (by omega)]
def goodV (g : List (List Int)) : Bool := (badL g true (manyL g true)).length + (badL g false (manyL g false)).length == 0
def all94 : List Nat := List.range 94
def wrongRN (g : List (List Int)) : (Nat × Nat) × List UInt8 × Int :=
 if (badL g true (manyL g true)).length + (badL g false (manyL g false)).length = 0 then ((0, 0), [], 3)
 else if (badL g true (manyL g true)).length ≠ 1 ∨ (badL g false (manyL g false)).length ≠ 1 then ((0, 0), [], 142)
 else match all94.find? (fun v : Nat => goodV (setG g ((badL g true (manyL g true)).getD 0 0, (badL g false (manyL g false)).getD 0 0) v)) with
  | some v => (((badL g true (manyL g true)).getD 0 0, (badL g false (manyL g false)).getD 0 0), textG (bytesG (setG g ((badL g true (manyL g true)).getD 0 0, (badL g false (manyL g false)).getD 0 0) v)), 0)
  | none => ((0, 0), [], 142)
def wrongR (s : List UInt8) : (Nat × Nat) × List UInt8 × Int := match parseP s with
 | none => ((0, 0), [], 140)
 | some rows => if (marksG (valsG rows) rows.length).length ≠ 0 then ((0, 0), [], 141) else wrongRN (valsG rows)
theorem range_map_get {α : Type} (f : Nat → α) (n i : Nat) (d : α) (h : i < n) : ((List.range n).map f).getD i d = f i := by
 rw [List.getD_eq_getElem?_getD, List.getElem?_map, List.getElem?_range h]; rfl
theorem wrongB_bad {n w : Nat} {g : List (List Int)} (hn : g.length = n) (hw : wid g = w) (b : Bool) : wrongB n w g b = badL g b (manyL g b) := by
 have key : ∀ (f : Nat → List (Nat × Nat)) (k : Nat), (∀ i, i < k → f i = lineP g i b) → wrngL g ((List.range k).map f) k = badL g b k := by
  intro f k hf
  unfold wrngL badL
  refine List.filter_congr fun i hi => ?_
  have hi := List.mem_range.1 hi
  rw [range_map_get _ _ _ _ hi, hf i hi]
  have := (lack_rng g (lineP g i b)).1
  rw [Bool.eq_iff_iff]
  simp only [decide_eq_true_eq, Bool.not_eq_true', beq_eq_false_iff_ne, ne_eq]
  omega
 have hl : ∀ i, posL n w i b = lineP g i b := fun i => by rw [line_pos, hn, hw]
 unfold wrongB manyL allP
 cases b
 ·rw [if_neg (by decide), if_neg (by decide)]
  have e : ((List.range n).map (fun i => posL n w i true) ++ (List.range w).map fun k => posL n w k false).drop n = (List.range w).map fun k => posL n w k false := by
   rw [List.drop_append_of_le_length (by simp), List.drop_of_length_le (by simp), List.nil_append]
  rw [e, hw, List.length_map, List.length_range]
  exact key _ _ fun i _ => hl i
 ·rw [if_pos rfl, if_pos rfl]
  have e : ((List.range n).map (fun i => posL n w i true) ++ (List.range w).map fun k => posL n w k false).take n = (List.range n).map fun k => posL n w k true := by
   rw [List.take_append_of_le_length (by simp), List.take_of_length_le (by simp)]
  rw [e, hn, List.length_map, List.length_range]
  exact key _ _ fun i _ => hl i
theorem good_iff {n w : Nat} {g : List (List Int)} (hn : g.length = n) (hw : wid g = w) : goodV g = true ↔ ∀ l ∈ allP n w, lackL g l = 0 := by
 unfold goodV
 rw [beq_iff_eq, ← noLack_iff hn hw]
 unfold noLack
 rw [List.all_eq_true]
 simp
theorem wrngL_nil {g : List (List Int)} {LL : List (List (Nat × Nat))} : ¬ 0 < (wrngL g LL LL.length).length ↔ ∀ l ∈ LL, lackL g l = 0 := by
 have e : ¬ 0 < (wrngL g LL LL.length).length ↔ wrngL g LL LL.length = [] := by rw [List.length_pos_iff]; simp
 rw [e]
 unfold wrngL
 rw [List.filter_eq_nil_iff]
 constructor
 ·intro h l hl
  obtain ⟨i, hi, rfl⟩ := List.getElem_of_mem hl
  have := h i (List.mem_range.2 hi)
  rw [List.getD_eq_getElem?_getD, List.getElem?_eq_getElem hi] at this
  have h2 := (lack_rng g LL[i]).1
  simp at this
  omega
 ·intro h i hi
  have hi := List.mem_range.1 hi
  rw [List.getD_eq_getElem?_getD, List.getElem?_eq_getElem hi, Option.getD_some, h _ (List.getElem_mem hi)]
  simp
theorem badL_lt {g : List (List Int)} {b : Bool} {k i : Nat} (h : i < (badL g b k).length) : (badL g b k).getD i 0 < k := by
 have : (badL g b k).getD i 0 ∈ badL g b k := by rw [List.getD_eq_getElem?_getD, List.getElem?_eq_getElem h]; exact List.getElem_mem h
 unfold badL at this
 simp only [List.mem_filter, List.mem_range] at this
 exact this.1
theorem good_val {n w : Nat} {g : List (List Int)} (hg : GOw n w g) (hno : ∀ i k, i < n → k < w → valAt g (i, k) ≠ -1) {a c : Nat} (ha : a < n) (hc : c < w) (h0 : 0 < n) {v : Int} (hv : 0 ≤ v ∧ v < 94) (h : ∀ l ∈ allP n w, lackL (setG g (a, c) v) l = 0) : v = lackL (setG g (a, c) (-1)) (posL n w a true) := by
 have hin : (a, c).1 < g.length ∧ (a, c).2 < (g.getD (a, c).1 []).length := ⟨by rw [hg.len]; exact ha, by simp only; rw [hg.row a ha]; exact hc⟩
 have hval : ∀ u q, valAt (setG g (a, c) u) q = if (a, c) = q then u else valAt g q := by
  intro u q
  rw [valAt_set]
  by_cases hq : (a, c) = q
  ·rw [if_pos ⟨hq, hin⟩, if_pos hq]
  ·rw [if_neg (fun h => hq h.1), if_neg hq]
 have hlo : lostL (setG g (a, c) (-1)) (posL n w a true) = [(a, c)] := by
  unfold lostL posL
  simp only [if_true]
  rw [List.filter_map]
  have : (List.range w).filter ((fun m => valAt (setG g (a, c) (-1)) m == -1) ∘ fun k => (a, k)) = (List.range w).filter (fun k => k == c) := by
   apply List.filter_congr
   intro k hk
   have hk := List.mem_range.1 hk
   simp only [Function.comp]
   rw [hval]
   by_cases hkc : k = c
   ·subst hkc; rw [if_pos rfl]; simp
   ·rw [if_neg (fun h => hkc (Prod.mk.inj h).2.symm)]
    have h3 := hno a k ha hk
    have : (k == c) = false := by simpa using hkc
    rw [this]; simpa using h3
  rw [this, filter_one hc]; rfl
 have := line_lack (G := setG g (a, c) v) hlo (fun m hm hne => ?_) (by rw [hval, if_pos rfl]; exact hv) (h _ (allP_mem.2 (.inl ⟨a, ha, rfl⟩)))
 ·rw [this, hval, if_pos rfl]
 ·rw [hval] at hne ⊢
  rw [hval]
  by_cases hm2 : (a, c) = m
  ·rw [if_pos hm2] at hne; exact (hne rfl).elim
  ·rw [if_neg hm2, if_neg hm2]
theorem find_some_of {p : Nat → Bool} {m k : Nat} (hk : k < m) (hp : p k = true) (hu : ∀ i, i < m → p i = true → i = k) : (List.range m).find? p = some k := by
 cases hf : (List.range m).find? p with
 | none =>
  rw [List.find?_eq_none] at hf
  exact (hf k (List.mem_range.2 hk) hp).elim
 | some i =>
  have h1 := List.find?_some hf
  have h2 := List.mem_of_find?_eq_some hf
  rw [hu i (List.mem_range.1 h2) h1]
theorem wrongN_eq {n w : Nat} {g : List (List Int)} (hg : GOw n w g) (hw : wid g = w) (h0 : 0 < n) (hno : ∀ i k, i < n → k < w → valAt g (i, k) ≠ -1) : wrongN n w g = wrongRN g := by
 unfold wrongN wrongRN all94
 rw [wrongB_bad hg.len hw true, wrongB_bad hg.len hw false]
 split
 ·rfl
 split
 ·rfl
 rename_i h1 h2
 have ha : (badL g true (manyL g true)).getD 0 0 < n := by
  have := badL_lt (g := g) (b := true) (k := manyL g true) (i := 0) (by omega)
  unfold manyL at this ⊢; rw [if_pos rfl] at this ⊢; rw [hg.len] at this ⊢; exact this
 have hc : (badL g false (manyL g false)).getD 0 0 < w := by
  have := badL_lt (g := g) (b := false) (k := manyL g false) (i := 0) (by omega)
  unfold manyL at this ⊢; rw [if_neg (by decide)] at this ⊢; rw [hw] at this ⊢; exact this
 generalize (badL g true (manyL g true)).getD 0 0 = a at ha ⊢
 generalize (badL g false (manyL g false)).getD 0 0 = c at hc ⊢
 have hlr := lack_rng (setG g (a, c) (-1)) (posL n w a true)
 have hm : mendAt n w g (a, c) = setG g (a, c) (lackL (setG g (a, c) (-1)) (posL n w a true)) := by unfold mendAt; rw [setG_setG]
 have hshape : ∀ v : Int, -1 ≤ v ∧ v < 94 → (setG g (a, c) v).length = n ∧ wid (setG g (a, c) v) = w := fun v hv => by
  have := setG_ok hg (a, c) hv
  refine ⟨this.len, ?_⟩
  unfold wid; exact this.row 0 h0
 obtain ⟨k, hk⟩ : ∃ k : Nat, lackL (setG g (a, c) (-1)) (posL n w a true) = k := ⟨(lackL (setG g (a, c) (-1)) (posL n w a true)).toNat, by omega⟩
 rw [hk] at hm hlr
 have hu : ∀ i : Nat, i < 94 → goodV (setG g (a, c) i) = true → i = k := by
  intro i hi hgood
  obtain ⟨s1, s2⟩ := hshape i (by omega)
  have := good_val hg hno ha hc h0 (v := i) (by omega) ((good_iff s1 s2).1 hgood)
  rw [hk] at this
  omega
 obtain ⟨s1, s2⟩ := hshape k (by omega)
 rw [hm]
 by_cases hgood : goodV (setG g (a, c) k) = true
 ·rw [if_neg (wrngL_nil.2 ((good_iff s1 s2).1 hgood)), find_some_of (k := k) (by omega) hgood hu]
 ·rw [if_pos (Decidable.not_not.1 fun h => hgood ((good_iff s1 s2).2 (wrngL_nil.1 h)))]
  have : (List.range 94).find? (fun v : Nat => goodV (setG g (a, c) v)) = none := by
   rw [List.find?_eq_none]
   intro i hi hp
   have := hu i (List.mem_range.1 hi) hp
   subst this
   exact hgood hp
  rw [this]
theorem wrong_eq (s : List UInt8) : wrongG s = wrongR s := by
 unfold wrongG wrongR
 cases hq : parseP s with
 | none => rfl
 | some rows =>
  obtain ⟨rfl, hok⟩ := parse_is hq
  have hw := vals_wid hok
  have hgw := vals_gow hok
  simp only
  generalize (rows.headD []).length = w at hok hw hgw ⊢
  have hm := marks_iff (n := rows.length) (g := valsG rows)
  rw [hw] at hm
  by_cases hc : (textG rows).contains 63 = true
  ·rw [if_pos hc, if_pos]
   intro h0
   have hno := hm.1 h0
   have hmem : (63 : UInt8) ∈ textG rows := by simpa using hc
   rcases text_mem hmem with h | ⟨l, hl, h⟩
   ·cases h
   ·obtain ⟨i, hi, rfl⟩ := List.getElem_of_mem hl
    obtain ⟨k, hk, he⟩ := List.getElem_of_mem h
    have hkw : k < w := by have := hok.row _ hl; omega
    refine hno i k hi hkw ?_
    unfold valAt valsG
    simp only
    rw [map_getD hi, map_getD hk, he]
    exact (by decide : vq 63 = -1)
  ·have hno : ∀ i k, i < rows.length → k < w → valAt (valsG rows) (i, k) ≠ -1 := by
    intro i k hi hk hv
    have hl := List.getElem_mem hi
    have hlen := hok.row _ hl
    have hk' : k < (rows[i]).length := by omega
    have e : valAt (valsG rows) (i, k) = vq (rows[i])[k] := by
     unfold valAt valsG
     simp only
     rw [map_getD hi, map_getD hk']
    rw [e] at hv
    have h63 := (vq_lost (hok.byte _ hl _ (List.getElem_mem hk'))).1 hv
    have hmm := parse_mem hq _ hl _ (List.getElem_mem hk')
    have : (rows[i])[k] = 63 := UInt8.toNat_inj.1 h63
    rw [this] at hmm
    exact hc (by simpa using hmm)
   rw [if_neg hc, if_neg (by rw [hm.2 hno]; simp)]
   exact wrongN_eq hgw hw hok.pos hno
end Go.Proofs.YtlmfdmlochpfcaaDoor

namespace Go.Proofs.YtlmfdmlochpfcaaDoor
open Go Go.V
abbrev o29_0 : List Ins := [⟨(some 2), .alloc [(.c (.int .i64 0)), (.c (.int .i64 0))], none, true⟩,
 ⟨(some 3), .mv (.k (.c (.str []))), none, true⟩,
 ⟨(some 4), .mv (.k (.c (.int .i64 0))), none, true⟩]
abbrev o29_1 : List Ins := [⟨(some 11), .mv (.t 0), none, true⟩,
 ⟨(some 12), .call (.k (.fn 61 [])) [(.t 11)], none, true⟩,
 ⟨(some 10), .mv (.t 12), none, true⟩,
 ⟨(some 13), .ext (.t 10) 0, none, true⟩,
 ⟨(some 14), .ext (.t 10) 1, none, true⟩,
 ⟨(some 5), .mv (.t 13), none, true⟩,
 ⟨(some 6), .mv (.t 14), none, true⟩]
abbrev o29_2 : List Ins := [⟨(some 15), .mv (.t 6), none, true⟩,
 ⟨(some 16), .un .not (.t 15), none, true⟩]
abbrev o29_3 : List Ins := [⟨(some 17), .bld [(.c (.int .i64 0)), (.c (.int .i64 0))] [], none, true⟩,
 ⟨none, .st 2 (.t 2) (.t 17), none, true⟩,
 ⟨(some 3), .mv (.k (.c (.str []))), none, true⟩,
 ⟨(some 4), .mv (.k (.c (.int .i64 140))), none, true⟩]
abbrev v29_4 : VC := (.seq (.ops o29_3) .ret)
abbrev v29_5 : VC := (.cond (.t 16) v29_4 .skip)
abbrev o29_6 : List Ins := [⟨(some 18), .mv (.t 5), none, true⟩,
 ⟨(some 19), .call (.k (.fn 62 [])) [(.t 18)], none, true⟩,
 ⟨(some 20), .len (.t 19), none, true⟩,
 ⟨(some 21), .bin .gtr (.t 20) (.k (.c (.int .i64 0))), none, true⟩]
abbrev o29_7 : List Ins := [⟨(some 22), .bld [(.c (.int .i64 0)), (.c (.int .i64 0))] [], none, true⟩,
 ⟨none, .st 2 (.t 2) (.t 22), none, true⟩,
 ⟨(some 3), .mv (.k (.c (.str []))), none, true⟩,
 ⟨(some 4), .mv (.k (.c (.int .i64 141))), none, true⟩]
abbrev v29_8 : VC := (.seq (.ops o29_7) .ret)
abbrev v29_9 : VC := (.cond (.t 21) v29_8 .skip)
abbrev o29_10 : List Ins := [⟨(some 23), .mv (.t 5), none, true⟩,
 ⟨(some 24), .call (.k (.fn 63 [])) [(.t 23), (.k (.c (.bool true)))], none, true⟩,
 ⟨(some 25), .mv (.t 5), none, true⟩,
 ⟨(some 26), .call (.k (.fn 63 [])) [(.t 25), (.k (.c (.bool false)))], none, true⟩,
 ⟨(some 7), .mv (.t 24), none, true⟩,
 ⟨(some 8), .mv (.t 26), none, true⟩]
abbrev o29_11 : List Ins := [⟨(some 27), .mv (.t 7), none, true⟩,
 ⟨(some 28), .len (.t 27), none, true⟩,
 ⟨(some 29), .mv (.t 8), none, true⟩,
 ⟨(some 30), .len (.t 29), none, true⟩,
 ⟨(some 31), .bin .add (.t 28) (.t 30), none, true⟩,
 ⟨(some 32), .bin .eql (.t 31) (.k (.c (.int .i64 0))), none, true⟩]
abbrev o29_12 : List Ins := [⟨(some 33), .bld [(.c (.int .i64 0)), (.c (.int .i64 0))] [], none, true⟩,
 ⟨none, .st 2 (.t 2) (.t 33), none, true⟩,
 ⟨(some 3), .mv (.k (.c (.str []))), none, true⟩,
 ⟨(some 4), .mv (.k (.c (.int .i64 3))), none, true⟩]
abbrev v29_13 : VC := (.seq (.ops o29_12) .ret)
abbrev v29_14 : VC := (.cond (.t 32) v29_13 .skip)
abbrev o29_15 : List Ins := [⟨(some 34), .mv (.t 7), none, true⟩,
 ⟨(some 35), .len (.t 34), none, true⟩,
 ⟨(some 36), .bin .neq (.t 35) (.k (.c (.int .i64 1))), none, true⟩,
 ⟨(some 37), .mv (.t 36), none, true⟩,
 ⟨(some 38), .mv (.t 8), (some (37, false)), true⟩,
 ⟨(some 39), .len (.t 38), (some (37, false)), true⟩,
 ⟨(some 40), .bin .neq (.t 39) (.k (.c (.int .i64 1))), (some (37, false)), true⟩,
 ⟨(some 41), .pick (.t 37) (.k (.c (.bool true))) (.t 40), none, true⟩]
abbrev o29_16 : List Ins := [⟨(some 42), .bld [(.c (.int .i64 0)), (.c (.int .i64 0))] [], none, true⟩,
 ⟨none, .st 2 (.t 2) (.t 42), none, true⟩,
 ⟨(some 3), .mv (.k (.c (.str []))), none, true⟩,
 ⟨(some 4), .mv (.k (.c (.int .i64 142))), none, true⟩]
abbrev v29_17 : VC := (.seq (.ops o29_16) .ret)
abbrev v29_18 : VC := (.cond (.t 41) v29_17 .skip)
abbrev o29_19 : List Ins := [⟨(some 43), .mv (.t 7), none, false⟩,
 ⟨(some 44), .ia 1 (.t 43) (.k (.c (.int .i64 0))), none, false⟩,
 ⟨(some 45), .ld true 1 (.t 44), none, false⟩,
 ⟨(some 46), .mv (.t 8), none, false⟩,
 ⟨(some 47), .ia 1 (.t 46) (.k (.c (.int .i64 0))), none, false⟩,
 ⟨(some 48), .ld true 1 (.t 47), none, false⟩,
 ⟨(some 49), .bld [(.c (.int .i64 0)), (.c (.int .i64 0))] [(0, 1, (.t 45)), (1, 1, (.t 48))], none, true⟩,
 ⟨none, .st 2 (.t 2) (.t 49), none, true⟩]
abbrev o29_20 : List Ins := [⟨(some 9), .mv (.k (.c (.int .i64 0))), none, true⟩]
abbrev o29_21 : List Ins := [⟨(some 50), .mv (.t 9), none, true⟩,
 ⟨(some 51), .bin .lss (.t 50) (.k (.c (.int .i64 94))), none, true⟩]
abbrev v29_22 : VC := (.cond (.t 51) .skip (.exit 0))
abbrev o29_23 : List Ins := [⟨(some 54), .mv (.t 5), none, false⟩,
 ⟨(some 55), .fa 0 (.t 2), none, false⟩,
 ⟨(some 56), .ld true 1 (.t 55), none, false⟩,
 ⟨(some 57), .ia 1 (.t 54) (.t 56), none, false⟩,
 ⟨(some 58), .ld true 1 (.t 57), none, false⟩,
 ⟨(some 59), .fa 1 (.t 2), none, false⟩,
 ⟨(some 60), .ld true 1 (.t 59), none, false⟩,
 ⟨(some 61), .mv (.t 9), none, false⟩,
 ⟨(some 62), .ia 1 (.t 58) (.t 60), none, true⟩,
 ⟨none, .st 1 (.t 62) (.t 61), none, true⟩]
abbrev o29_24 : List Ins := [⟨(some 63), .mv (.t 5), none, true⟩,
 ⟨(some 64), .call (.k (.fn 63 [])) [(.t 63), (.k (.c (.bool true)))], none, true⟩,
 ⟨(some 65), .len (.t 64), none, true⟩,
 ⟨(some 66), .mv (.t 5), none, true⟩,
 ⟨(some 67), .call (.k (.fn 63 [])) [(.t 66), (.k (.c (.bool false)))], none, true⟩,
 ⟨(some 68), .len (.t 67), none, true⟩,
 ⟨(some 69), .bin .add (.t 65) (.t 68), none, true⟩,
 ⟨(some 70), .bin .eql (.t 69) (.k (.c (.int .i64 0))), none, true⟩]
abbrev o29_25 : List Ins := [⟨(some 71), .ld false 2 (.t 2), none, false⟩,
 ⟨(some 72), .mv (.t 5), none, false⟩,
 ⟨(some 73), .call (.k (.fn 59 [])) [(.t 72)], none, false⟩,
 ⟨none, .st 2 (.t 2) (.t 71), none, true⟩,
 ⟨(some 3), .mv (.t 73), none, true⟩,
 ⟨(some 4), .mv (.k (.c (.int .i64 0))), none, true⟩]
abbrev v29_26 : VC := (.seq (.dops o29_25) .ret)
abbrev v29_27 : VC := (.cond (.t 70) v29_26 .skip)
abbrev v29_28 : VC := (.seq (.ops o29_24) v29_27)
abbrev v29_29 : VC := (.seq (.dops o29_23) v29_28)
abbrev o29_30 : List Ins := [⟨(some 52), .mv (.t 9), none, true⟩,
 ⟨(some 53), .bin .add (.t 52) (.k (.c (.int .i64 1))), none, true⟩,
 ⟨(some 9), .mv (.t 53), none, true⟩]
abbrev v29_31 : VC := (.seq (.block 1 v29_29) (.ops o29_30))
abbrev v29_32 : VC := (.seq (.seq (.ops o29_21) v29_22) v29_31)
-- K29_1: changed and kept: [9]
abbrev v29_33 : VC := (.loop v29_32)
abbrev v29_34 : VC := (.block 0 v29_33)
abbrev o29_35 : List Ins := [⟨(some 74), .bld [(.c (.int .i64 0)), (.c (.int .i64 0))] [], none, true⟩,
 ⟨none, .st 2 (.t 2) (.t 74), none, true⟩,
 ⟨(some 3), .mv (.k (.c (.str []))), none, true⟩,
 ⟨(some 4), .mv (.k (.c (.int .i64 142))), none, true⟩]
abbrev v29_36 : VC := (.seq (.ops o29_35) .ret)
abbrev v29_37 : VC := (.seq (.seq (.ops o29_20) v29_34) v29_36)
abbrev v29_38 : VC := (.seq (.dops o29_19) v29_37)
abbrev v29_39 : VC := (.seq (.seq (.ops o29_15) v29_18) v29_38)
abbrev v29_40 : VC := (.seq (.seq (.ops o29_11) v29_14) v29_39)
abbrev v29_41 : VC := (.seq (.ops o29_10) v29_40)
abbrev v29_42 : VC := (.seq (.seq (.ops o29_6) v29_9) v29_41)
abbrev v29_43 : VC := (.seq (.seq (.ops o29_2) v29_5) v29_42)
abbrev v29_44 : VC := (.seq (.ops o29_1) v29_43)
def ir29 : FC := ⟨1, 75, [.cell 2 false 2, .t 3, .t 4], (.seq (.ops o29_0) v29_44)⟩
theorem c29 : compM Tryd.prog [] 29 = some ir29 := by kernel_rfl
attribute [local go_sem] Nat.reduceEqDiff Nat.reduceAdd Nat.reduceMul reduceIte Nat.reduceLeDiff Nat.reduceLT Nat.reduceBEq reduceCtorEq
theorem back_parse2 {R : List IRow} {cap : Nat} : (AV.tup [.vw 1 1000 0 R.length cap, bv true]).back (gnum R.length) = some (.tup [.vw 1 1000 0 R.length cap, bv true]) := by
 rw [AV.back]
 simp only [AV.backL]
 rw [back_vw]; rfl
theorem find_next {p : Nat → Bool} {v : Nat} (h : ∀ u, u < v → p u = false) (hp : p v = true) (hv : v < 94) : all94.find? p = some v := by
 unfold all94
 have := find_at (p := p) (l := List.range 94) (i := v) (by simpa using hv) (fun k hk hkv => by simpa using h k hkv) (by simpa using hp)
 rw [this]; simp
set_option maxRecDepth 20000 in
set_option maxHeartbeats 16000000 in
theorem wrong29 (s : List UInt8) (hs : s.length ≤ 100000) : FSpec Tryd.prog 29 [sv s] (.tup [.agg [iv (wrongR s).1.1, iv (wrongR s).1.2], .c (.str (wrongR s).2.1), iv (wrongR s).2.2]) := by
 have hmax : maxLen = 9223372036854775807 := rfl
 cases hp : parseP s with
 | none =>
  have hpa := parse61D s hs
  have hwh : wrongR s = ((0, 0), [], 140) := by unfold wrongR; rw [hp]
  rw [hwh]
  rw [retR_none hp] at hpa
  generalize (retR s).1 = ga at hpa
  refine FSpec_ofP c29 (Nat.le_refl _) (by decide) fun C hP hN hC hpin hL => ?_; rw [init_st]
  simp only [ir29]
  (repeat ((first | refine Va ?_ | refine Vb ?_ | refine Vc ?_ | refine Vd ?_ | refine Ve ?_ | refine Vf ?_); (try simp only [go_sem, hP]); (repeat refine qJ ?_)))
  (refine AS_pu (hpa) ?_; simp only [go_sem, hP]; (repeat refine qJ ?_); (repeat ((first | refine Va ?_ | refine Vb ?_ | refine Vc ?_ | refine Vd ?_ | refine Ve ?_ | refine Vf ?_); (try simp only [go_sem, hP]); (repeat refine qJ ?_))))
  (refine WV_cond rfl (fun h => ?_) (fun h => ?_))
  ·(repeat ((first | refine Va ?_ | refine Vb ?_ | refine Vc ?_ | refine Vd ?_ | refine Ve ?_ | refine Vf ?_); (try simp only [go_sem, hP]); (repeat refine qJ ?_)))
   (refine WV_ret ?_; simp only [thenQ, inQ, RetQ, RetOk, resAll, resA]; simp only [go_sem, tupA, AV.port, AV.portL, exists_eq_left'])
   exact AVle.refl _
  ·simp at h
 | some rows =>
  have hwh : wrongR s = if (marksG (valsG rows) rows.length).length ≠ 0 then ((0, 0), [], 141) else wrongRN (valsG rows) := by unfold wrongR; rw [hp]
  obtain ⟨rfl, hok⟩ := parse_is hp
  rw [hwh]
  have hpa := parse61N hok
  have hgo := vals_gow hok
  have hwd := vals_wid hok
  have hw2 := hok.w2
  have hw32 := hok.w32
  have hlen := hok.len
  have hpos := hok.pos
  generalize (rows.headD []).length = w at hok hpa hgo hwd hw2 hw32
  refine FSpec_ofP c29 (Nat.le_refl _) (by decide) fun C hP hN hC hpin hL => ?_; rw [init_st]
  simp only [ir29]
  refine WV_seq_ ?_
  (refine WV_op ?_; simp only [go_sem, hP]; (repeat refine qJ ?_))
  refine WV_seq_ ?_
  (refine WV_split 1 ?_; simp only [List.take_succ_cons, List.take_zero, List.take_nil, List.drop_succ_cons, List.drop_zero, List.drop_nil]; simp only [go_sem, hP]; (repeat refine qJ ?_))
  rw [← hP] at hpa
  refine SOps_newG (cds := icds) hpa hpin rfl rfl rfl rfl (fun n hn => ?_) (fun n hn => ?_) (fun r os hpo => .inr ?_)
  ·obtain ⟨k, rfl⟩ : ∃ k, n = k + 1000 := ⟨n - 1000, by omega⟩
   simp only [prgE_upd', prgE_e0, AV.prg, ne_add (show (2 : Nat) < 1000 by decide), if_false]
  ·refine ⟨?_, by simp only [upd_app, o0_app]; rw [if_neg (by omega)]⟩
   simp only [prgO_upd, prgO_o0, Ob.prg, AV.prg, AV.prgL]
  obtain ⟨R, j, cap, hR, c1, c2, rfl, rfl⟩ := hpo
  refine ⟨R, j, _, rfl, back_parse2, ?_⟩
  (refine SOps_ops ?_; simp only [go_sem, hP]; (repeat refine qJ ?_))
  have hRl : R.length = rows.length := by rw [← gi_len, hR, vals_len]
  rw [← hR, ← hRl] at hgo
  rw [← hR] at hwd
  rw [← hR, ← hRl]
  rw [← hRl] at hpos hlen
  have hG : GOk (gi R) := (hgo.gok hpos hlen hw32).1
  have hm41 : manyL (gi R) true ≤ 41 := by unfold manyL; rw [if_pos rfl, gi_len]; omega
  have hm32 : manyL (gi R) false ≤ 41 := by unfold manyL; rw [if_neg (by decide)]; omega
  refine WV_seq_ (WV_seq_ ?_)
  (refine WV_op ?_; simp only [go_sem, hP]; (repeat refine qJ ?_))
  (refine WV_cond rfl (fun h => ?_) (fun h => ?_))
  ·simp at h
  (repeat ((first | refine Va ?_ | refine Vb ?_ | refine Vc ?_ | refine Vd ?_ | refine Ve ?_ | refine Vf ?_); (try simp only [go_sem, hP]); (repeat refine qJ ?_)))
  (refine AS_grid (marks62L (j := j) (cap := cap) hG) rfl rfl rfl (by simp only [List.map_cons, List.map_nil, List.append_nil]; simp only [go_sem, AV.lendL, lend_grid, AV.lend]) ?_; rintro r l' ⟨rfl, rfl⟩; refine ⟨_, rfl, rfl, rfl, ?_⟩; simp only [go_sem, hP, marksC, List.length_map]; (repeat refine qJ ?_); (repeat ((first | refine Va ?_ | refine Vb ?_ | refine Vc ?_ | refine Vd ?_ | refine Ve ?_ | refine Vf ?_); (try simp only [go_sem, hP, marksC, List.length_map]); (repeat refine qJ ?_))))
  by_cases hM : (marksG (gi R) R.length).length ≠ 0
  ·rw [if_pos hM]
   (refine WV_cond rfl (fun h => ?_) (fun h => ?_))
   ·(repeat ((first | refine Va ?_ | refine Vb ?_ | refine Vc ?_ | refine Vd ?_ | refine Ve ?_ | refine Vf ?_); (try simp only [go_sem, hP, gown_lo, gown_upd]); (repeat refine qJ ?_)))
    (refine WV_ret ?_; simp only [thenQ, inQ, RetQ, RetOk, resAll, resA]; simp only [go_sem, tupA, AV.port, AV.portL, exists_eq_left', gown_lo])
    exact AVle.refl _
   ·simp at h; first | omega | (exact (hM (by rw [h]; rfl)).elim)
  rw [if_neg hM]
  (refine WV_cond rfl (fun h => ?_) (fun h => ?_))
  ·simp at h; omega
  have hl1 := badL_len (gi R) true (manyL (gi R) true)
  have hl2 := badL_len (gi R) false (manyL (gi R) false)
  (repeat ((first | refine Va ?_ | refine Vb ?_ | refine Vc ?_ | refine Vd ?_ | refine Ve ?_ | refine Vf ?_); (try simp only [go_sem, hP]); (repeat refine qJ ?_)))
  (refine AS_grid (bad63L (j := j) (cap := cap) hG true) rfl rfl rfl (by simp only [List.map_cons, List.map_nil, List.append_nil]; simp only [go_sem, AV.lendL, lend_grid, AV.lend]) ?_; rintro r l' ⟨rfl, rfl⟩; refine ⟨_, rfl, rfl, rfl, ?_⟩; simp only [go_sem, hP]; (repeat refine qJ ?_); (repeat ((first | refine Va ?_ | refine Vb ?_ | refine Vc ?_ | refine Vd ?_ | refine Ve ?_ | refine Vf ?_); (try simp only [go_sem, hP]); (repeat refine qJ ?_))))
  (refine AS_grid (bad63L (j := j) (cap := cap) hG false) rfl rfl rfl (by simp only [List.map_cons, List.map_nil, List.append_nil]; simp only [go_sem, AV.lendL, lend_grid, AV.lend]) ?_; rintro r l' ⟨rfl, rfl⟩; refine ⟨_, rfl, rfl, rfl, ?_⟩; simp only [go_sem, hP]; (repeat refine qJ ?_); (repeat ((first | refine Va ?_ | refine Vb ?_ | refine Vc ?_ | refine Vd ?_ | refine Ve ?_ | refine Vf ?_); (try simp only [go_sem, hP]); (repeat refine qJ ?_))))
  unfold wrongRN
  have hA : 0 < (badL (gi R) true (manyL (gi R) true)).length → (badL (gi R) true (manyL (gi R) true)).getD 0 0 < R.length := fun h0 => by
   have := badL_lt h0
   unfold manyL at this ⊢; rw [if_pos rfl] at this ⊢; rwa [gi_len] at this ⊢
  have hC : 0 < (badL (gi R) false (manyL (gi R) false)).length → (badL (gi R) false (manyL (gi R) false)).getD 0 0 < w := fun h0 => by
   have := badL_lt h0
   unfold manyL at this ⊢; rw [if_neg (by decide)] at this ⊢; rwa [hwd] at this ⊢
  generalize badL (gi R) true (manyL (gi R) true) = W1 at hl1 hA ⊢
  generalize badL (gi R) false (manyL (gi R) false) = W2 at hl2 hC ⊢
  have hadd := w64 (n := ((W1.length : Nat) : Int) + ((W2.length : Nat) : Int)) (by omega) (by omega)
  (repeat ((first | refine Va ?_ | refine Vb ?_ | refine Vc ?_ | refine Vd ?_ | refine Ve ?_ | refine Vf ?_); (try simp only [go_sem, hP, natsC, List.length_map, ncd_len, hadd]); (repeat refine qJ ?_)))
  by_cases h0 : W1.length + W2.length = 0
  ·rw [if_pos h0]
   (refine WV_cond rfl (fun h => ?_) (fun h => ?_))
   ·(repeat ((first | refine Va ?_ | refine Vb ?_ | refine Vc ?_ | refine Vd ?_ | refine Ve ?_ | refine Vf ?_); (try simp only [go_sem, hP, gown_lo, gown_upd]); (repeat refine qJ ?_)))
    (refine WV_ret ?_; simp only [thenQ, inQ, RetQ, RetOk, resAll, resA]; simp only [go_sem, tupA, AV.port, AV.portL, exists_eq_left', gown_lo])
    exact AVle.refl _
   ·simp at h; omega
  rw [if_neg h0]
  (refine WV_cond rfl (fun h => ?_) (fun h => ?_))
  ·simp at h; omega
  (repeat ((first | refine Va ?_ | refine Vb ?_ | refine Vc ?_ | refine Vd ?_ | refine Ve ?_ | refine Vf ?_); (try simp only [go_sem, hP, natsC, List.length_map, ncd_len]); (repeat refine qJ ?_)))
  by_cases h1 : W1.length ≠ 1 ∨ W2.length ≠ 1
  ·rw [if_pos h1]
   (refine WV_cond rfl (fun h => ?_) (fun h => ?_))
   ·(repeat ((first | refine Va ?_ | refine Vb ?_ | refine Vc ?_ | refine Vd ?_ | refine Ve ?_ | refine Vf ?_); (try simp only [go_sem, hP, gown_lo, gown_upd]); (repeat refine qJ ?_)))
    (refine WV_ret ?_; simp only [thenQ, inQ, RetQ, RetOk, resAll, resA]; simp only [go_sem, tupA, AV.port, AV.portL, exists_eq_left', gown_lo])
    exact AVle.refl _
   ·simp at h; omega
  rw [if_neg h1]
  obtain ⟨a, rfl⟩ : ∃ a, W1 = [a] := List.length_eq_one_iff.1 (by omega)
  obtain ⟨c, rfl⟩ : ∃ c, W2 = [c] := List.length_eq_one_iff.1 (by omega)
  have ha : a < R.length := hA (by simp)
  have hc : c < w := hC (by simp)
  simp only [List.getD_cons_zero]
  (refine WV_cond rfl (fun h => ?_) (fun h => ?_))
  ·simp at h
  (refine WV_skip ?_; simp only [go_sem])
  refine WV_seq_ ?_
  (refine WV_op ?_; simp only [go_sem, hP, natsC, List.length_map, gown_lo, gown_upd, List.map_cons, List.map_nil, ncd, Int.toNat_zero, List.getD_cons_zero, List.length_cons, List.length_nil]; (repeat refine qJ ?_))
  refine WV_keep [2, 5] ?_
  simp only [go_sem]
  (repeat ((first | refine Va ?_ | refine Vb ?_ | refine Vc ?_ | refine Vd ?_ | refine Ve ?_ | refine Vf ?_); (try simp only [go_sem, hP]); (repeat refine qJ ?_)))
  refine WV_loopS (fun p : Nat × List IRow => ⟨upd (upd (upd e0 2 (.bp 2 0)) 5 (.vw 1 1000 0 R.length cap)) 9 (iv p.1), gown icds 1 p.2 j (upd o0 2 (.box [iv a, iv c]))⟩) (fun p => p.1 ≤ 94 ∧ p.2.length = R.length ∧ GOw R.length w (gi p.2) ∧ (∀ u : Int, setG (gi p.2) (a, c) u = setG (gi R) (a, c) u) ∧ ∀ u : Nat, u < p.1 → goodV (setG (gi R) (a, c) u) = false) (fun p => 94 - p.1) (0, R) ⟨Nat.zero_le _, rfl, hgo, fun _ => rfl, fun u hu => (by omega)⟩ ?_ ?_
  ·exact Sub_of (by exact EnvLe_au) (ObLe_gown (by exact ObjLe_au))
  ·rintro ⟨v, S⟩ ⟨hv0, hSl, hSg, hset, hno⟩
   simp only at hv0 hSl hSg hset hno ⊢
   (repeat ((first | refine Va ?_ | refine Vb ?_ | refine Vc ?_ | refine Vd ?_ | refine Ve ?_ | refine Vf ?_); (try simp only [go_sem, hP]); (repeat refine qJ ?_)))
   (refine WV_cond rfl (fun h => ?_) (fun h => ?_))
   ·have hv : v < 94 := by simp at h; omega
    have hw3 := w64 (n := (v : Int) + 1) (by omega) (by omega)
    have haS : a < S.length := by omega
    have hrow : (S[a]).l.length = w := by have := hSg.row a ha; rwa [gi_row haS] at this
    have hca : c < (S[a]).l.length := by omega
    have hput : ∀ o, upd (gown icds 1 S j o) (a + 1001) (.box ((cellsG icds (S[a]).l (S[a]).j).set c (iv v))) = gown icds 1 (putI S (a, c) v) j o := fun o => gown_putI (p := (a, c)) haS hca j o
    have hcl := icell_lt hca (S[a]).j
    (refine WV_skip ?_; simp only [go_sem])
    refine WV_seq_ (WV_block (WV_seq_ ?_))
    (refine WV_op ?_; simp only [go_sem, hP, gown_lo, gown_upd, gown_grid, gown_row haS, Row.ob_box, gridOb, Ob.isBox, refs_get haS, irefs_glen, hrow, Int.toNat_natCast, Nat.mul_one, Nat.zero_add, Nat.add_zero, Int.ofNat_lt, Int.natCast_nonneg, ha, haS, hc, hcl, hput]; (repeat refine qJ ?_))
    have hgi : gi (putI S (a, c) v) = setG (gi R) (a, c) v := by rw [putI_gi haS, hset]
    have hgow : GOw R.length w (gi (putI S (a, c) v)) := by rw [hgi]; exact setG_ok hgo _ (by omega)
    have hsl2 : (putI S (a, c) v).length = R.length := by rw [putI_len]; exact hSl
    have hset2 : ∀ u : Int, setG (gi (putI S (a, c) v)) (a, c) u = setG (gi R) (a, c) u := fun u => by rw [hgi, setG_setG]
    generalize putI S (a, c) (v : Int) = S2 at hgi hgow hsl2 hset2 ⊢
    have hG2 := (hgow.gok hpos hlen hw32).1
    have hwd2 := (hgow.gok hpos hlen hw32).2.1
    have hb1 := bad63L (R := S2) (j := j) (cap := cap) hG2 true
    have hb2 := bad63L (R := S2) (j := j) (cap := cap) hG2 false
    rw [hsl2] at hb1 hb2
    have hm1 : manyL (gi S2) true ≤ 41 := by unfold manyL; rw [if_pos rfl, gi_len]; omega
    have hm2 : manyL (gi S2) false ≤ 41 := by unfold manyL; rw [if_neg (by decide)]; omega
    have k1 := badL_len (gi S2) true (manyL (gi S2) true)
    have k2 := badL_len (gi S2) false (manyL (gi S2) false)
    have hgd : goodV (setG (gi R) (a, c) v) = ((badL (gi S2) true (manyL (gi S2) true)).length + (badL (gi S2) false (manyL (gi S2) false)).length == 0) := by rw [← hgi]; rfl
    generalize badL (gi S2) true (manyL (gi S2) true) = B1 at hb1 k1 hgd
    generalize badL (gi S2) false (manyL (gi S2) false) = B2 at hb2 k2 hgd
    have hadd2 := w64 (n := ((B1.length : Nat) : Int) + ((B2.length : Nat) : Int)) (by omega) (by omega)
    refine WV_seq_ ?_
    (refine WV_op ?_; simp only [go_sem, hP]; (repeat refine qJ ?_))
    (refine AS_grid (hb1) rfl rfl rfl (by simp only [List.map_cons, List.map_nil, List.append_nil]; simp only [go_sem, AV.lendL, lend_grid, AV.lend]) ?_; rintro r l' ⟨rfl, rfl⟩; refine ⟨_, rfl, rfl, rfl, ?_⟩; simp only [go_sem, hP, natsC, ncd_len]; (repeat refine qJ ?_); (repeat ((first | refine Va ?_ | refine Vb ?_ | refine Vc ?_ | refine Vd ?_ | refine Ve ?_ | refine Vf ?_); (try simp only [go_sem, hP, natsC, ncd_len]); (repeat refine qJ ?_))))
    (refine AS_grid (hb2) rfl rfl rfl (by simp only [List.map_cons, List.map_nil, List.append_nil]; simp only [go_sem, AV.lendL, lend_grid, AV.lend]) ?_; rintro r l' ⟨rfl, rfl⟩; refine ⟨_, rfl, rfl, rfl, ?_⟩; simp only [go_sem, hP, natsC, ncd_len, hadd2]; (repeat refine qJ ?_); (repeat ((first | refine Va ?_ | refine Vb ?_ | refine Vc ?_ | refine Vd ?_ | refine Ve ?_ | refine Vf ?_); (try simp only [go_sem, hP, natsC, ncd_len, hadd2]); (repeat refine qJ ?_))))
    by_cases hgood : B1.length + B2.length = 0
    ·have hgt : goodV (setG (gi R) (a, c) v) = true := by rw [hgd, hgood]; rfl
     rw [find_next (p := fun v : Nat => goodV (setG (gi R) (a, c) v)) hno hgt hv]
     simp only
     (refine WV_cond rfl (fun h => ?_) (fun h => ?_))
     ·have hst := text59 (g := gi S2) (hgow.valsOk (by omega)) (by rw [gi_len]; omega)
      have hgc : CD.sl 1 (S2.map fun r => [CD.sl 1 (r.l.map icds)]) = gridC (gi S2) := by unfold gridC gi rowC icds; rw [List.map_map]; rfl
      rw [← hgi, ← hsl2]
      refine WV_keep [2, 5] ?_
      simp only [go_sem]
      refine WV_frzGridG icds_one (fun n ds hn => ?_) (fun n ds hn => ?_) ?_
      ·have hn3 : ¬ (1000 : Nat) = n := by omega
       have hn4 : ¬ (2 : Nat) = n := by omega
       simp only [go_sem, AV.frz]
       simp only [hn3, hn4, if_false]
      ·have hn4 : ¬ (2 : Nat) = n := by omega
       simp only [go_sem, Ob.frz, AV.frzL, AV.frz]
       simp only [hn4, if_false]
      simp only [frzE_upd, frzE_e0, frz_gridG]
      rw [hgc]
      refine WV_seq_ ?_
      (refine WV_op ?_; simp only [go_sem, hP, AV.frz]; (repeat refine qJ ?_))
      refine ACall_of hst rfl rfl rfl rfl rfl ?_
      simp only [go_sem]
      (repeat refine qJ ?_)
      (refine WV_ret ?_; simp only [thenQ, inQ, RetQ, RetOk, resAll, resA]; simp only [go_sem, tupA, AV.port, AV.portL, exists_eq_left'])
      exact AVle.refl _
     ·simp at h; omega
    ·have hgt : goodV (setG (gi R) (a, c) v) = false := by rw [hgd]; simpa using hgood
     (refine WV_cond rfl (fun h => ?_) (fun h => ?_))
     ·simp at h; omega
     ·(repeat ((first | refine Va ?_ | refine Vb ?_ | refine Vc ?_ | refine Vd ?_ | refine Ve ?_ | refine Vf ?_); (try simp only [go_sem, hP, hw3]); (repeat refine qJ ?_)))
      refine ⟨(v + 1, S2), ⟨by simp only; omega, hsl2, hgow, hset2, fun u hu => ?_⟩, by simp only; omega, ?_⟩
      ·by_cases huv : u = v
       ·rw [huv]; exact hgt
       ·exact hno u (by simp only at hu; omega)
      ·exact Sub_of (by exact EnvLe_au) (ObLe_gown (by exact ObjLe_au))
   ·have hv : v = 94 := by simp at h; omega
    subst hv
    have hfn : all94.find? (fun v : Nat => goodV (setG (gi R) (a, c) v)) = none := by
     unfold all94
     rw [List.find?_eq_none]
     intro u hu
     rw [hno u (List.mem_range.1 hu)]; simp
    rw [hfn]
    simp only
    (repeat ((first | refine Va ?_ | refine Vb ?_ | refine Vc ?_ | refine Vd ?_ | refine Ve ?_ | refine Vf ?_); (try simp only [go_sem, hP, gown_lo, gown_upd]); (repeat refine qJ ?_)))
    (refine WV_ret ?_; simp only [thenQ, inQ, RetQ, RetOk, resAll, resA]; simp only [go_sem, tupA, AV.port, AV.portL, exists_eq_left', gown_lo])
    exact AVle.refl _
end Go.Proofs.YtlmfdmlochpfcaaDoor

namespace Go.Proofs.YtlmfdmlochpfcaaDoor
open Go Go.V
abbrev o7_0 : List Ins := [⟨(some 2), .mv (.k (.c (.bool false))), none, true⟩]
abbrev o7_1 : List Ins := [⟨(some 9), .mv (.t 0), none, true⟩,
 ⟨(some 10), .call (.k (.fn 26 [])) [(.t 9)], none, true⟩]
abbrev o7_2 : List Ins := [⟨(some 11), .call (.k (.fn 16 [])) [], none, true⟩,
 ⟨(some 2), .mv (.t 11), none, true⟩]
abbrev v7_3 : VC := (.seq (.ops o7_2) .ret)
abbrev v7_4 : VC := (.cond (.t 10) v7_3 .skip)
abbrev o7_5 : List Ins := [⟨(some 13), .mv (.t 0), none, true⟩,
 ⟨(some 14), .call (.k (.fn 23 [])) [(.t 13)], none, true⟩,
 ⟨(some 12), .mv (.t 14), none, true⟩,
 ⟨(some 15), .ext (.t 12) 0, none, true⟩,
 ⟨(some 16), .ext (.t 12) 1, none, true⟩,
 ⟨(some 17), .ext (.t 12) 2, none, true⟩,
 ⟨(some 3), .alloc [(.c (.int .i64 0)), (.c (.int .i64 0))], none, true⟩,
 ⟨none, .st 2 (.t 3) (.t 15), none, true⟩,
 ⟨(some 4), .mv (.t 16), none, true⟩,
 ⟨(some 5), .mv (.t 17), none, true⟩]
abbrev o7_6 : List Ins := [⟨(some 19), .mv (.t 0), none, true⟩,
 ⟨(some 20), .call (.k (.fn 29 [])) [(.t 19)], none, true⟩,
 ⟨(some 18), .mv (.t 20), none, true⟩,
 ⟨(some 21), .ext (.t 18) 0, none, true⟩,
 ⟨(some 22), .ext (.t 18) 1, none, true⟩,
 ⟨(some 23), .ext (.t 18) 2, none, true⟩,
 ⟨(some 6), .alloc [(.c (.int .i64 0)), (.c (.int .i64 0))], none, true⟩,
 ⟨none, .st 2 (.t 6) (.t 21), none, true⟩,
 ⟨(some 7), .mv (.t 22), none, true⟩,
 ⟨(some 8), .mv (.t 23), none, true⟩]
abbrev o7_7 : List Ins := [⟨(some 24), .ld false 2 (.t 3), none, true⟩,
 ⟨(some 25), .ld false 2 (.t 6), none, true⟩,
 ⟨(some 26), .seq false [(0, true), (1, true)] (.t 24) (.t 25), none, true⟩,
 ⟨(some 27), .mv (.t 26), none, true⟩,
 ⟨(some 28), .mv (.t 4), (some (27, true)), true⟩,
 ⟨(some 29), .mv (.t 7), (some (27, true)), true⟩,
 ⟨(some 30), .prim (.sbin .eql) [(.t 28), (.t 29)], (some (27, true)), true⟩,
 ⟨(some 31), .pick (.t 27) (.t 30) (.k (.c (.bool false))), none, true⟩,
 ⟨(some 32), .mv (.t 31), none, true⟩,
 ⟨(some 33), .mv (.t 5), (some (32, true)), true⟩,
 ⟨(some 34), .mv (.t 8), (some (32, true)), true⟩,
 ⟨(some 35), .bin .eql (.t 33) (.t 34), (some (32, true)), true⟩,
 ⟨(some 36), .pick (.t 32) (.t 35) (.k (.c (.bool false))), none, true⟩,
 ⟨(some 37), .mv (.t 36), none, true⟩,
 ⟨(some 38), .call (.k (.fn 16 [])) [], (some (37, true)), true⟩,
 ⟨(some 39), .pick (.t 37) (.t 38) (.k (.c (.bool false))), none, true⟩,
 ⟨(some 2), .mv (.t 39), none, true⟩]
abbrev v7_8 : VC := (.seq (.ops o7_7) .ret)
abbrev v7_9 : VC := (.seq (.ops o7_6) v7_8)
abbrev v7_10 : VC := (.seq (.ops o7_5) v7_9)
abbrev v7_11 : VC := (.seq (.seq (.ops o7_1) v7_4) v7_10)
def ir7 : FC := ⟨1, 40, [.t 2], (.seq (.ops o7_0) v7_11)⟩
theorem c7 : compM Tryd.prog [] 7 = some ir7 := by kernel_rfl
attribute [local go_sem] Nat.reduceEqDiff Nat.reduceAdd Nat.reduceMul reduceIte Nat.reduceLeDiff Nat.reduceLT Nat.reduceBEq reduceCtorEq
set_option maxRecDepth 20000 in
set_option maxHeartbeats 8000000 in
theorem bookWrong7 (s : List UInt8) : FSpec Tryd.prog 7 [sv s] (bv true) := by
 have hmax : maxLen = 9223372036854775807 := rfl
 have hwk := works16
 refine FSpec_of c7 (Nat.le_refl _) (by decide) fun C hP hN hC hL => ?_; rw [init_st]
 simp only [ir7]
 (repeat ((first | refine Va ?_ | refine Vb ?_ | refine Vc ?_ | refine Vd ?_ | refine Ve ?_ | refine Vf ?_); (try simp only [go_sem, hP]); (repeat refine qJ ?_)))
 (refine AS_pu (large26 s) ?_; simp only [go_sem, hP]; (repeat refine qJ ?_); (repeat ((first | refine Va ?_ | refine Vb ?_ | refine Vc ?_ | refine Vd ?_ | refine Ve ?_ | refine Vf ?_); (try simp only [go_sem, hP]); (repeat refine qJ ?_))))
 by_cases hl : 2000 < s.length
 ·(refine WV_cond rfl (fun h => ?_) (fun h => ?_))
  ·(repeat ((first | refine Va ?_ | refine Vb ?_ | refine Vc ?_ | refine Vd ?_ | refine Ve ?_ | refine Vf ?_); (try simp only [go_sem, hP]); (repeat refine qJ ?_)))
   (refine AS_pu (hwk) ?_; simp only [go_sem, hP]; (repeat refine qJ ?_); (repeat ((first | refine Va ?_ | refine Vb ?_ | refine Vc ?_ | refine Vd ?_ | refine Ve ?_ | refine Vf ?_); (try simp only [go_sem, hP]); (repeat refine qJ ?_))))
   (refine WV_ret ?_; simp only [thenQ, inQ, RetQ, RetOk, resAll, resA]; simp only [go_sem, tupA, AV.port, AV.portL, exists_eq_left']; (first | exact AVle.of rfl | refine AVle.of ?_ | skip))
  ·simp at h; omega
 ·have h1 := wrong23 s (by omega)
  have h2 := wrong29 s (by omega)
  rw [wrong_eq] at h1
  generalize wrongR s = p at h1 h2
  (refine WV_cond rfl (fun h => ?_) (fun h => ?_))
  ·simp at h; omega
  (repeat ((first | refine Va ?_ | refine Vb ?_ | refine Vc ?_ | refine Vd ?_ | refine Ve ?_ | refine Vf ?_); (try simp only [go_sem, hP]); (repeat refine qJ ?_)))
  (refine AS_pu (h1) ?_; simp only [go_sem, hP]; (repeat refine qJ ?_); (repeat ((first | refine Va ?_ | refine Vb ?_ | refine Vc ?_ | refine Vd ?_ | refine Ve ?_ | refine Vf ?_); (try simp only [go_sem, hP]); (repeat refine qJ ?_))))
  (refine AS_pu (h2) ?_; simp only [go_sem, hP, beq_self_eq_true, Bool.and_self, Bool.true_and, true_implies, Bool.true_eq_false, false_implies, and_true]; (repeat refine qJ ?_); (repeat ((first | refine Va ?_ | refine Vb ?_ | refine Vc ?_ | refine Vd ?_ | refine Ve ?_ | refine Vf ?_); (try simp only [go_sem, hP, beq_self_eq_true, Bool.and_self, Bool.true_and, true_implies, Bool.true_eq_false, false_implies, and_true]); (repeat refine qJ ?_))))
  (refine AG_pu (fun hG => hwk) ?_; simp only [go_sem, hP, beq_self_eq_true, Bool.and_self, Bool.true_and, true_implies, Bool.true_eq_false, false_implies, and_true]; (repeat refine qJ ?_); (repeat ((first | refine Va ?_ | refine Vb ?_ | refine Vc ?_ | refine Vd ?_ | refine Ve ?_ | refine Vf ?_); (try simp only [go_sem, hP, beq_self_eq_true, Bool.and_self, Bool.true_and, true_implies, Bool.true_eq_false, false_implies, and_true]); (repeat refine qJ ?_))))
  (refine WV_ret ?_; simp only [thenQ, inQ, RetQ, RetOk, resAll, resA]; simp only [go_sem, tupA, AV.port, AV.portL, exists_eq_left']; (first | exact AVle.of rfl | refine AVle.of ?_ | skip))
end Go.Proofs.YtlmfdmlochpfcaaDoor
