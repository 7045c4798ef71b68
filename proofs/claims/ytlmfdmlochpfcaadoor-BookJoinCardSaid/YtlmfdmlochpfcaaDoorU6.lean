/-
  Contracts of the layer's functions, of the laws' helpers and of the law; conditions: as each theorem states.
-/
import Derived.Test.YtlmfdmlochpfcaaDoorU5
set_option linter.unusedVariables false
set_option linter.unusedSimpArgs false
namespace Go.Proofs.YtlmfdmlochpfcaaDoor
open Go Go.V
theorem okB_iff {b : UInt8} : okB b = true ↔ BOk b := by
 refine ⟨okB_ok, fun h => ?_⟩
 unfold BOk at h
 unfold okB valB
 simp only [Bool.or_eq_true, decide_eq_true_eq]
 by_cases h63 : b.toNat = 63
 ·exact .inl h63
 ·right
  rw [if_neg (by omega)]
  split <;> omega
theorem valR_iff {b : UInt8} : (valR b).2 = true ↔ BOk b := by
 constructor
 ·intro h
  unfold valR at h
  unfold BOk
  split at h
  ·cases h
  ·omega
 ·intro h
  rw [vq_R h]
theorem segB_nl (b : UInt8) : ∀ (s : List UInt8), ∀ l ∈ segB b s, b ∉ l
 | [], l, hl => by
  simp only [segB, List.mem_singleton] at hl
  subst hl; simp
 | y :: s, l, hl => by
  have ih := segB_nl b s
  unfold segB at hl
  split at hl
  ·rcases List.mem_cons.1 hl with rfl | hl
   ·simp
   ·exact ih l hl
  ·rename_i hyb
   split at hl
   ·rename_i h t he
    rw [he] at ih
    rcases List.mem_cons.1 hl with rfl | hl
    ·intro hm
     rcases List.mem_cons.1 hm with rfl | hm
     ·simp at hyb
     ·exact ih h (by simp) hm
    ·exact ih l (by simp [hl])
   ·simp only [List.mem_singleton] at hl
    subst hl
    intro hm
    simp only [List.mem_singleton] at hm
    subst hm; simp at hyb
theorem textG_cons (l : List UInt8) (t : List (List UInt8)) : textG (l :: t) = l ++ 10 :: textG t := by simp [textG]
theorem seg_text : ∀ (s : List UInt8), textG (segB 10 s) = s ++ [10]
 | [] => rfl
 | y :: s => by
  have ih := seg_text s
  unfold segB
  split
  ·rename_i h
   have hy : y = 10 := by simpa using h
   subst hy
   rw [textG_cons, ih]; rfl
  ·split
   ·rename_i h t he
    rw [he, textG_cons] at ih
    rw [textG_cons, List.cons_append, ih]; rfl
   ·rename_i he
    exact (segB_ne _ _ he).elim
theorem ends_split {s : List UInt8} {b : UInt8} (h : endsB s b = true) : s = s.dropLast ++ [b] := by
 unfold endsB at h
 have h1 : s.getLast? = some b := by simpa using h
 have hne : s ≠ [] := by rintro rfl; cases h1
 rw [List.getLast?_eq_some_getLast hne, Option.some.injEq] at h1
 rw [← h1, List.dropLast_concat_getLast]
theorem seg_text' {s : List UInt8} (h : endsB s 10 = true) : textG (segB 10 s.dropLast) = s := by
 rw [seg_text]
 exact (ends_split h).symm
theorem segB_append (b : UInt8) : ∀ (l t : List UInt8), b ∉ l → segB b (l ++ b :: t) = l :: segB b t
 | [], t, _ => by simp [segB]
 | y :: l, t, h => by
  have hy : y ≠ b := fun e => h (by simp [e])
  have ih := segB_append b l t fun e => h (by simp [e])
  have e : segB b (y :: (l ++ b :: t)) = match segB b (l ++ b :: t) with | h :: t => (y :: h) :: t | [] => [[y]] := by
   rw [segB, if_neg hy]; rfl
  rw [List.cons_append, e, ih]
theorem segB_last (b : UInt8) : ∀ (l : List UInt8), b ∉ l → segB b l = [l]
 | [], _ => rfl
 | y :: l, h => by
  have hy : y ≠ b := fun e => h (by simp [e])
  have ih := segB_last b l fun e => h (by simp [e])
  unfold segB
  rw [if_neg (by simpa using hy), ih]
theorem text_seg : ∀ (rows : List (List UInt8)), rows ≠ [] → (∀ l ∈ rows, (10 : UInt8) ∉ l) → endsB (textG rows) 10 = true ∧ segB 10 (textG rows).dropLast = rows
 | [], h, _ => (h rfl).elim
 | [l], _, h => by
  have e : textG [l] = l ++ [10] := by simp [textG]
  rw [e]
  refine ⟨by simp [endsB], ?_⟩
  rw [List.dropLast_concat]
  exact segB_last 10 l (h l (by simp))
 | l :: m :: t, _, h => by
  obtain ⟨h1, h2⟩ := text_seg (m :: t) (by simp) fun x hx => h x (by simp [hx])
  have hne : textG (m :: t) ≠ [] := by rw [textG_cons]; simp
  have e : textG (l :: m :: t) = l ++ 10 :: textG (m :: t) := textG_cons l (m :: t)
  rw [e]
  constructor
  ·have h3 := ends_split h1
   unfold endsB
   rw [h3, ← List.cons_append, ← List.append_assoc, List.getLast?_concat]
   simp
  ·have e2 : (l ++ 10 :: textG (m :: t)).dropLast = l ++ 10 :: (textG (m :: t)).dropLast := by
    rw [List.dropLast_append_of_ne_nil (by simp), List.dropLast_cons_of_ne_nil hne]
   rw [e2, segB_append 10 l _ (h l (by simp)), h2]
theorem textG_length (rows : List (List UInt8)) (w : Nat) (h : ∀ l ∈ rows, l.length = w) : (textG rows).length = rows.length * (w + 1) := by
 induction rows with
 | nil => simp [textG]
 | cons l t ih =>
  rw [textG_cons, List.length_append, List.length_cons, ih (fun x hx => h x (by simp [hx])), h l (by simp), List.length_cons, Nat.succ_mul]
  omega
theorem BOk.ne10 {b : UInt8} (h : BOk b) : b ≠ 10 := by
 rintro rfl
 unfold BOk at h
 simp at h
theorem SOk.nl {rows : List (List UInt8)} {w : Nat} (h : SOk rows w) : ∀ l ∈ rows, (10 : UInt8) ∉ l := fun l hl hm => (h.byte l hl 10 hm).ne10 rfl
theorem allOk_of {w : Nat} : ∀ (k : Nat) (t : List (List UInt8)), (∀ l ∈ t, 2 ≤ l.length ∧ l.length ≤ 32 ∧ l.length = w ∧ ∀ b ∈ l, BOk b) → k + t.length ≤ 41 → allOk w k t = true
 | k, [], _, _ => rfl
 | k, l :: t, h, hk => by
  simp only [List.length_cons] at hk
  simp only [allOk, Bool.and_eq_true]
  refine ⟨?_, allOk_of (k + 1) t (fun x hx => h x (by simp [hx])) (by omega)⟩
  obtain ⟨h1, h2, h3, h4⟩ := h l (by simp)
  unfold okSeg
  simp only [Bool.and_eq_true, decide_eq_true_eq]
  exact ⟨⟨⟨⟨h1, h2⟩, h3⟩, by omega⟩, List.all_eq_true.2 fun b hb => okB_iff.2 (h4 b hb)⟩
theorem parse_is {s : List UInt8} {rows : List (List UInt8)} (h : parseP s = some rows) : textG rows = s ∧ SOk rows (rows.headD []).length := by
 refine ⟨?_, parse_ok h⟩
 unfold parseP at h
 split at h
 ·rename_i he
  split at h
  ·simp only [Option.some.injEq] at h
   subst h
   exact seg_text' he
  ·cases h
 ·cases h
def stp (p : List (List Int) × List Int) (c : UInt8) : List (List Int) × List Int := if c = 10 then (p.1 ++ [p.2], []) else (p.1, p.2 ++ [(valR c).1])
def stR (s : List UInt8) : List (List Int) × List Int := s.foldl stp ([], [])
theorem stR_snoc {s : List UInt8} {k : Nat} (h : k < s.length) : stR (s.take (k + 1)) = stp (stR (s.take k)) s[k] := by
 unfold stR
 rw [List.take_succ_eq_append_getElem h, List.foldl_append]; rfl
def rowR (l : List UInt8) : List Int := l.map fun b => (valR b).1
theorem fold_line (l : List UInt8) (h : (10 : UInt8) ∉ l) : ∀ p : List (List Int) × List Int, l.foldl stp p = (p.1, p.2 ++ rowR l) := by
 induction l with
 | nil => intro p; simp [rowR]
 | cons y l ih =>
  intro p
  have hy : y ≠ 10 := fun e => h (by simp [e])
  rw [List.foldl_cons, ih (fun e => h (by simp [e]))]
  unfold stp
  rw [if_neg hy]
  simp [rowR]
theorem fold_rows (rows : List (List UInt8)) (h : ∀ l ∈ rows, (10 : UInt8) ∉ l) : ∀ g : List (List Int), (textG rows).foldl stp (g, []) = (g ++ rows.map rowR, []) := by
 induction rows with
 | nil => intro g; simp [textG]
 | cons l t ih =>
  intro g
  rw [textG_cons, List.foldl_append, fold_line l (h l (by simp)), List.foldl_cons]
  have e : stp (g, ([] : List Int) ++ rowR l) 10 = (g ++ [rowR l], []) := by unfold stp; rw [if_pos rfl]; simp
  rw [e, ih (fun x hx => h x (by simp [hx]))]
  simp
theorem stR_end {s : List UInt8} (h : endsB s 10 = true) : stR s = ((segB 10 s.dropLast).map rowR, []) := by
 have := fold_rows (segB 10 s.dropLast) (segB_nl 10 _) []
 rw [seg_text' h] at this
 simpa [stR] using this
theorem rowR_vq {l : List UInt8} (h : ∀ b ∈ l, BOk b) : rowR l = l.map vq := List.map_congr_left fun b hb => by rw [vq_R (h b hb)]
end Go.Proofs.YtlmfdmlochpfcaaDoor

namespace Go.Proofs.YtlmfdmlochpfcaaDoor
open Go Go.V
abbrev o61_0 : List Ins := [⟨(some 2), .mv (.k (.c (.raw (.slice none 0 0)))), none, true⟩,
 ⟨(some 3), .mv (.k (.c (.bool false))), none, true⟩]
abbrev o61_1 : List Ins := [⟨(some 10), .mv (.t 0), none, true⟩,
 ⟨(some 11), .prim .slen [(.t 10)], none, true⟩,
 ⟨(some 12), .bin .eql (.t 11) (.k (.c (.int .i64 0))), none, true⟩,
 ⟨(some 13), .mv (.t 12), none, true⟩,
 ⟨(some 14), .mv (.t 0), (some (13, false)), true⟩,
 ⟨(some 15), .prim .slen [(.t 14)], (some (13, false)), true⟩,
 ⟨(some 16), .bin .gtr (.t 15) (.k (.c (.int .i64 1353))), (some (13, false)), true⟩,
 ⟨(some 17), .pick (.t 13) (.k (.c (.bool true))) (.t 16), none, true⟩,
 ⟨(some 18), .mv (.t 17), none, true⟩,
 ⟨(some 19), .mv (.t 0), (some (18, false)), true⟩,
 ⟨(some 20), .mv (.t 0), (some (18, false)), true⟩,
 ⟨(some 21), .prim .slen [(.t 20)], (some (18, false)), true⟩,
 ⟨(some 22), .bin .sub (.t 21) (.k (.c (.int .i64 1))), (some (18, false)), true⟩,
 ⟨(some 23), .prim .sidx [(.t 19), (.t 22)], (some (18, false)), true⟩,
 ⟨(some 24), .bin .neq (.t 23) (.k (.c (.int .u8 10))), (some (18, false)), true⟩,
 ⟨(some 25), .pick (.t 18) (.k (.c (.bool true))) (.t 24), none, true⟩]
abbrev o61_2 : List Ins := [⟨(some 2), .mv (.k (.c (.raw (.slice none 0 0)))), none, true⟩,
 ⟨(some 3), .mv (.k (.c (.bool false))), none, true⟩]
abbrev v61_3 : VC := (.seq (.ops o61_2) .ret)
abbrev v61_4 : VC := (.cond (.t 25) v61_3 .skip)
abbrev o61_5 : List Ins := [⟨(some 4), .mv (.k (.c (.raw (.slice none 0 0)))), none, true⟩]
abbrev o61_6 : List Ins := [⟨(some 5), .mv (.k (.c (.raw (.slice none 0 0)))), none, true⟩]
abbrev o61_7 : List Ins := [⟨(some 6), .mv (.k (.c (.int .i64 0))), none, true⟩]
abbrev o61_8 : List Ins := [⟨(some 26), .mv (.t 6), none, true⟩,
 ⟨(some 27), .mv (.t 0), none, true⟩,
 ⟨(some 28), .prim .slen [(.t 27)], none, true⟩,
 ⟨(some 29), .bin .lss (.t 26) (.t 28), none, true⟩]
abbrev v61_9 : VC := (.cond (.t 29) .skip (.exit 0))
abbrev o61_10 : List Ins := [⟨(some 32), .mv (.t 0), none, true⟩,
 ⟨(some 33), .mv (.t 6), none, true⟩,
 ⟨(some 34), .prim .sidx [(.t 32), (.t 33)], none, true⟩,
 ⟨(some 35), .bin .eql (.t 34) (.k (.c (.int .u8 10))), none, true⟩]
abbrev o61_11 : List Ins := [⟨(some 36), .mv (.t 4), none, true⟩,
 ⟨(some 37), .mv (.t 5), none, true⟩,
 ⟨(some 38), .bsl 50 1 [(.t 37)], none, true⟩,
 ⟨(some 39), .app 50 1 24 (.t 36) (.t 38), none, true⟩,
 ⟨(some 4), .mv (.t 39), none, true⟩,
 ⟨(some 5), .mv (.k (.c (.raw (.slice none 0 0)))), none, true⟩]
abbrev v61_12 : VC := (.seq (.ops o61_11) (.exit 1))
abbrev v61_13 : VC := (.cond (.t 35) v61_12 .skip)
abbrev o61_14 : List Ins := [⟨(some 41), .mv (.t 0), none, true⟩,
 ⟨(some 42), .mv (.t 6), none, true⟩,
 ⟨(some 43), .prim .sidx [(.t 41), (.t 42)], none, true⟩,
 ⟨(some 44), .call (.k (.fn 22 [])) [(.t 43)], none, true⟩,
 ⟨(some 40), .mv (.t 44), none, true⟩,
 ⟨(some 45), .ext (.t 40) 0, none, true⟩,
 ⟨(some 46), .ext (.t 40) 1, none, true⟩,
 ⟨(some 7), .mv (.t 45), none, true⟩,
 ⟨(some 8), .mv (.t 46), none, true⟩]
abbrev o61_15 : List Ins := [⟨(some 47), .mv (.t 8), none, true⟩,
 ⟨(some 48), .un .not (.t 47), none, true⟩]
abbrev o61_16 : List Ins := [⟨(some 2), .mv (.k (.c (.raw (.slice none 0 0)))), none, true⟩,
 ⟨(some 3), .mv (.k (.c (.bool false))), none, true⟩]
abbrev v61_17 : VC := (.seq (.ops o61_16) .ret)
abbrev v61_18 : VC := (.cond (.t 48) v61_17 .skip)
abbrev o61_19 : List Ins := [⟨(some 49), .mv (.t 5), none, true⟩,
 ⟨(some 50), .mv (.t 7), none, true⟩,
 ⟨(some 51), .bsl 3 1 [(.t 50)], none, true⟩,
 ⟨(some 52), .app 3 1 8 (.t 49) (.t 51), none, true⟩,
 ⟨(some 5), .mv (.t 52), none, true⟩]
abbrev v61_20 : VC := (.seq (.seq (.ops o61_15) v61_18) (.ops o61_19))
abbrev v61_21 : VC := (.seq (.ops o61_14) v61_20)
abbrev v61_22 : VC := (.seq (.seq (.ops o61_10) v61_13) v61_21)
abbrev o61_23 : List Ins := [⟨(some 30), .mv (.t 6), none, true⟩,
 ⟨(some 31), .bin .add (.t 30) (.k (.c (.int .i64 1))), none, true⟩,
 ⟨(some 6), .mv (.t 31), none, true⟩]
abbrev v61_24 : VC := (.seq (.block 1 v61_22) (.ops o61_23))
abbrev v61_25 : VC := (.seq (.seq (.ops o61_8) v61_9) v61_24)
-- K61_1: changed and kept: [6, 4, 5]
abbrev K61_1 : List Nat := [0]
abbrev v61_26 : VC := (.loop v61_25)
abbrev v61_27 : VC := (.block 0 v61_26)
abbrev o61_28 : List Ins := [⟨(some 9), .mv (.k (.c (.int .i64 0))), none, true⟩]
abbrev o61_29 : List Ins := [⟨(some 53), .mv (.t 9), none, true⟩,
 ⟨(some 54), .mv (.t 4), none, true⟩,
 ⟨(some 55), .len (.t 54), none, true⟩,
 ⟨(some 56), .bin .lss (.t 53) (.t 55), none, true⟩]
abbrev v61_30 : VC := (.cond (.t 56) .skip (.exit 2))
abbrev o61_31 : List Ins := [⟨(some 59), .mv (.t 4), none, false⟩,
 ⟨(some 60), .mv (.t 9), none, false⟩,
 ⟨(some 61), .ia 1 (.t 59) (.t 60), none, false⟩,
 ⟨(some 62), .ld true 1 (.t 61), none, false⟩,
 ⟨(some 63), .len (.t 62), none, false⟩,
 ⟨(some 64), .mv (.t 4), none, false⟩,
 ⟨(some 65), .ia 1 (.t 64) (.k (.c (.int .i64 0))), none, false⟩,
 ⟨(some 66), .ld true 1 (.t 65), none, false⟩,
 ⟨(some 67), .len (.t 66), none, false⟩,
 ⟨(some 68), .bin .neq (.t 63) (.t 67), none, true⟩]
abbrev o61_32 : List Ins := [⟨(some 2), .mv (.k (.c (.raw (.slice none 0 0)))), none, true⟩,
 ⟨(some 3), .mv (.k (.c (.bool false))), none, true⟩]
abbrev v61_33 : VC := (.seq (.ops o61_32) .ret)
abbrev v61_34 : VC := (.cond (.t 68) v61_33 .skip)
abbrev v61_35 : VC := (.seq (.dops o61_31) v61_34)
abbrev o61_36 : List Ins := [⟨(some 57), .mv (.t 9), none, true⟩,
 ⟨(some 58), .bin .add (.t 57) (.k (.c (.int .i64 1))), none, true⟩,
 ⟨(some 9), .mv (.t 58), none, true⟩]
abbrev v61_37 : VC := (.seq (.block 3 v61_35) (.ops o61_36))
abbrev v61_38 : VC := (.seq (.seq (.ops o61_29) v61_30) v61_37)
-- K61_2: changed and kept: [9]
abbrev K61_2 : List Nat := [4]
abbrev v61_39 : VC := (.loop v61_38)
abbrev v61_40 : VC := (.block 2 v61_39)
abbrev o61_41 : List Ins := [⟨(some 69), .mv (.t 4), none, true⟩,
 ⟨(some 70), .mv (.t 4), none, true⟩,
 ⟨(some 71), .len (.t 70), none, true⟩,
 ⟨(some 72), .bin .leq (.t 71) (.k (.c (.int .i64 41))), none, true⟩,
 ⟨(some 73), .mv (.t 72), none, true⟩,
 ⟨(some 74), .mv (.t 4), (some (73, true)), true⟩,
 ⟨(some 75), .ia 1 (.t 74) (.k (.c (.int .i64 0))), (some (73, true)), true⟩,
 ⟨(some 76), .ld true 1 (.t 75), (some (73, true)), true⟩,
 ⟨(some 77), .len (.t 76), (some (73, true)), true⟩,
 ⟨(some 78), .call (.k (.fn 67 [])) [(.t 77), (.k (.c (.int .i64 2))), (.k (.c (.int .i64 32)))], (some (73, true)), true⟩,
 ⟨(some 79), .pick (.t 73) (.t 78) (.k (.c (.bool false))), none, true⟩,
 ⟨(some 2), .mv (.t 69), none, true⟩,
 ⟨(some 3), .mv (.t 79), none, true⟩]
abbrev v61_42 : VC := (.seq (.ops o61_41) .ret)
abbrev v61_43 : VC := (.seq (.seq (.ops o61_28) v61_40) v61_42)
abbrev v61_44 : VC := (.seq (.seq (.ops o61_7) v61_27) v61_43)
abbrev v61_45 : VC := (.seq (.ops o61_6) v61_44)
abbrev v61_46 : VC := (.seq (.ops o61_5) v61_45)
abbrev v61_47 : VC := (.seq (.seq (.ops o61_1) v61_4) v61_46)
def ir61 : FC := ⟨1, 80, [.t 2, .t 3], (.seq (.ops o61_0) v61_47)⟩
theorem c61 : compM Tryd.prog [] 61 = some ir61 := by kernel_rfl
attribute [local go_sem] Nat.reduceEqDiff Nat.reduceAdd Nat.reduceMul reduceIte Nat.reduceLeDiff Nat.reduceLT Nat.reduceBEq reduceCtorEq
def badByte (s : List UInt8) : Bool := s.any fun c => !(c == 10 || (valR c).2)
def eqLen (g : List (List Int)) : Bool := g.all fun l => decide (l.length = wid g)
def retR (s : List UInt8) : List (List Int) × Bool :=
 if s.length = 0 ∨ 1353 < s.length ∨ endsB s 10 = false then ([], false)
 else if badByte s then ([], false)
 else if eqLen (stR s).1 then ((stR s).1, decide ((stR s).1.length ≤ 41) && (decide (2 ≤ wid (stR s).1) && decide (wid (stR s).1 ≤ 32)))
 else ([], false)
theorem bad_take {s : List UInt8} {k : Nat} (h : k < s.length) (hb : s[k] ≠ 10) (hv : (valR s[k]).2 = false) : badByte s = true := by
 unfold badByte
 rw [List.any_eq_true]
 exact ⟨s[k], List.getElem_mem h, by simp [hb, hv]⟩
theorem bad_not {s : List UInt8} (h : ∀ k (hk : k < s.length), s[k] = 10 ∨ (valR s[k]).2 = true) : badByte s = false := by
 unfold badByte
 rw [Bool.eq_false_iff]
 intro hc
 rw [List.any_eq_true] at hc
 obtain ⟨c, hc, hn⟩ := hc
 obtain ⟨k, hk, rfl⟩ := List.getElem_of_mem hc
 rcases h k hk with h | h <;> simp [h] at hn
theorem stR_ne {s : List UInt8} (h : endsB s 10 = true) : 0 < (stR s).1.length := by
 rw [stR_end h]
 simp only [List.length_map]
 have := segB_ne 10 s.dropLast
 exact List.length_pos_iff.2 this
theorem stR_len : ∀ (s : List UInt8), (stR s).1.length ≤ s.length ∧ (stR s).2.length ≤ s.length := by
 intro s
 have key : ∀ (k : Nat), k ≤ s.length → (stR (s.take k)).1.length ≤ k ∧ (stR (s.take k)).2.length ≤ k := by
  intro k
  induction k with
  | zero => intro _; simp [stR]
  | succ k ih =>
   intro hk
   have := ih (by omega)
   rw [stR_snoc (by omega)]
   unfold stp
   split
   ·simp; omega
   ·simp; omega
 have := key s.length (Nat.le_refl _)
 rwa [List.take_length] at this
def rw1 (l : List Int) : List CD := [rowC l]
def nw1 (n : Int) : List CD := [.int .i64 n]
theorem rw1_one (g : List (List Int)) : ((g.map rw1).all fun e => e.length == 1) = true := by
 rw [List.all_eq_true]; intro e he; obtain ⟨n, _, rfl⟩ := List.mem_map.1 he; rfl
theorem nw1_one (g : List Int) : ((g.map nw1).all fun e => e.length == 1) = true := by
 rw [List.all_eq_true]; intro e he; obtain ⟨n, _, rfl⟩ := List.mem_map.1 he; rfl
theorem last_at {s : List UInt8} (h : 0 < s.length) : (endsB s 10 = true ↔ s[s.length - 1] = 10) := by
 unfold endsB
 rw [List.getLast?_eq_getElem?, List.getElem?_eq_getElem (by omega)]
 simp
theorem beq10 (b : UInt8) : ((b.toNat : Int) == 10) = decide (b = 10) := by
 rw [Bool.eq_iff_iff]
 simp only [beq_iff_eq, decide_eq_true_eq]
 constructor
 ·intro h; exact UInt8.toNat_inj.1 (by show b.toNat = 10; omega)
 ·rintro rfl; rfl
set_option maxRecDepth 20000 in
set_option maxHeartbeats 8000000 in
theorem parse61D (s : List UInt8) (hs : s.length ≤ 100000) : FSpec Tryd.prog 61 [sv s] (.tup [.c (gridC (retR s).1), bv (retR s).2]) := by
 have hmax : maxLen = 9223372036854775807 := rfl
 refine FSpec_ofP c61 (Nat.le_refl _) (by decide) fun C hP hN hC hpin hL => ?_; rw [init_st]
 simp only [ir61]
 refine WV_seq_ ?_
 (refine WV_op ?_; simp only [go_sem, hP]; (repeat refine qJ ?_))
 refine WV_seq_ (WV_seq_ ?_)
 by_cases h0 : s.length = 0
 ·have hr : retR s = ([], false) := by unfold retR; rw [if_pos (.inl h0)]
  have hs0 : s = [] := List.eq_nil_of_length_eq_zero h0
  subst hs0
  rw [hr]
  (refine WV_op ?_; simp only [go_sem, hP, List.length_nil]; (repeat refine qJ ?_))
  (refine WV_cond rfl (fun h => ?_) (fun h => ?_))
  ·(repeat ((first | refine Va ?_ | refine Vb ?_ | refine Vc ?_ | refine Vd ?_ | refine Ve ?_ | refine Vf ?_); (try simp only [go_sem, hP]); (repeat refine qJ ?_)))
   (refine WV_ret ?_; simp only [thenQ, inQ, RetQ, RetOk, resAll, resA]; simp only [go_sem, tupA, AV.port, AV.portL, exists_eq_left'])
   exact AVle.tup ⟨_, _, rfl, AVle.nil 1, _, _, rfl, AVle.refl _, rfl⟩
  ·simp at h
 by_cases h1 : 1353 < s.length
 ·have hr : retR s = ([], false) := by unfold retR; rw [if_pos (.inr (.inl h1))]
  have hw0 := w64 (n := (s.length : Int) - 1) (by omega) (by omega)
  have hln : ((s.length : Int) - 1).toNat = s.length - 1 := by omega
  rw [hr]
  (refine WV_op ?_; simp only [go_sem, hP, hw0, hln, str_at (show s.length - 1 < s.length by omega)]; (repeat refine qJ ?_))
  (refine WV_cond rfl (fun h => ?_) (fun h => ?_))
  ·(repeat ((first | refine Va ?_ | refine Vb ?_ | refine Vc ?_ | refine Vd ?_ | refine Ve ?_ | refine Vf ?_); (try simp only [go_sem, hP]); (repeat refine qJ ?_)))
   (refine WV_ret ?_; simp only [thenQ, inQ, RetQ, RetOk, resAll, resA]; simp only [go_sem, tupA, AV.port, AV.portL, exists_eq_left'])
   exact AVle.tup ⟨_, _, rfl, AVle.nil 1, _, _, rfl, AVle.refl _, rfl⟩
  ·simp at h; omega
 have hw0 := w64 (n := (s.length : Int) - 1) (by omega) (by omega)
 have hln : ((s.length : Int) - 1).toNat = s.length - 1 := by omega
 have hlast := last_at (s := s) (by omega)
 have h10 := beq10 (s[s.length - 1]'(by omega))
 by_cases h2 : endsB s 10 = true
 ·have h2' := hlast.1 h2
  have hr : retR s = if badByte s then ([], false) else if eqLen (stR s).1 then ((stR s).1, decide ((stR s).1.length ≤ 41) && (decide (2 ≤ wid (stR s).1) && decide (wid (stR s).1 ≤ 32))) else ([], false) := by
   unfold retR
   rw [if_neg (by rintro (h | h | h); exact h0 h; exact h1 h; rw [h2] at h; cases h)]
  rw [h2'] at h10
  (refine WV_op ?_; simp only [go_sem, hP, hw0, hln, str_at (show s.length - 1 < s.length by omega), h2']; (repeat refine qJ ?_))
  (refine WV_cond rfl (fun h => ?_) (fun h => ?_))
  ·exfalso
   have hs0 : s ≠ [] := fun e => h0 (by rw [e]; rfl)
   simp [hs0] at h; omega
  (refine WV_skip ?_; simp only [go_sem])
  refine WV_keep [0] ?_
  simp only [go_sem]
  (repeat ((first | refine Va ?_ | refine Vb ?_ | refine Vc ?_ | refine Vd ?_ | refine Ve ?_ | refine Vf ?_); (try simp only [go_sem, hP]); (repeat refine qJ ?_)))
  refine WV_nilslot 4 39 50 1 (by decide) (by decide) rfl rfl ?_
  simp only [go_sem]
  refine WV_nilslot 5 52 3 1 (by decide) (by decide) rfl rfl ?_
  simp only [go_sem]
  refine WV_loopK K61_1 [39, 52] (fun i : Nat => i ≤ s.length ∧ ∀ k (hk : k < s.length), k < i → s[k] = 10 ∨ (valR s[k]).2 = true) (fun i => s.length - i) (fun i => [(6, iv i), (4, .gr 39), (5, .gr 52)]) (fun i => [(39, .grow 50 1 ((stR (s.take i)).1.map rw1)), (52, .grow 3 1 ((stR (s.take i)).2.map nw1))]) 0 ⟨Nat.zero_le _, fun k _ hk => by omega⟩ ?_ ?_
  ·(refine Sub_of (by simp only [go_sem]; ((repeat' (first | exact EnvLe_e0 _ _ | refine EnvLe_upd ?_ ?_)) <;> ((try simp only [upd_app, e0_app, o0_app, Nat.reduceEqDiff, reduceIte]); first | exact AWk.refl _ _ | exact AWk.int (by omega) | exact AWk.int (by rw [w64 (by omega) (by omega)]; omega) | exact AWk.grow rfl | exact AWk.nil _ | exact AWk.of (by simp [stR])))) (by simp only [go_sem]; exact ObjLe_au))
  ·intro i ⟨hi0, hno⟩
   simp only [go_sem]
   (repeat ((first | refine Va ?_ | refine Vb ?_ | refine Vc ?_ | refine Vd ?_ | refine Ve ?_ | refine Vf ?_); (try simp only [go_sem, hP]); (repeat refine qJ ?_)))
   (refine WV_cond rfl (fun h => ?_) (fun h => ?_))
   ·have hi : i < s.length := by simpa using h
    have hw2 := w64 (n := (i : Int) + 1) (by omega) (by omega)
    have hsn := stR_snoc hi
    have hl1 := stR_len (s.take i)
    have htl : (s.take i).length = i := by rw [List.length_take]; omega
    rw [htl] at hl1
    (repeat ((first | refine Va ?_ | refine Vb ?_ | refine Vc ?_ | refine Vd ?_ | refine Ve ?_ | refine Vf ?_); (try simp only [go_sem, hP, Int.toNat_natCast, Int.ofNat_lt, hi, Int.natCast_nonneg, str_at hi, beq10]); (repeat refine qJ ?_)))
    generalize stR (s.take i) = st at hsn hl1
    obtain ⟨g, row⟩ := st
    simp only at hl1 ⊢
    have n1 := rw1_one g
    have n2 := nw1_one row
    by_cases hc : s[i] = 10
    ·unfold stp at hsn
     rw [if_pos hc] at hsn
     have hl52 : ∀ own : Nat → Ob, AWk (upd own 52 (.grow 3 1 (row.map nw1))) (.gr 52) (.c (rowC row)) := fun own => .inr (.inr (.inl ⟨52, 3, 1, _, rfl, by rw [upd_app, if_pos rfl]; rfl, rfl⟩))
     (refine WV_cond rfl (fun h => ?_) (fun h => ?_))
     ·refine WV_seq_ ?_
      refine WV_sub (σ' := ⟨upd (upd (upd (upd e0 0 (.c (.str s))) 6 (iv i)) 4 (.gr 39)) 5 (.c (rowC row)), upd o0 39 (.grow 50 1 (g.map rw1))⟩) (Sub_of ?_ ?_) ?_
      ·refine EnvLe_upd (hl52 _) ?_
       exact EnvLe_au
      ·exact ObjLe_au
      (refine WV_op ?_; simp only [go_sem, hP, rowC, n1, List.length_map]; (repeat refine qJ ?_))
      (refine WV_exit ?_; simp only [go_sem])
      refine WV_nilslot 5 52 3 1 (by decide) (by decide) rfl rfl ?_
      simp only [go_sem]
      (repeat ((first | refine Va ?_ | refine Vb ?_ | refine Vc ?_ | refine Vd ?_ | refine Ve ?_ | refine Vf ?_); (try simp only [go_sem, hP, hw2]); (repeat refine qJ ?_)))
      refine ⟨i + 1, ⟨by omega, fun k hk hki => ?_⟩, by omega, ?_⟩
      ·by_cases hk2 : k = i
       ·subst hk2; exact .inl hc
       ·exact hno k hk (by omega)
      ·rw [hsn]
       simp only [List.map_append, List.map_cons, List.map_nil]
       exact Sub_au
     ·simp [hc] at h
    ·unfold stp at hsn
     rw [if_neg hc] at hsn
     (refine WV_cond rfl (fun h => ?_) (fun h => ?_))
     ·simp [hc] at h
     ·(refine WV_skip ?_; simp only [go_sem])
      refine WV_seq_ ?_
      (refine WV_op ?_; simp only [go_sem, hP, Int.toNat_natCast, Int.ofNat_lt, hi, Int.natCast_nonneg, str_at hi]; (repeat refine qJ ?_))
      (refine AS_pu (value22 s[i]) ?_; simp only [go_sem, hP]; (repeat refine qJ ?_); (repeat ((first | refine Va ?_ | refine Vb ?_ | refine Vc ?_ | refine Vd ?_ | refine Ve ?_ | refine Vf ?_); (try simp only [go_sem, hP]); (repeat refine qJ ?_))))
      by_cases hv : (valR s[i]).2 = true
      ·rw [hv]
       (refine WV_cond rfl (fun h => ?_) (fun h => ?_))
       ·simp at h
       (repeat ((first | refine Va ?_ | refine Vb ?_ | refine Vc ?_ | refine Vd ?_ | refine Ve ?_ | refine Vf ?_); (try simp only [go_sem, hP, n2, hw2, List.length_map]); (repeat refine qJ ?_)))
       refine ⟨i + 1, ⟨by omega, fun k hk hki => ?_⟩, by omega, ?_⟩
       ·by_cases hk2 : k = i
        ·subst hk2; exact .inr hv
        ·exact hno k hk (by omega)
       ·rw [hsn]
        simp only [List.map_append, List.map_cons, List.map_nil]
        (refine Sub_of (by simp only [go_sem]; ((repeat' (first | exact EnvLe_e0 _ _ | refine EnvLe_upd ?_ ?_)) <;> ((try simp only [upd_app, e0_app, o0_app, Nat.reduceEqDiff, reduceIte]); first | exact AWk.refl _ _ | exact AWk.int (by omega) | exact AWk.int (by rw [w64 (by omega) (by omega)]; omega) | exact AWk.grow rfl | exact AWk.nil _ | exact AWk.of (by simp [nw1])))) (by simp only [go_sem]; exact ObjLe_au))
      ·have hbad := bad_take hi hc (by simpa using hv)
       have hr2 : retR s = ([], false) := by rw [hr, if_pos hbad]
       rw [hr2]
       rw [show (valR s[i]).2 = false from by simpa using hv]
       (refine WV_cond rfl (fun h => ?_) (fun h => ?_))
       ·(repeat ((first | refine Va ?_ | refine Vb ?_ | refine Vc ?_ | refine Vd ?_ | refine Ve ?_ | refine Vf ?_); (try simp only [go_sem, hP]); (repeat refine qJ ?_)))
        (refine WV_ret ?_; simp only [thenQ, inQ, RetQ, RetOk, resAll, resA]; simp only [go_sem, tupA, AV.port, AV.portL, exists_eq_left'])
        exact AVle.tup ⟨_, _, rfl, AVle.nil 1, _, _, rfl, AVle.refl _, rfl⟩
       ·simp at h
   ·have hi : i = s.length := by simp at h; omega
    subst hi
    rw [List.take_length]
    have hr2 := hr
    rw [if_neg (by rw [bad_not fun k hk => hno k hk hk]; simp)] at hr2
    have hl1 := (stR_len s).1
    have hp1 := stR_ne h2
    generalize (stR s).1 = g at hr2 hl1 hp1 ⊢
    refine WV_exit ?_
    simp only [thenQ, inQ, reduceIte, beq_self_eq_true]
    refine WV_sub (σ' := ⟨upd e0 4 (.c (gridC g)), o0⟩) (Sub_of ?_ ?_) ?_
    ·refine EnvLe_upd ?_ (EnvLe_e0 _ _)
     exact .inr (.inr (.inl ⟨39, 50, 1, _, rfl, rfl, rfl⟩))
    ·exact ObjLe_o0 _
    (repeat ((first | refine Va ?_ | refine Vb ?_ | refine Vc ?_ | refine Vd ?_ | refine Ve ?_ | refine Vf ?_); (try simp only [go_sem, hP]); (repeat refine qJ ?_)))
    have hw00 := wid_at hp1
    refine WV_loopK K61_2 [] (fun k : Nat => k ≤ g.length ∧ ∀ m (hm : m < g.length), m < k → g[m].length = wid g) (fun k => g.length - k) (fun k => [(9, iv k)]) (fun _ => []) 0 ⟨Nat.zero_le _, fun m _ h => by omega⟩ ?_ ?_
    ·exact Sub_au
    ·intro k ⟨hk0, hke⟩
     simp only [go_sem]
     (repeat ((first | refine Va ?_ | refine Vb ?_ | refine Vc ?_ | refine Vd ?_ | refine Ve ?_ | refine Vf ?_); (try simp only [go_sem, hP, gridC, List.length_map]); (repeat refine qJ ?_)))
     (refine WV_cond rfl (fun h => ?_) (fun h => ?_))
     ·have hk : k < g.length := by simpa using h
      have hw2 := w64 (n := (k : Int) + 1) (by omega) (by omega)
      (refine WV_skip ?_; simp only [go_sem])
      refine WV_seq_ (WV_block (WV_seq_ ?_))
      (refine WV_op ?_; simp only [go_sem, hP, gridC, rowC, map_getD hk, map_getD hp1, List.length_map, Int.toNat_natCast, Int.toNat_zero, Int.ofNat_lt, hk, hp1, Int.natCast_nonneg, hw00]; (repeat refine qJ ?_))
      by_cases he : g[k].length = wid g
      ·(refine WV_cond rfl (fun h => ?_) (fun h => ?_))
       ·simp [he] at h
       ·(repeat ((first | refine Va ?_ | refine Vb ?_ | refine Vc ?_ | refine Vd ?_ | refine Ve ?_ | refine Vf ?_); (try simp only [go_sem, hP, hw2]); (repeat refine qJ ?_)))
        refine ⟨k + 1, ⟨by omega, fun m hm hmk => ?_⟩, by omega, ?_⟩
        ·by_cases e2 : m = k
         ·subst e2; exact he
         ·exact hke m hm (by omega)
        ·(refine Sub_of (by simp only [go_sem]; ((repeat' (first | exact EnvLe_e0 _ _ | refine EnvLe_upd ?_ ?_)) <;> ((try simp only [upd_app, e0_app, o0_app, Nat.reduceEqDiff, reduceIte]); first | exact AWk.refl _ _ | exact AWk.int (by omega) | exact AWk.int (by rw [w64 (by omega) (by omega)]; omega) | exact AWk.grow rfl | exact AWk.nil _ | exact AWk.of (by simp [gridC])))) (by simp only [go_sem]; exact ObjLe_au))
      ·have hne : eqLen g = false := by
        unfold eqLen
        rw [Bool.eq_false_iff]
        intro hc
        exact he (by simpa using List.all_eq_true.1 hc g[k] (List.getElem_mem hk))
       rw [hne, if_neg (by simp)] at hr2
       rw [hr2]
       (refine WV_cond rfl (fun h => ?_) (fun h => ?_))
       ·(repeat ((first | refine Va ?_ | refine Vb ?_ | refine Vc ?_ | refine Vd ?_ | refine Ve ?_ | refine Vf ?_); (try simp only [go_sem, hP]); (repeat refine qJ ?_)))
        (refine WV_ret ?_; simp only [thenQ, inQ, RetQ, RetOk, resAll, resA]; simp only [go_sem, tupA, AV.port, AV.portL, exists_eq_left'])
        exact AVle.tup ⟨_, _, rfl, AVle.nil 1, _, _, rfl, AVle.refl _, rfl⟩
       ·simp at h; omega
     ·have hk : k = g.length := by simp at h; omega
      subst hk
      have heq : eqLen g = true := by
       unfold eqLen
       rw [List.all_eq_true]
       intro l hl
       obtain ⟨m, hm, rfl⟩ := List.getElem_of_mem hl
       simpa using hke m hm hm
      rw [heq, if_pos rfl] at hr2
      rw [hr2]
      refine WV_exit ?_
      simp only [thenQ, inQ, reduceIte, beq_self_eq_true]
      have hwi := within67 (wid g) 2 32
      refine WV_seq_ ?_
      (refine WV_op ?_; simp only [go_sem, hP, gridC, rowC, map_getD hp1, List.length_map, Int.toNat_zero, Int.ofNat_lt, hp1, Int.natCast_nonneg, hw00]; (repeat refine qJ ?_))
      (refine AG_pu (fun hG => hwi) ?_; simp only [go_sem, hP]; (repeat refine qJ ?_); (repeat ((first | refine Va ?_ | refine Vb ?_ | refine Vc ?_ | refine Vd ?_ | refine Ve ?_ | refine Vf ?_); (try simp only [go_sem, hP]); (repeat refine qJ ?_))))
      (refine WV_ret ?_; simp only [thenQ, inQ, RetQ, RetOk, resAll, resA]; simp only [go_sem, tupA, AV.port, AV.portL, exists_eq_left'])
      have hcast : decide ((g.length : Int) ≤ 41) = decide (g.length ≤ 41) := by rw [Bool.eq_iff_iff]; simp; omega
      have hc2 : decide ((2 : Int) ≤ (wid g : Int)) = decide (2 ≤ wid g) := by rw [Bool.eq_iff_iff]; simp; omega
      have hc3 : decide ((wid g : Int) ≤ 32) = decide (wid g ≤ 32) := by rw [Bool.eq_iff_iff]; simp; omega
      rw [hcast, hc2, hc3]
      exact AVle.refl _
 ·have hr : retR s = ([], false) := by unfold retR; rw [if_pos (.inr (.inr (by simpa using h2)))]
  have h2' : s[s.length - 1]'(by omega) ≠ 10 := fun h => h2 (hlast.2 h)
  rw [hr]
  (refine WV_op ?_; simp only [go_sem, hP, hw0, hln, str_at (show s.length - 1 < s.length by omega), bne, h10]; (repeat refine qJ ?_))
  (refine WV_cond rfl (fun h => ?_) (fun h => ?_))
  ·(repeat ((first | refine Va ?_ | refine Vb ?_ | refine Vc ?_ | refine Vd ?_ | refine Ve ?_ | refine Vf ?_); (try simp only [go_sem, hP]); (repeat refine qJ ?_)))
   (refine WV_ret ?_; simp only [thenQ, inQ, RetQ, RetOk, resAll, resA]; simp only [go_sem, tupA, AV.port, AV.portL, exists_eq_left'])
   exact AVle.tup ⟨_, _, rfl, AVle.nil 1, _, _, rfl, AVle.refl _, rfl⟩
  ·exfalso
   simp at h
   first | exact h2' h.2.2 | exact h2' h.2
end Go.Proofs.YtlmfdmlochpfcaaDoor

namespace Go.Proofs.YtlmfdmlochpfcaaDoor
open Go Go.V
attribute [local go_sem] Nat.reduceEqDiff Nat.reduceAdd Nat.reduceMul reduceIte Nat.reduceLeDiff Nat.reduceLT Nat.reduceBEq reduceCtorEq
theorem text_mem : ∀ {rows : List (List UInt8)} {c : UInt8}, c ∈ textG rows → c = 10 ∨ ∃ l ∈ rows, c ∈ l
 | [], c, h => by simp [textG] at h
 | l :: t, c, h => by
  rw [textG_cons, List.mem_append, List.mem_cons] at h
  rcases h with h | h | h
  ·exact .inr ⟨l, by simp, h⟩
  ·exact .inl h
  ·rcases text_mem h with h | ⟨m, hm, h⟩
   ·exact .inl h
   ·exact .inr ⟨m, by simp [hm], h⟩
theorem rowsR_vals {rows : List (List UInt8)} (h : ∀ l ∈ rows, ∀ b ∈ l, BOk b) : rows.map rowR = valsG rows := List.map_congr_left fun l hl => rowR_vq (h l hl)
theorem vals_wid {rows : List (List UInt8)} {w : Nat} (h : SOk rows w) : wid (valsG rows) = w := by
 have hp := h.pos
 unfold wid valsG
 rw [map_getD (d := []) hp, List.length_map]
 exact h.row _ (List.getElem_mem hp)
theorem vals_len (rows : List (List UInt8)) : (valsG rows).length = rows.length := by simp [valsG]
theorem stR_rows {rows : List (List UInt8)} {w : Nat} (h : SOk rows w) : stR (textG rows) = (valsG rows, []) := by
 have hne : rows ≠ [] := by rintro rfl; exact absurd h.pos (by simp)
 obtain ⟨h1, h2⟩ := text_seg rows hne h.nl
 rw [stR_end h1, h2, rowsR_vals h.byte]
theorem retR_some {s : List UInt8} {rows : List (List UInt8)} (h : parseP s = some rows) : retR s = (valsG rows, true) := by
 obtain ⟨rfl, hok⟩ := parse_is h
 generalize (rows.headD []).length = w at hok
 have hne : rows ≠ [] := by rintro rfl; exact absurd hok.pos (by simp)
 obtain ⟨h1, h2⟩ := text_seg rows hne hok.nl
 have hl := textG_length rows w hok.row
 have hb : rows.length * (w + 1) ≤ 41 * 33 := Nat.mul_le_mul hok.len (by have := hok.w32; omega)
 have hb2 : 1 * 1 ≤ rows.length * (w + 1) := Nat.mul_le_mul hok.pos (by omega)
 unfold retR
 rw [if_neg (by rw [h1]; rintro (h | h | h); omega; omega; cases h), stR_rows hok]
 rw [if_neg]
 ·have he : eqLen (valsG rows) = true := by
   unfold eqLen
   rw [List.all_eq_true]
   intro l hl
   rw [vals_wid hok]
   simp only [valsG, List.mem_map] at hl
   obtain ⟨x, hx, rfl⟩ := hl
   simpa using hok.row x hx
  rw [if_pos he, vals_wid hok, vals_len]
  have h3 := hok.len
  have h4 := hok.w2
  have h5 := hok.w32
  simp [h3, h4, h5]
 ·rw [bad_not]
  ·simp
  ·intro k hk
   rcases text_mem (List.getElem_mem hk) with h | ⟨l, hl, hc⟩
   ·exact .inl h
   ·exact .inr (valR_iff.2 (hok.byte l hl _ hc))
theorem seg_sub {s : List UInt8} (h : endsB s 10 = true) {l : List UInt8} (hl : l ∈ segB 10 s.dropLast) {b : UInt8} (hb : b ∈ l) : b ∈ s := by
 rw [← seg_text' h]
 unfold textG
 rw [List.mem_flatMap]
 exact ⟨l, hl, by simp [hb]⟩
theorem retR_none {s : List UInt8} (h : parseP s = none) : (retR s).2 = false := by
 rw [Bool.eq_false_iff]
 intro hc
 unfold retR at hc
 split at hc
 ·cases hc
 ·rename_i h0
  have h10 : endsB s 10 = true := by
   cases he : endsB s 10
   ·exact (h0 (.inr (.inr he))).elim
   ·rfl
  split at hc
  ·cases hc
  ·rename_i hbad
   split at hc
   ·rename_i heq
    simp only [Bool.and_eq_true, decide_eq_true_eq] at hc
    rw [stR_end h10] at hc heq
    simp only [List.length_map] at hc
    obtain ⟨c1, c2, c3⟩ := hc
    have hbytes : ∀ l ∈ segB 10 s.dropLast, ∀ b ∈ l, BOk b := by
     intro l hl b hb
     have hbs := seg_sub h10 hl hb
     have hn : b ≠ 10 := fun e => segB_nl 10 _ l hl (e ▸ hb)
     refine valR_iff.1 ?_
     cases hv : (valR b).2
     ·exfalso
      apply hbad
      unfold badByte
      rw [List.any_eq_true]
      exact ⟨b, hbs, by simp [hn, hv]⟩
     ·rfl
    have hlens : ∀ l ∈ segB 10 s.dropLast, l.length = wid ((segB 10 s.dropLast).map rowR) := by
     intro l hl
     have := List.all_eq_true.1 heq (rowR l) (List.mem_map_of_mem hl)
     simpa [rowR] using this
    have hhead : ((segB 10 s.dropLast).headD []).length = wid ((segB 10 s.dropLast).map rowR) := by
     cases hsg : segB 10 s.dropLast with
     | nil => exact (segB_ne _ _ hsg).elim
     | cons x t => rw [hsg] at hlens; exact hlens x (by simp)
    have hal := allOk_of (w := wid ((segB 10 s.dropLast).map rowR)) 0 (segB 10 s.dropLast) (fun l hl => ⟨by rw [hlens l hl]; exact c2, by rw [hlens l hl]; exact c3, hlens l hl, hbytes l hl⟩) (by omega)
    unfold parseP at h
    rw [if_pos h10, hhead, if_pos hal] at h
    cases h
   ·cases hc
end Go.Proofs.YtlmfdmlochpfcaaDoor

namespace Go.Proofs.YtlmfdmlochpfcaaDoor
open Go Go.V
namespace W
abbrev o61_0 : List Ins := [⟨(some 2), .mv (.k (.c (.raw (.slice none 0 0)))), none, true⟩,
 ⟨(some 3), .mv (.k (.c (.bool false))), none, true⟩]
abbrev o61_1 : List Ins := [⟨(some 10), .mv (.t 0), none, true⟩,
 ⟨(some 11), .prim .slen [(.t 10)], none, true⟩,
 ⟨(some 12), .bin .eql (.t 11) (.k (.c (.int .i64 0))), none, true⟩,
 ⟨(some 13), .mv (.t 12), none, true⟩,
 ⟨(some 14), .mv (.t 0), (some (13, false)), true⟩,
 ⟨(some 15), .prim .slen [(.t 14)], (some (13, false)), true⟩,
 ⟨(some 16), .bin .gtr (.t 15) (.k (.c (.int .i64 1353))), (some (13, false)), true⟩,
 ⟨(some 17), .pick (.t 13) (.k (.c (.bool true))) (.t 16), none, true⟩,
 ⟨(some 18), .mv (.t 17), none, true⟩,
 ⟨(some 19), .mv (.t 0), (some (18, false)), true⟩,
 ⟨(some 20), .mv (.t 0), (some (18, false)), true⟩,
 ⟨(some 21), .prim .slen [(.t 20)], (some (18, false)), true⟩,
 ⟨(some 22), .bin .sub (.t 21) (.k (.c (.int .i64 1))), (some (18, false)), true⟩,
 ⟨(some 23), .prim .sidx [(.t 19), (.t 22)], (some (18, false)), true⟩,
 ⟨(some 24), .bin .neq (.t 23) (.k (.c (.int .u8 10))), (some (18, false)), true⟩,
 ⟨(some 25), .pick (.t 18) (.k (.c (.bool true))) (.t 24), none, true⟩]
abbrev o61_2 : List Ins := [⟨(some 2), .mv (.k (.c (.raw (.slice none 0 0)))), none, true⟩,
 ⟨(some 3), .mv (.k (.c (.bool false))), none, true⟩]
abbrev v61_3 : VC := (.seq (.ops o61_2) .ret)
abbrev v61_4 : VC := (.cond (.t 25) v61_3 .skip)
abbrev o61_5 : List Ins := [⟨(some 4), .mv (.k (.c (.raw (.slice none 0 0)))), none, true⟩]
abbrev o61_6 : List Ins := [⟨(some 5), .mv (.k (.c (.raw (.slice none 0 0)))), none, true⟩]
abbrev o61_7 : List Ins := [⟨(some 6), .mv (.k (.c (.int .i64 0))), none, true⟩]
abbrev o61_8 : List Ins := [⟨(some 26), .mv (.t 6), none, true⟩,
 ⟨(some 27), .mv (.t 0), none, true⟩,
 ⟨(some 28), .prim .slen [(.t 27)], none, true⟩,
 ⟨(some 29), .bin .lss (.t 26) (.t 28), none, true⟩]
abbrev v61_9 : VC := (.cond (.t 29) .skip (.exit 0))
abbrev o61_10 : List Ins := [⟨(some 32), .mv (.t 0), none, true⟩,
 ⟨(some 33), .mv (.t 6), none, true⟩,
 ⟨(some 34), .prim .sidx [(.t 32), (.t 33)], none, true⟩,
 ⟨(some 35), .bin .eql (.t 34) (.k (.c (.int .u8 10))), none, true⟩]
abbrev o61_11 : List Ins := [⟨(some 36), .mv (.t 4), none, true⟩,
 ⟨(some 37), .mv (.t 5), none, true⟩,
 ⟨(some 38), .bslv 50 1 [(.t 37)], none, true⟩,
 ⟨(some 39), .appv 50 1 24 (.t 36) (.t 38), none, true⟩,
 ⟨(some 4), .mv (.t 39), none, true⟩,
 ⟨(some 5), .mv (.k (.c (.raw (.slice none 0 0)))), none, true⟩]
abbrev v61_12 : VC := (.seq (.ops o61_11) (.exit 1))
abbrev v61_13 : VC := (.cond (.t 35) v61_12 .skip)
abbrev o61_14 : List Ins := [⟨(some 41), .mv (.t 0), none, true⟩,
 ⟨(some 42), .mv (.t 6), none, true⟩,
 ⟨(some 43), .prim .sidx [(.t 41), (.t 42)], none, true⟩,
 ⟨(some 44), .call (.k (.fn 22 [])) [(.t 43)], none, true⟩,
 ⟨(some 40), .mv (.t 44), none, true⟩,
 ⟨(some 45), .ext (.t 40) 0, none, true⟩,
 ⟨(some 46), .ext (.t 40) 1, none, true⟩,
 ⟨(some 7), .mv (.t 45), none, true⟩,
 ⟨(some 8), .mv (.t 46), none, true⟩]
abbrev o61_15 : List Ins := [⟨(some 47), .mv (.t 8), none, true⟩,
 ⟨(some 48), .un .not (.t 47), none, true⟩]
abbrev o61_16 : List Ins := [⟨(some 2), .mv (.k (.c (.raw (.slice none 0 0)))), none, true⟩,
 ⟨(some 3), .mv (.k (.c (.bool false))), none, true⟩]
abbrev v61_17 : VC := (.seq (.ops o61_16) .ret)
abbrev v61_18 : VC := (.cond (.t 48) v61_17 .skip)
abbrev o61_19 : List Ins := [⟨(some 49), .mv (.t 5), none, true⟩,
 ⟨(some 50), .mv (.t 7), none, true⟩,
 ⟨(some 51), .bsl 3 1 [(.t 50)], none, true⟩,
 ⟨(some 52), .appv 3 1 8 (.t 49) (.t 51), none, true⟩,
 ⟨(some 5), .mv (.t 52), none, true⟩]
abbrev v61_20 : VC := (.seq (.seq (.ops o61_15) v61_18) (.ops o61_19))
abbrev v61_21 : VC := (.seq (.ops o61_14) v61_20)
abbrev v61_22 : VC := (.seq (.seq (.ops o61_10) v61_13) v61_21)
abbrev o61_23 : List Ins := [⟨(some 30), .mv (.t 6), none, true⟩,
 ⟨(some 31), .bin .add (.t 30) (.k (.c (.int .i64 1))), none, true⟩,
 ⟨(some 6), .mv (.t 31), none, true⟩]
abbrev v61_24 : VC := (.seq (.block 1 v61_22) (.ops o61_23))
abbrev v61_25 : VC := (.seq (.seq (.ops o61_8) v61_9) v61_24)
-- K61_1: changed and kept: [6, 4, 5]
abbrev K61_1 : List Nat := [0]
abbrev v61_26 : VC := (.loop v61_25)
abbrev v61_27 : VC := (.block 0 v61_26)
abbrev o61_28 : List Ins := [⟨(some 9), .mv (.k (.c (.int .i64 0))), none, true⟩]
abbrev o61_29 : List Ins := [⟨(some 53), .mv (.t 9), none, true⟩,
 ⟨(some 54), .mv (.t 4), none, true⟩,
 ⟨(some 55), .len (.t 54), none, true⟩,
 ⟨(some 56), .bin .lss (.t 53) (.t 55), none, true⟩]
abbrev v61_30 : VC := (.cond (.t 56) .skip (.exit 2))
abbrev o61_31 : List Ins := [⟨(some 59), .mv (.t 4), none, false⟩,
 ⟨(some 60), .mv (.t 9), none, false⟩,
 ⟨(some 61), .ia 1 (.t 59) (.t 60), none, false⟩,
 ⟨(some 62), .ld true 1 (.t 61), none, false⟩,
 ⟨(some 63), .len (.t 62), none, false⟩,
 ⟨(some 64), .mv (.t 4), none, false⟩,
 ⟨(some 65), .ia 1 (.t 64) (.k (.c (.int .i64 0))), none, false⟩,
 ⟨(some 66), .ld true 1 (.t 65), none, false⟩,
 ⟨(some 67), .len (.t 66), none, false⟩,
 ⟨(some 68), .bin .neq (.t 63) (.t 67), none, true⟩]
abbrev o61_32 : List Ins := [⟨(some 2), .mv (.k (.c (.raw (.slice none 0 0)))), none, true⟩,
 ⟨(some 3), .mv (.k (.c (.bool false))), none, true⟩]
abbrev v61_33 : VC := (.seq (.ops o61_32) .ret)
abbrev v61_34 : VC := (.cond (.t 68) v61_33 .skip)
abbrev v61_35 : VC := (.seq (.dops o61_31) v61_34)
abbrev o61_36 : List Ins := [⟨(some 57), .mv (.t 9), none, true⟩,
 ⟨(some 58), .bin .add (.t 57) (.k (.c (.int .i64 1))), none, true⟩,
 ⟨(some 9), .mv (.t 58), none, true⟩]
abbrev v61_37 : VC := (.seq (.block 3 v61_35) (.ops o61_36))
abbrev v61_38 : VC := (.seq (.seq (.ops o61_29) v61_30) v61_37)
-- K61_2: changed and kept: [9]
abbrev K61_2 : List Nat := [4]
abbrev v61_39 : VC := (.loop v61_38)
abbrev v61_40 : VC := (.block 2 v61_39)
abbrev o61_41 : List Ins := [⟨(some 69), .mv (.t 4), none, true⟩,
 ⟨(some 70), .mv (.t 4), none, true⟩,
 ⟨(some 71), .len (.t 70), none, true⟩,
 ⟨(some 72), .bin .leq (.t 71) (.k (.c (.int .i64 41))), none, true⟩,
 ⟨(some 73), .mv (.t 72), none, true⟩,
 ⟨(some 74), .mv (.t 4), (some (73, true)), true⟩,
 ⟨(some 75), .ia 1 (.t 74) (.k (.c (.int .i64 0))), (some (73, true)), true⟩,
 ⟨(some 76), .ld true 1 (.t 75), (some (73, true)), true⟩,
 ⟨(some 77), .len (.t 76), (some (73, true)), true⟩,
 ⟨(some 78), .call (.k (.fn 67 [])) [(.t 77), (.k (.c (.int .i64 2))), (.k (.c (.int .i64 32)))], (some (73, true)), true⟩,
 ⟨(some 79), .pick (.t 73) (.t 78) (.k (.c (.bool false))), none, true⟩,
 ⟨(some 2), .mv (.t 69), none, true⟩,
 ⟨(some 3), .mv (.t 79), none, true⟩]
abbrev v61_42 : VC := (.seq (.ops o61_41) .ret)
abbrev v61_43 : VC := (.seq (.seq (.ops o61_28) v61_40) v61_42)
abbrev v61_44 : VC := (.seq (.seq (.ops o61_7) v61_27) v61_43)
abbrev v61_45 : VC := (.seq (.ops o61_6) v61_44)
abbrev v61_46 : VC := (.seq (.ops o61_5) v61_45)
abbrev v61_47 : VC := (.seq (.seq (.ops o61_1) v61_4) v61_46)
def ir61 : FC := ⟨1, 80, [.t 2, .t 3], (.seq (.ops o61_0) v61_47)⟩
theorem c61 : compM Tryd.prog [100038,100039,100052] 61 = some ir61 := by kernel_rfl
end W
attribute [local go_sem] Nat.reduceEqDiff Nat.reduceAdd Nat.reduceMul reduceIte Nat.reduceLeDiff Nat.reduceLT Nat.reduceBEq reduceCtorEq
def GrowL (D : Nat) (l : List Int) (z : AV) (x : Ob) : Prop :=
 (l = [] ∧ z = .c (.raw (.slice none 0 0)) ∧ x = .none) ∨ (l ≠ [] ∧ ∃ cap j, l.length ≤ cap ∧ cap ≤ maxLen ∧ cap ≤ l.length + j ∧ z = .vw 1 D 0 l.length cap ∧ x = .box (cellsG icds l j))
theorem icells_take (s : List Int) (j : Nat) : List.take (s.length * 1) (cellsG icds s j) = cellsG icds s 0 := cellsG_take icds_one s j
theorem icells_app (d : Nat) (s : List Int) (b : Int) (j : Nat) : AV.prgL d (cellsG icds s 0 ++ List.map AV.c [[CD.int .i64 b]].flatten ++ List.replicate j .non) = cellsG icds (s ++ [b]) j := by
 have e : cellsG icds s 0 ++ List.map AV.c [[CD.int .i64 b]].flatten ++ List.replicate j .non = cellsG icds (s ++ [b]) j := by simp [cellsG, flatG, icds]
 rw [e, prg_cellsG]
theorem icells_new (d : Nat) (b : Int) (j : Nat) : AV.prgL d (List.map AV.c [[CD.int .i64 b]].flatten ++ List.replicate j .non) = cellsG icds [b] j := by
 have := icells_app d [] b j
 simpa [cellsG, flatG] using this
def ParseR (g : List (List Int)) (r : AV) (os : List Ob) : Prop := ∃ (R : List IRow) (j cap : Nat), gi R = g ∧ R.length ≤ cap ∧ cap ≤ maxLen ∧ r = .tup [.vw 1 1000 0 R.length cap, bv true] ∧ os = gridL icds 1 R j
theorem cur_pos {rows : List (List UInt8)} {w : Nat} (h : SOk rows w) {i : Nat} (hi : i < (textG rows).length) (hc : (textG rows)[i] = 10) : (stR ((textG rows).take i)).2 ≠ [] := by
 -- all rows that come out are as wide as the others
 intro he
 have hn := stR_snoc hi
 unfold stp at hn
 rw [if_pos hc, he] at hn
 have key : ∀ (m : Nat), m + (i + 1) ≤ (textG rows).length → [] ∈ (stR ((textG rows).take (m + (i + 1)))).1 := by
  intro m
  induction m with
  | zero => intro _; rw [Nat.zero_add, hn]; simp
  | succ m ih =>
   intro hm
   have := ih (by omega)
   rw [show m + 1 + (i + 1) = (m + (i + 1)) + 1 from by omega, stR_snoc (by omega)]
   unfold stp
   split
   ·simp only [List.mem_append]; exact .inl this
   ·exact this
 have := key ((textG rows).length - (i + 1)) (by omega)
 rw [show (textG rows).length - (i + 1) + (i + 1) = (textG rows).length by omega, List.take_length, stR_rows h] at this
 simp only [valsG, List.mem_map] at this
 obtain ⟨l, hl, he⟩ := this
 have hw := h.row l hl
 have h2 := h.w2
 have := congrArg List.length he
 simp at this
 rw [this] at hw
 simp at hw; omega
theorem fold_mono : ∀ (l : List UInt8) (p : List (List Int) × List Int), p.1.length ≤ (l.foldl stp p).1.length
 | [], p => Nat.le_refl _
 | c :: l, p => by
  refine Nat.le_trans ?_ (fold_mono l (stp p c))
  unfold stp
  split <;> simp
theorem stR_mono (s : List UInt8) (i : Nat) : (stR (s.take i)).1.length ≤ (stR s).1.length := by
 have := fold_mono (s.drop i) (stR (s.take i))
 unfold stR at this ⊢
 rwa [← List.foldl_append, List.take_append_drop] at this
set_option maxRecDepth 20000 in
set_option maxHeartbeats 16000000 in
theorem parse61N {rows : List (List UInt8)} {w : Nat} (h : SOk rows w) : FSpecN Tryd.prog 61 [sv (textG rows)] (ParseR (valsG rows)) := by
 have hmax : maxLen = 9223372036854775807 := rfl
 have hne : rows ≠ [] := by rintro rfl; exact absurd h.pos (by simp)
 obtain ⟨he10, hseg⟩ := text_seg rows hne h.nl
 have hl := textG_length rows w h.row
 have hb : rows.length * (w + 1) ≤ 41 * 33 := Nat.mul_le_mul h.len (by have := h.w32; omega)
 have hb2 : 1 * 1 ≤ rows.length * (w + 1) := Nat.mul_le_mul h.pos (by omega)
 have hcur := fun i hi hc => cur_pos h (i := i) hi hc
 have hst := stR_rows h
 have hbyte : ∀ k (hk : k < (textG rows).length), (textG rows)[k] = 10 ∨ (valR (textG rows)[k]).2 = true := by
  intro k hk
  rcases text_mem (List.getElem_mem hk) with e | ⟨l, hl, hc⟩
  ·exact .inl e
  ·exact .inr (valR_iff.2 (h.byte l hl _ hc))
 generalize hs : textG rows = s at he10 hl hcur hst hbyte
 have h41 := h.len
 have hSok := h
 have hwide := h.w32
 have hw2' := h.w2
 have hspos : 0 < s.length := by omega
 have hsmax : s.length ≤ 1353 := by omega
 clear hl hb hb2
 have hlast := (last_at (s := s) (by omega)).1 he10
 have hw0 := w64 (n := (s.length : Int) - 1) (by omega) (by omega)
 have hln : ((s.length : Int) - 1).toNat = s.length - 1 := by omega
 refine FSpecN_ofP W.c61 (Nat.le_refl _) (by decide) fun C hP hN hC hpin hL => ?_
 simp only [W.ir61]
 refine WV_seq_ ?_
 (refine WV_op ?_; simp only [go_sem, hP]; (repeat refine qJ ?_))
 refine WV_seq_ (WV_seq_ ?_)
 (refine WV_op ?_; simp only [go_sem, hP, hw0, hln, str_at (show s.length - 1 < s.length by omega), hlast]; (repeat refine qJ ?_))
 (refine WV_cond rfl (fun h => ?_) (fun h => ?_))
 ·exfalso
  have hs0 : s ≠ [] := fun e => by rw [e] at hspos; simp at hspos
  simp [hs0] at h; omega
 (refine WV_skip ?_; simp only [go_sem])
 refine WV_keep [0] ?_
 simp only [go_sem]
 (repeat ((first | refine Va ?_ | refine Vb ?_ | refine Vc ?_ | refine Vd ?_ | refine Ve ?_ | refine Vf ?_); (try simp only [go_sem, hP]); (repeat refine qJ ?_)))
 refine WV_loopS (fun p : Nat × List IRow × (AV × Ob) × (AV × Ob) => ⟨upd (upd (upd (upd e0 0 (sv s)) 6 (iv p.1)) 4 p.2.2.1.1) 5 p.2.2.2.1, fam 1001 icds p.2.1 (upd (upd o0 39 p.2.2.1.2) 52 p.2.2.2.2)⟩) (fun p => p.1 ≤ s.length ∧ gi p.2.1 = (stR (s.take p.1)).1 ∧ GrowG 1001 39 p.2.1 p.2.2.1.1 p.2.2.1.2 ∧ GrowL 52 (stR (s.take p.1)).2 p.2.2.2.1 p.2.2.2.2) (fun p => s.length - p.1) (0, [], (.c (.raw (.slice none 0 0)), .none), (.c (.raw (.slice none 0 0)), .none)) ⟨Nat.zero_le _, rfl, GrowG.nil _ _, .inl ⟨rfl, rfl, rfl⟩⟩ ?_ ?_
 ·refine Sub_of (by exact EnvLe_au) ?_
  rw [fam_nil]
  intro n
  right
  simp only [upd_app]
  split
  ·rfl
  ·split <;> rfl
 ·rintro ⟨i, R, ⟨y, x⟩, ⟨z, xz⟩⟩ ⟨hi0, hgi, hg, hz⟩
  simp only at hi0 hgi hg hz ⊢
  (repeat ((first | refine Va ?_ | refine Vb ?_ | refine Vc ?_ | refine Vd ?_ | refine Ve ?_ | refine Vf ?_); (try simp only [go_sem, hP]); (repeat refine qJ ?_)))
  (refine WV_cond rfl (fun h => ?_) (fun h => ?_))
  ·have hi : i < s.length := by simpa using h
   have hw2 := w64 (n := (i : Int) + 1) (by omega) (by omega)
   have hsn := stR_snoc hi
   have hl1 := stR_len (s.take i)
   have hRl : R.length = (stR (s.take i)).1.length := by rw [← hgi, gi_len]
   have htl : (s.take i).length = i := by rw [List.length_take]; omega
   rw [htl] at hl1
   have hci := hcur i hi
   have hmo := stR_mono s i
   rw [hst, vals_len] at hmo
   have hr41 := h41
   have hbi := hbyte i hi
   (repeat ((first | refine Va ?_ | refine Vb ?_ | refine Vc ?_ | refine Vd ?_ | refine Ve ?_ | refine Vf ?_); (try simp only [go_sem, hP, Int.toNat_natCast, Int.ofNat_lt, hi, Int.natCast_nonneg, str_at hi, beq10]); (repeat refine qJ ?_)))
   generalize stR (s.take i) = st at hsn hl1 hgi hz hRl hci hmo
   obtain ⟨g, row⟩ := st
   simp only at hl1 hgi hz hRl hci hmo ⊢
   by_cases hc : s[i] = 10
   ·unfold stp at hsn
    rw [if_pos hc] at hsn
    rcases hz with ⟨h1, _, _⟩ | ⟨_, cap, j, c1, c2, c3, rfl, rfl⟩
    ·exact (hci hc h1).elim
    (refine WV_cond rfl (fun h => ?_) (fun h => ?_))
    ·have hyd := hg.dg.1
     have hyv := hg.dg.2
     refine WV_seq_ ?_
     (refine WV_split 2 ?_; simp only [List.take_succ_cons, List.take_zero, List.take_nil, List.drop_succ_cons, List.drop_zero, List.drop_nil]; simp only [go_sem, hP, hyd, hyv]; (repeat refine qJ ?_))
     refine ⟨hyd, ?_⟩
     refine SOps_addrow (cds := icds) (b := 1001) (D := 39) (E := 52) (B := 38) (tr := 37) (tg := 36) (R := R) (l := row) (j := j) (cap := cap) (y := y) (x := x) [0, 6] hpin (by decide) (by decide) (by decide) (by decide) (by decide) (by decide) rfl hyv (by decide) hg (ObjLe.rfl' _) (by omega) (by decide) (by rfl) hg.any ?_
     intro c4 j4 v1 v2 v3
     refine SOps_ops ?_
     simp only [go_sem, keepE]
     (refine WV_exit ?_; simp only [go_sem])
     (repeat ((first | refine Va ?_ | refine Vb ?_ | refine Vc ?_ | refine Vd ?_ | refine Ve ?_ | refine Vf ?_); (try simp only [go_sem, hP, hw2]); (repeat refine qJ ?_)))
     have hrl2 : (R ++ [(⟨row, j, cap⟩ : IRow)]).length = R.length + 1 := by simp
     refine ⟨(i + 1, R ++ [⟨row, j, cap⟩], (.vw 1 39 0 (R.length + 1) c4, .box (refs 1001 1 0 (R ++ [⟨row, j, cap⟩]) ++ List.replicate j4 .non)), (.c (.raw (.slice none 0 0)), .none)), ⟨by simp only; omega, ?_, ?_, ?_⟩, by simp only; omega, ?_⟩
     ·simp only [hsn]
      unfold gi at hgi ⊢
      rw [List.map_append, hgi]; rfl
     ·simp only
      rw [← hrl2]
      exact GrowG.some (by simp) (by rw [hrl2]; exact v1) v2 (by rw [hrl2]; omega)
     ·simp only [hsn]
      exact .inl ⟨rfl, rfl, rfl⟩
     ·simp only
      refine Sub_of ?_ (ObjLe_fam fun n => ?_)
      ·exact EnvLe_au
      ·simp only [upd_app]
       split
       ·rename_i e; subst e; right; rfl
       ·left; rfl
    ·simp [hc] at h
   ·unfold stp at hsn
    rw [if_neg hc] at hsn
    have hyd := hg.dg.1
    have hyv := hg.dg.2
    obtain ⟨o1, ho1⟩ : ∃ o1, o1 = upd o0 39 x := ⟨_, rfl⟩
    have gp : ∀ d, d ≠ 39 → d < 1001 → AV.prg d y = y ∧ Ob.prg d x = x := fun d h1 h2 => hg.prg h1 h2
    have gq : ∀ d, d ≠ 39 → d < 1001 → prgO d o1 = o1 := fun d h1 h2 => by rw [ho1, prgO_upd, prgO_o0, (gp d h1 h2).2]
    have gz : ∀ d, d ≠ 39 → o1 d = .none := fun d h1 => by rw [ho1, upd_app, if_neg h1]; rfl
    have p51 := gp 51 (by decide) (by decide)
    have q51 := gq 51 (by decide) (by decide)
    have z51 := gz 51 (by decide)
    have p52 := gp 52 (by decide) (by decide)
    have q52 := gq 52 (by decide) (by decide)
    have z52 := gz 52 (by decide)
    rw [← ho1]
    (refine WV_cond rfl (fun h => ?_) (fun h => ?_))
    ·simp [hc] at h
    ·have hv := hbi.resolve_left hc
     have hend : ∀ (c3 j3 : Nat) (own : Nat → Ob) (env : Nat → AV), row.length + 1 ≤ c3 → c3 ≤ maxLen → c3 ≤ row.length + 1 + j3 → EnvLe own env (upd (upd (upd (upd e0 0 (sv s)) 6 (iv ((i : Int) + 1))) 4 y) 5 (.vw 1 52 0 (row.length + 1) c3)) → ObjLe own (fam 1001 icds R (upd o1 52 (.box (cellsG icds (row ++ [(valR s[i]).1]) j3)))) →
       ∃ i' : Nat × List IRow × (AV × Ob) × (AV × Ob), (i'.1 ≤ s.length ∧ gi i'.2.1 = (stR (s.take i'.1)).1 ∧ GrowG 1001 39 i'.2.1 i'.2.2.1.1 i'.2.2.1.2 ∧ GrowL 52 (stR (s.take i'.1)).2 i'.2.2.2.1 i'.2.2.2.2) ∧ s.length - i'.1 < s.length - i ∧ Sub ⟨env, own⟩ ⟨upd (upd (upd (upd e0 0 (sv s)) 6 (iv i'.1)) 4 i'.2.2.1.1) 5 i'.2.2.2.1, fam 1001 icds i'.2.1 (upd (upd o0 39 i'.2.2.1.2) 52 i'.2.2.2.2)⟩ := by
      intro c3 j3 own env c1 c2 c3' he ho
      have hrl : (row ++ [(valR s[i]).1]).length = row.length + 1 := by simp
      refine ⟨(i + 1, R, (y, x), (.vw 1 52 0 (row.length + 1) c3, .box (cellsG icds (row ++ [(valR s[i]).1]) j3))), ⟨by simp only; omega, ?_, hg, ?_⟩, by simp only; omega, ?_⟩
      ·simp only [hsn, hgi]
      ·simp only [hsn]
       exact .inr ⟨by simp, c3, j3, by rw [hrl]; exact c1, c2, by rw [hrl]; exact c3', by rw [hrl], rfl⟩
      ·simp only
       rw [← ho1]
       exact Sub_of he ho
     (refine WV_skip ?_; simp only [go_sem])
     refine WV_seq_ ?_
     rcases hz with ⟨rfl, rfl, rfl⟩ | ⟨hrn, cap, j, c1, c2, c3, rfl, rfl⟩
     ·(refine WV_op ?_; simp only [go_sem, hP, Int.toNat_natCast, Int.ofNat_lt, hi, Int.natCast_nonneg, str_at hi]; (repeat refine qJ ?_))
      (refine AS_pu (value22 s[i]) ?_; simp only [go_sem, hP, hv]; (repeat refine qJ ?_); (repeat ((first | refine Va ?_ | refine Vb ?_ | refine Vc ?_ | refine Vd ?_ | refine Ve ?_ | refine Vf ?_); (try simp only [go_sem, hP, hv]); (repeat refine qJ ?_))))
      (refine WV_cond rfl (fun h => ?_) (fun h => ?_))
      ·simp at h
      (refine WV_skip ?_; simp only [go_sem])
      (refine WV_op ?_; simp only [go_sem, hP, fam_lo, fam_upd, prgO_fam, p51, q51, z51, p52, q52, z52]; (repeat refine qJ ?_))
      intro cap j q1 q2 q3
      rw [icells_new]
      (repeat ((first | refine Va ?_ | refine Vb ?_ | refine Vc ?_ | refine Vd ?_ | refine Ve ?_ | refine Vf ?_); (try simp only [go_sem, hP, hw2]); (repeat refine qJ ?_)))
      refine hend cap j _ _ (by simpa using q1) q2 (by simp; omega) (by simp only [List.length_nil, Nat.zero_add]; exact EnvLe_au) (ObjLe_fam fun n => ?_)
      by_cases e52 : n = 52
      ·subst e52; left; simp [upd_app]
      by_cases e51 : n = 51
      ·subst e51; right; simpa [upd_app] using z51
      left; simp [upd_app, e51, e52]
     ·(refine WV_op ?_; simp only [go_sem, hP, Int.toNat_natCast, Int.ofNat_lt, hi, Int.natCast_nonneg, str_at hi]; (repeat refine qJ ?_))
      (refine AS_pu (value22 s[i]) ?_; simp only [go_sem, hP, hv]; (repeat refine qJ ?_); (repeat ((first | refine Va ?_ | refine Vb ?_ | refine Vc ?_ | refine Vd ?_ | refine Ve ?_ | refine Vf ?_); (try simp only [go_sem, hP, hv]); (repeat refine qJ ?_))))
      (refine WV_cond rfl (fun h => ?_) (fun h => ?_))
      ·simp at h
      (refine WV_skip ?_; simp only [go_sem])
      (refine WV_op ?_; simp only [go_sem, hP, fam_lo, fam_upd, prgO_fam, p51, q51, z51, p52, q52, z52]; (repeat refine qJ ?_))
      refine ⟨by rw [cellsG_len icds_one]; omega, by omega, by omega, ?_⟩
      intro cap2 j2 q1 q2 q3
      rw [icells_take, icells_app]
      (repeat ((first | refine Va ?_ | refine Vb ?_ | refine Vc ?_ | refine Vd ?_ | refine Ve ?_ | refine Vf ?_); (try simp only [go_sem, hP, hw2]); (repeat refine qJ ?_)))
      refine hend cap2 j2 _ _ q1 q2 (by omega) (by exact EnvLe_au) (ObjLe_fam fun n => ?_)
      by_cases e52 : n = 52
      ·subst e52; left; simp [upd_app]
      by_cases e51 : n = 51
      ·subst e51; right; simpa [upd_app] using z51
      left; simp [upd_app, e51, e52]
  ·have hi : i = s.length := by simp at h; omega
   subst hi
   rw [List.take_length, hst] at hgi hz
   simp only at hgi hz
   have hRl : R.length = rows.length := by rw [← gi_len, hgi, vals_len]
   obtain ⟨cap, j, c1, c2, c3, rfl, rfl⟩ : ∃ cap j, R.length ≤ cap ∧ cap ≤ maxLen ∧ cap ≤ R.length + j ∧ y = .vw 1 39 0 R.length cap ∧ x = .box (refs 1001 1 0 R ++ List.replicate j .non) := by
    rcases hg with ⟨rfl, _, _⟩ | ⟨_, h⟩
    ·exact (hne (List.eq_nil_of_length_eq_zero (by simpa using hRl.symm))).elim
    ·exact h
   refine WV_exit ?_
   simp only [thenQ, inQ, reduceIte, beq_self_eq_true]
   refine WV_sub (σ' := ⟨upd e0 4 (.vw 1 39 0 R.length cap), fam 1001 icds R (upd o0 39 (.box (refs 1001 1 0 R ++ List.replicate j .non)))⟩) (Sub_of (by exact EnvLe_au) (ObjLe_fam fun n => ?_)) ?_
   ·by_cases e39 : n = 39
    ·subst e39; left; simp [upd_app]
    right; simp [upd_app, e39, o0_app]
   refine WV_grown (t := 4) [] (by decide) hpin rfl rfl ?_
   simp only [go_sem, keepE]
   have hwd : ∀ m (hm : m < R.length), (R[m]).l.length = w := by
    intro m hm
    have := gi_row hm
    rw [hgi] at this
    have hm2 : m < rows.length := by omega
    unfold valsG at this
    rw [map_getD hm2] at this
    rw [← this, List.length_map]
    exact hSok.row _ (List.getElem_mem hm2)
   have hR0 : 0 < R.length := by have := hSok.pos; omega
   (repeat ((first | refine Va ?_ | refine Vb ?_ | refine Vc ?_ | refine Vd ?_ | refine Ve ?_ | refine Vf ?_); (try simp only [go_sem, hP]); (repeat refine qJ ?_)))
   refine WV_loopS (fun k : Nat => ⟨upd (upd e0 4 (.vw 1 1000 0 R.length cap)) 9 (iv k), gown icds 1 R j o0⟩) (fun k => k ≤ R.length) (fun k => R.length - k) 0 (Nat.zero_le _) ?_ ?_
   ·exact Sub_of (by exact EnvLe_au) (ObLe_gown (by exact ObjLe_au))
   ·intro k hk0
    (repeat ((first | refine Va ?_ | refine Vb ?_ | refine Vc ?_ | refine Vd ?_ | refine Ve ?_ | refine Vf ?_); (try simp only [go_sem, hP]); (repeat refine qJ ?_)))
    (refine WV_cond rfl (fun h => ?_) (fun h => ?_))
    ·have hk : k < R.length := by simpa using h
     have hw2 := w64 (n := (k : Int) + 1) (by omega) (by omega)
     have hwk := hwd k hk
     have hw00 := hwd 0 hR0
     (refine WV_skip ?_; simp only [go_sem])
     refine WV_seq_ (WV_block (WV_seq_ ?_))
     (refine WV_op ?_; simp only [go_sem, hP, gown_grid, gown_row hk, gown_row hR0, Row.ob_box, gridOb, Ob.isBox, refs_get hk, refs_get hR0, irefs_glen, Int.toNat_zero, Int.toNat_natCast, Nat.mul_one, Nat.zero_add, Nat.zero_mul, Nat.add_zero, hk, hR0, Int.ofNat_lt, Int.natCast_nonneg, hwk, hw00]; (repeat refine qJ ?_))
     (refine WV_cond rfl (fun h => ?_) (fun h => ?_))
     ·simp at h
     (repeat ((first | refine Va ?_ | refine Vb ?_ | refine Vc ?_ | refine Vd ?_ | refine Ve ?_ | refine Vf ?_); (try simp only [go_sem, hP, hw2]); (repeat refine qJ ?_)))
     refine ⟨k + 1, by omega, by omega, ?_⟩
     exact Sub_of (by exact EnvLe_au) (ObLe_gown (by exact ObjLe_au))
    ·have hk : k = R.length := by simp at h; omega
     subst hk
     have hw00 := hwd 0 hR0
     have hwi := within67 w 2 32
     have hb1 : decide ((R.length : Int) ≤ 41) = true := by simp; omega
     have hb2 : decide ((2 : Int) ≤ (w : Int)) = true := by simp; omega
     have hb3 : decide ((w : Int) ≤ 32) = true := by simp; omega
     refine WV_exit ?_
     simp only [thenQ, inQ, reduceIte, beq_self_eq_true]
     refine WV_seq_ ?_
     (refine WV_op ?_; simp only [go_sem, hP, gown_grid, gown_row hR0, Row.ob_box, gridOb, Ob.isBox, refs_get hR0, irefs_glen, Int.toNat_zero, Nat.mul_one, Nat.zero_add, Nat.zero_mul, Nat.add_zero, hR0, Int.ofNat_lt, Int.natCast_nonneg, hw00]; (repeat refine qJ ?_))
     (refine AG_pu (fun hG => hwi) ?_; simp only [go_sem, hP, hb1, hb2, hb3]; (repeat refine qJ ?_); (repeat ((first | refine Va ?_ | refine Vb ?_ | refine Vc ?_ | refine Vd ?_ | refine Ve ?_ | refine Vf ?_); (try simp only [go_sem, hP, hb1, hb2, hb3]); (repeat refine qJ ?_))))
     refine WV_ret ?_
     simp only [thenQ, inQ, RetQN]
     refine retG_ok (R := R) (j := j) (q := True) (vs := [.vw 1 1000 0 R.length cap, bv true]) (r := .tup [.vw 1 1000 0 R.length cap, bv true]) (by omega) ?_ trivial ?_ ?_
     ·simp only [resAll, resA]
      simp only [go_sem, hb1, hb2, hb3]
     ·simp only [tupA]
      rw [AV.lend]
      simp only [AV.lendL]
      rw [lend_grid]
      rfl
     ·exact ⟨R, j, cap, hgi, c1, c2, rfl, rfl⟩
end Go.Proofs.YtlmfdmlochpfcaaDoor

namespace Go.Proofs.YtlmfdmlochpfcaaDoor
open Go Go.V
abbrev o59_0 : List Ins := [⟨(some 2), .mv (.k (.c (.str []))), none, true⟩]
abbrev o59_1 : List Ins := [⟨(some 3), .mv (.k (.c (.str []))), none, true⟩]
abbrev o59_2 : List Ins := [⟨(some 4), .mv (.k (.c (.int .i64 0))), none, true⟩]
abbrev o59_3 : List Ins := [⟨(some 6), .mv (.t 4), none, true⟩,
 ⟨(some 7), .mv (.t 0), none, true⟩,
 ⟨(some 8), .len (.t 7), none, true⟩,
 ⟨(some 9), .bin .lss (.t 6) (.t 8), none, true⟩]
abbrev v59_4 : VC := (.cond (.t 9) .skip (.exit 0))
abbrev o59_5 : List Ins := [⟨(some 5), .mv (.k (.c (.int .i64 0))), none, true⟩]
abbrev o59_6 : List Ins := [⟨(some 12), .mv (.t 5), none, true⟩,
 ⟨(some 13), .mv (.t 0), none, true⟩,
 ⟨(some 14), .mv (.t 4), none, true⟩,
 ⟨(some 15), .ia 1 (.t 13) (.t 14), none, true⟩,
 ⟨(some 16), .ld true 1 (.t 15), none, true⟩,
 ⟨(some 17), .len (.t 16), none, true⟩,
 ⟨(some 18), .bin .lss (.t 12) (.t 17), none, true⟩]
abbrev v59_7 : VC := (.cond (.t 18) .skip (.exit 2))
abbrev o59_8 : List Ins := [⟨(some 21), .mv (.t 3), none, true⟩,
 ⟨(some 22), .mv (.t 0), none, true⟩,
 ⟨(some 23), .mv (.t 4), none, true⟩,
 ⟨(some 24), .ia 1 (.t 22) (.t 23), none, true⟩,
 ⟨(some 25), .ld true 1 (.t 24), none, true⟩,
 ⟨(some 26), .mv (.t 5), none, true⟩,
 ⟨(some 27), .ia 1 (.t 25) (.t 26), none, true⟩,
 ⟨(some 28), .ld true 1 (.t 27), none, true⟩,
 ⟨(some 29), .call (.k (.fn 86 [])) [(.t 28)], none, true⟩,
 ⟨(some 30), .bsl 5 1 [(.t 29)], none, true⟩,
 ⟨(some 31), .raw (.convert 68 9 (.tmp 30)), none, true⟩,
 ⟨(some 32), .prim (.sbin .add) [(.t 21), (.t 31)], none, true⟩,
 ⟨(some 3), .mv (.t 32), none, true⟩]
abbrev o59_9 : List Ins := [⟨(some 19), .mv (.t 5), none, true⟩,
 ⟨(some 20), .bin .add (.t 19) (.k (.c (.int .i64 1))), none, true⟩,
 ⟨(some 5), .mv (.t 20), none, true⟩]
abbrev v59_10 : VC := (.seq (.block 3 (.ops o59_8)) (.ops o59_9))
abbrev v59_11 : VC := (.seq (.seq (.ops o59_6) v59_7) v59_10)
-- K59_2: changed and kept: [5, 3]
abbrev K59_2 : List Nat := [0, 4]
abbrev v59_12 : VC := (.loop v59_11)
abbrev v59_13 : VC := (.block 2 v59_12)
abbrev o59_14 : List Ins := [⟨(some 33), .mv (.t 3), none, true⟩,
 ⟨(some 34), .prim (.sbin .add) [(.t 33), (.k (.c (.str [10])))], none, true⟩,
 ⟨(some 3), .mv (.t 34), none, true⟩]
abbrev v59_15 : VC := (.seq (.seq (.ops o59_5) v59_13) (.ops o59_14))
abbrev o59_16 : List Ins := [⟨(some 10), .mv (.t 4), none, true⟩,
 ⟨(some 11), .bin .add (.t 10) (.k (.c (.int .i64 1))), none, true⟩,
 ⟨(some 4), .mv (.t 11), none, true⟩]
abbrev v59_17 : VC := (.seq (.block 1 v59_15) (.ops o59_16))
abbrev v59_18 : VC := (.seq (.seq (.ops o59_3) v59_4) v59_17)
-- K59_1: changed and kept: [4, 3]
abbrev K59_1 : List Nat := [0]
abbrev v59_19 : VC := (.loop v59_18)
abbrev v59_20 : VC := (.block 0 v59_19)
abbrev o59_21 : List Ins := [⟨(some 35), .mv (.t 3), none, true⟩,
 ⟨(some 2), .mv (.t 35), none, true⟩]
abbrev v59_22 : VC := (.seq (.ops o59_21) .ret)
abbrev v59_23 : VC := (.seq (.seq (.ops o59_2) v59_20) v59_22)
abbrev v59_24 : VC := (.seq (.ops o59_1) v59_23)
def ir59 : FC := ⟨1, 36, [.t 2], (.seq (.ops o59_0) v59_24)⟩
theorem c59 : compM Tryd.prog [] 59 = some ir59 := by kernel_rfl
attribute [local go_sem] Nat.reduceEqDiff Nat.reduceAdd Nat.reduceMul reduceIte Nat.reduceLeDiff Nat.reduceLT Nat.reduceBEq reduceCtorEq
def ValsOk (g : List (List Int)) : Prop := ∀ l ∈ g, l.length ≤ 1000 ∧ ∀ n ∈ l, -1 ≤ n ∧ n < 94
theorem GOw.valsOk {n w : Nat} {g : List (List Int)} (h : GOw n w g) (hw : w ≤ 1000) : ValsOk g := by
 intro l hl
 obtain ⟨i, hi, rfl⟩ := List.getElem_of_mem hl
 have hi2 : i < n := by rw [← h.len]; exact hi
 have e : g.getD i [] = g[i] := by rw [List.getD_eq_getElem?_getD, List.getElem?_eq_getElem hi]; rfl
 have hr := h.row i hi2
 rw [e] at hr
 refine ⟨by omega, fun m hm => ?_⟩
 obtain ⟨k, hk, rfl⟩ := List.getElem_of_mem hm
 have := h.val i k hi2 (by omega)
 unfold valAt at this
 simp only [e] at this
 rwa [List.getD_eq_getElem?_getD, List.getElem?_eq_getElem hk] at this
theorem bytesG_snoc {g : List (List Int)} {k : Nat} (h : k < g.length) : textG (bytesG (g.take (k + 1))) = textG (bytesG (g.take k)) ++ ((g[k]).map sgn ++ [10]) := by
 unfold textG bytesG
 rw [List.take_succ_eq_append_getElem h, List.map_append, List.flatMap_append]
 simp
theorem take_map_snoc {l : List Int} {k : Nat} (h : k < l.length) : (l.take (k + 1)).map sgn = (l.take k).map sgn ++ [sgn l[k]] := by
 rw [List.take_succ_eq_append_getElem h, List.map_append]; rfl
theorem textB_len (g : List (List Int)) (h : ValsOk g) : ∀ k, k ≤ g.length → (textG (bytesG (g.take k))).length ≤ k * 1001
 | 0, _ => by simp [textG, bytesG]
 | k + 1, hk => by
  have ih := textB_len g h k (by omega)
  rw [bytesG_snoc (by omega)]
  have := (h _ (List.getElem_mem (show k < g.length by omega))).1
  simp
  omega
set_option maxRecDepth 20000 in
set_option maxHeartbeats 8000000 in
theorem text59 {g : List (List Int)} (h : ValsOk g) (hg : g.length ≤ 1000) : FSpec Tryd.prog 59 [.c (gridC g)] (sv (textG (bytesG g))) := by
 have hmax : maxLen = 9223372036854775807 := rfl
 refine FSpec_ofP c59 (Nat.le_refl _) (by decide) fun C hP hN hC hpin hL => ?_; rw [init_st]
 simp only [ir59]
 (repeat ((first | refine Va ?_ | refine Vb ?_ | refine Vc ?_ | refine Vd ?_ | refine Ve ?_ | refine Vf ?_); (try simp only [go_sem, hP]); (repeat refine qJ ?_)))
 refine WV_loopK K59_1 [] (fun k : Nat => k ≤ g.length) (fun k => g.length - k) (fun k => [(4, iv k), (3, sv (textG (bytesG (g.take k))))]) (fun _ => []) 0 (Nat.zero_le _) ?_ ?_
 ·(refine Sub_of (by simp only [go_sem]; ((repeat' (first | exact EnvLe_e0 _ _ | refine EnvLe_upd ?_ ?_)) <;> ((try simp only [upd_app, e0_app, o0_app, Nat.reduceEqDiff, reduceIte]); first | exact AWk.refl _ _ | exact AWk.int (by omega) | exact AWk.int (by rw [w64 (by omega) (by omega)]; omega) | exact AWk.grow rfl | exact AWk.nil _ | exact AWk.of (by simp [textG, bytesG])))) (by simp only [go_sem]; exact ObjLe_au))
 ·intro k hk0
  simp only [go_sem]
  (repeat ((first | refine Va ?_ | refine Vb ?_ | refine Vc ?_ | refine Vd ?_ | refine Ve ?_ | refine Vf ?_); (try simp only [go_sem, hP, gridC, List.length_map]); (repeat refine qJ ?_)))
  (refine WV_cond rfl (fun h => ?_) (fun h => ?_))
  ·have hk : k < g.length := by simpa using h
   have hw2 := w64 (n := (k : Int) + 1) (by omega) (by omega)
   have hv := ‹ValsOk g› _ (List.getElem_mem hk)
   have htl := textB_len g (by assumption) k (by omega)
   have htl2 : k * 1001 ≤ 1000 * 1001 := Nat.mul_le_mul (by omega) (Nat.le_refl _)
   have hsn := bytesG_snoc hk
   generalize textG (bytesG (g.take k)) = T at htl hsn
   generalize hrow : g[k] = row at hv hsn
   have hgr : (g.map fun l => [rowC l]).getD k [] = [.sl 1 (row.map fun n => [CD.int .i64 n])] := by rw [map_getD hk, hrow]; rfl
   (refine WV_skip ?_; simp only [go_sem])
   refine WV_seq_ (WV_block (WV_seq_ (WV_seq_ ?_)))
   (refine WV_op ?_; simp only [go_sem, hP]; (repeat refine qJ ?_))
   refine WV_block ?_
   refine WV_loopK K59_2 [] (fun i : Nat => i ≤ row.length) (fun i => row.length - i) (fun i => [(5, iv i), (3, sv (T ++ (row.take i).map sgn))]) (fun _ => []) 0 (Nat.zero_le _) ?_ ?_
   ·exact Sub_au
   ·intro i hi0
    simp only [go_sem]
    (repeat ((first | refine Va ?_ | refine Vb ?_ | refine Vc ?_ | refine Vd ?_ | refine Ve ?_ | refine Vf ?_); (try simp only [go_sem, hP, gridC, hgr, List.length_map, Int.toNat_natCast, Int.ofNat_lt, hk, Int.natCast_nonneg]); (repeat refine qJ ?_)))
    (refine WV_cond rfl (fun h => ?_) (fun h => ?_))
    ·have hi : i < row.length := by simpa using h
     have hw3 := w64 (n := (i : Int) + 1) (by omega) (by omega)
     have hvi := hv.2 _ (List.getElem_mem hi)
     have hir : (row.map fun n => [CD.int .i64 n]).getD i [] = [.int .i64 row[i]] := map_getD hi
     have hts := take_map_snoc hi
     (refine WV_skip ?_; simp only [go_sem])
     refine WV_seq_ (WV_block ?_)
     have hlt : (T ++ (row.take i).map sgn).length + 1 ≤ 2000000 := by simp; omega
     (refine WV_op ?_; simp only [go_sem, hP, hgr, hir, List.length_map, Int.toNat_natCast, Int.ofNat_lt, hk, hi, Int.natCast_nonneg]; (repeat refine qJ ?_))
     refine AS_pure (byte86 hvi) rfl rfl rfl rfl rfl ?_
     simp only [go_sem]
     refine raw_bs (s := [sgn row[i]]) (e := 5) (x' := .t 30) (by kernel_rfl) (by kernel_rfl) (by kernel_rfl) rfl rfl rfl ?_
     simp only [go_sem, List.length_cons, List.length_nil]
     (repeat refine qJ ?_)
     (repeat ((first | refine Va ?_ | refine Vb ?_ | refine Vc ?_ | refine Vd ?_ | refine Ve ?_ | refine Vf ?_); (try simp only [go_sem, hP, hw3]); (repeat refine qJ ?_)))
     refine ⟨i + 1, by omega, by omega, ?_⟩
     rw [hts, ← List.append_assoc]
     exact Sub_au
    ·have hi : i = row.length := by simp at h; omega
     subst hi
     rw [List.take_length]
     refine WV_exit ?_
     simp only [thenQ, inQ, reduceIte, beq_self_eq_true]
     have hlt : (T ++ row.map sgn).length + 1 ≤ 2000000 := by simp; omega
     (repeat ((first | refine Va ?_ | refine Vb ?_ | refine Vc ?_ | refine Vd ?_ | refine Ve ?_ | refine Vf ?_); (try simp only [go_sem, hP, hw2, List.length_cons, List.length_nil]); (repeat refine qJ ?_)))
     refine ⟨k + 1, by omega, by omega, ?_⟩
     rw [hsn, ← List.append_assoc]
     exact Sub_au
  ·have hk : k = g.length := by simp at h; omega
   subst hk
   rw [List.take_length]
   (repeat ((first | refine Va ?_ | refine Vb ?_ | refine Vc ?_ | refine Vd ?_ | refine Ve ?_ | refine Vf ?_); (try simp only [go_sem, hP]); (repeat refine qJ ?_)))
   (refine WV_ret ?_; simp only [thenQ, inQ, RetQ, RetOk, resAll, resA]; simp only [go_sem, tupA, AV.port, AV.portL, exists_eq_left']; (first | exact AVle.of rfl | refine AVle.of ?_ | skip))
end Go.Proofs.YtlmfdmlochpfcaaDoor

namespace Go.Proofs.YtlmfdmlochpfcaaDoor
open Go Go.V
attribute [local go_sem] Nat.reduceEqDiff Nat.reduceAdd Nat.reduceMul reduceIte Nat.reduceLeDiff Nat.reduceLT Nat.reduceBEq reduceCtorEq
end Go.Proofs.YtlmfdmlochpfcaaDoor

namespace Go.Proofs.YtlmfdmlochpfcaaDoor
open Go Go.V
end Go.Proofs.YtlmfdmlochpfcaaDoor

namespace Go.Proofs.YtlmfdmlochpfcaaDoor
open Go Go.V
end Go.Proofs.YtlmfdmlochpfcaaDoor

namespace Go.Proofs.YtlmfdmlochpfcaaDoor
open Go Go.V
end Go.Proofs.YtlmfdmlochpfcaaDoor

namespace Go.Proofs.YtlmfdmlochpfcaaDoor
open Go Go.V
abbrev o21_0 : List Ins := [⟨(some 4), .mv (.k (.c (.bool false))), none, true⟩]
abbrev o21_1 : List Ins := [⟨(some 6), .mv (.t 0), none, true⟩,
 ⟨(some 7), .len (.t 6), none, true⟩,
 ⟨(some 8), .mv (.t 1), none, true⟩,
 ⟨(some 9), .len (.t 8), none, true⟩,
 ⟨(some 10), .bin .neq (.t 7) (.t 9), none, true⟩]
abbrev o21_2 : List Ins := [⟨(some 4), .mv (.k (.c (.bool false))), none, true⟩]
abbrev v21_3 : VC := (.seq (.ops o21_2) .ret)
abbrev v21_4 : VC := (.cond (.t 10) v21_3 .skip)
abbrev o21_5 : List Ins := [⟨(some 5), .mv (.k (.c (.int .i64 0))), none, true⟩]
abbrev o21_6 : List Ins := [⟨(some 11), .mv (.t 5), none, true⟩,
 ⟨(some 12), .mv (.t 0), none, true⟩,
 ⟨(some 13), .len (.t 12), none, true⟩,
 ⟨(some 14), .bin .lss (.t 11) (.t 13), none, true⟩]
abbrev v21_7 : VC := (.cond (.t 14) .skip (.exit 0))
abbrev o21_8 : List Ins := [⟨(some 17), .mv (.t 0), none, false⟩,
 ⟨(some 18), .mv (.t 5), none, false⟩,
 ⟨(some 19), .ia 1 (.t 17) (.t 18), none, false⟩,
 ⟨(some 20), .ld true 1 (.t 19), none, false⟩,
 ⟨(some 21), .mv (.t 1), none, false⟩,
 ⟨(some 22), .mv (.t 5), none, false⟩,
 ⟨(some 23), .ia 1 (.t 21) (.t 22), none, false⟩,
 ⟨(some 24), .ld true 1 (.t 23), none, false⟩,
 ⟨(some 25), .prim (.sbin .neq) [(.t 20), (.t 24)], none, true⟩]
abbrev o21_9 : List Ins := [⟨(some 4), .mv (.k (.c (.bool false))), none, true⟩]
abbrev v21_10 : VC := (.seq (.ops o21_9) .ret)
abbrev v21_11 : VC := (.cond (.t 25) v21_10 .skip)
abbrev v21_12 : VC := (.seq (.dops o21_8) v21_11)
abbrev o21_13 : List Ins := [⟨(some 15), .mv (.t 5), none, true⟩,
 ⟨(some 16), .bin .add (.t 15) (.k (.c (.int .i64 1))), none, true⟩,
 ⟨(some 5), .mv (.t 16), none, true⟩]
abbrev v21_14 : VC := (.seq (.block 1 v21_12) (.ops o21_13))
abbrev v21_15 : VC := (.seq (.seq (.ops o21_6) v21_7) v21_14)
-- K21_1: changed and kept: [5]
abbrev K21_1 : List Nat := [0, 1]
abbrev v21_16 : VC := (.loop v21_15)
abbrev v21_17 : VC := (.block 0 v21_16)
abbrev o21_18 : List Ins := [⟨(some 4), .mv (.k (.c (.bool true))), none, true⟩]
abbrev v21_19 : VC := (.seq (.ops o21_18) .ret)
abbrev v21_20 : VC := (.seq (.seq (.ops o21_5) v21_17) v21_19)
abbrev v21_21 : VC := (.seq (.seq (.ops o21_1) v21_4) v21_20)
def ir21 : FC := ⟨2, 26, [.t 4], (.seq (.ops o21_0) v21_21)⟩
abbrev o16_0 : List Ins := [⟨(some 0), .mv (.k (.c (.bool false))), none, true⟩]
abbrev o16_1 : List Ins := [⟨(some 13), .bsl 9 1 [(.k (.c (.str [97, 98]))), (.k (.c (.str [99])))], none, true⟩,
 ⟨(some 14), .call (.k (.fn 24 [])) [(.t 13)], none, true⟩,
 ⟨(some 12), .mv (.t 14), none, true⟩,
 ⟨(some 15), .ext (.t 12) 0, none, true⟩,
 ⟨(some 16), .ext (.t 12) 1, none, true⟩,
 ⟨(some 1), .mv (.t 15), none, true⟩,
 ⟨(some 2), .mv (.t 16), none, true⟩]
abbrev o16_2 : List Ins := [⟨(some 18), .call (.k (.fn 18 [])) [(.k (.c (.str [97, 63, 63, 95, 10, 99, 124, 32, 64, 10, 91, 65, 63, 33, 10])))], none, true⟩,
 ⟨(some 17), .mv (.t 18), none, true⟩,
 ⟨(some 19), .ext (.t 17) 0, none, true⟩,
 ⟨(some 20), .ext (.t 17) 1, none, true⟩,
 ⟨(some 3), .mv (.t 19), none, true⟩,
 ⟨(some 4), .mv (.t 20), none, true⟩]
abbrev o16_3 : List Ins := [⟨(some 22), .call (.k (.fn 20 [])) [(.k (.c (.str [97, 98, 124, 95, 10, 99, 124, 32, 64, 10, 91, 65, 35, 33, 10])))], none, true⟩,
 ⟨(some 21), .mv (.t 22), none, true⟩,
 ⟨(some 23), .ext (.t 21) 0, none, true⟩,
 ⟨(some 24), .ext (.t 21) 1, none, true⟩,
 ⟨(some 5), .mv (.t 23), none, true⟩,
 ⟨(some 6), .mv (.t 24), none, true⟩]
abbrev o16_4 : List Ins := [⟨(some 26), .call (.k (.fn 31 [])) [(.k (.c (.str [63, 63, 124, 95, 10, 63, 63, 32, 64, 10, 91, 65, 35, 33, 10])))], none, true⟩,
 ⟨(some 25), .mv (.t 26), none, true⟩,
 ⟨(some 27), .ext (.t 25) 0, none, true⟩,
 ⟨(some 28), .ext (.t 25) 1, none, true⟩,
 ⟨(some 7), .mv (.t 27), none, true⟩,
 ⟨(some 8), .mv (.t 28), none, true⟩]
abbrev o16_5 : List Ins := [⟨(some 30), .call (.k (.fn 23 [])) [(.k (.c (.str [97, 98, 124, 95, 10, 100, 124, 32, 64, 10, 91, 65, 35, 33, 10])))], none, true⟩,
 ⟨(some 29), .mv (.t 30), none, true⟩,
 ⟨(some 31), .ext (.t 29) 0, none, true⟩,
 ⟨(some 32), .ext (.t 29) 1, none, true⟩,
 ⟨(some 33), .ext (.t 29) 2, none, true⟩,
 ⟨(some 9), .alloc [(.c (.int .i64 0)), (.c (.int .i64 0))], none, true⟩,
 ⟨none, .st 2 (.t 9) (.t 31), none, true⟩,
 ⟨(some 10), .mv (.t 32), none, true⟩,
 ⟨(some 11), .mv (.t 33), none, true⟩]
abbrev o16_6 : List Ins := [⟨(some 34), .mv (.t 2), none, true⟩,
 ⟨(some 35), .bin .eql (.t 34) (.k (.c (.int .i64 0))), none, true⟩,
 ⟨(some 36), .mv (.t 35), none, true⟩,
 ⟨(some 37), .mv (.t 4), (some (36, true)), true⟩,
 ⟨(some 38), .bin .eql (.t 37) (.k (.c (.int .i64 0))), (some (36, true)), true⟩,
 ⟨(some 39), .pick (.t 36) (.t 38) (.k (.c (.bool false))), none, true⟩,
 ⟨(some 40), .mv (.t 39), none, true⟩,
 ⟨(some 41), .mv (.t 6), (some (40, true)), true⟩,
 ⟨(some 42), .bin .eql (.t 41) (.k (.c (.int .i64 0))), (some (40, true)), true⟩,
 ⟨(some 43), .pick (.t 40) (.t 42) (.k (.c (.bool false))), none, true⟩,
 ⟨(some 44), .mv (.t 43), none, true⟩,
 ⟨(some 45), .mv (.t 8), (some (44, true)), true⟩,
 ⟨(some 46), .bin .eql (.t 45) (.k (.c (.int .i64 0))), (some (44, true)), true⟩,
 ⟨(some 47), .pick (.t 44) (.t 46) (.k (.c (.bool false))), none, true⟩,
 ⟨(some 48), .mv (.t 47), none, true⟩,
 ⟨(some 49), .mv (.t 11), (some (48, true)), true⟩,
 ⟨(some 50), .bin .eql (.t 49) (.k (.c (.int .i64 0))), (some (48, true)), true⟩,
 ⟨(some 51), .pick (.t 48) (.t 50) (.k (.c (.bool false))), none, true⟩,
 ⟨(some 52), .mv (.t 51), none, true⟩,
 ⟨(some 53), .mv (.t 1), (some (52, true)), true⟩,
 ⟨(some 54), .prim (.sbin .eql) [(.t 53), (.k (.c (.str [97, 98, 124, 95, 10, 99, 124, 32, 64, 10, 91, 65, 35, 33, 10])))], (some (52, true)), true⟩,
 ⟨(some 55), .pick (.t 52) (.t 54) (.k (.c (.bool false))), none, true⟩,
 ⟨(some 56), .mv (.t 55), none, true⟩,
 ⟨(some 57), .mv (.t 3), (some (56, true)), true⟩,
 ⟨(some 58), .prim (.sbin .eql) [(.t 57), (.k (.c (.str [97, 98, 124, 95, 10, 99, 124, 32, 64, 10, 91, 65, 35, 33, 10])))], (some (56, true)), true⟩,
 ⟨(some 59), .pick (.t 56) (.t 58) (.k (.c (.bool false))), none, true⟩,
 ⟨(some 60), .mv (.t 59), none, true⟩,
 ⟨(some 61), .mv (.t 5), (some (60, true)), true⟩,
 ⟨(some 62), .bsl 9 1 [(.k (.c (.str [97, 98]))), (.k (.c (.str [99])))], (some (60, true)), true⟩,
 ⟨(some 63), .call (.k (.fn 21 [])) [(.t 61), (.t 62)], (some (60, true)), true⟩,
 ⟨(some 64), .pick (.t 60) (.t 63) (.k (.c (.bool false))), none, true⟩,
 ⟨(some 65), .mv (.t 64), none, true⟩,
 ⟨(some 66), .mv (.t 7), (some (65, true)), true⟩,
 ⟨(some 67), .bin .eql (.t 66) (.k (.c (.int .i64 1))), (some (65, true)), true⟩,
 ⟨(some 68), .pick (.t 65) (.t 67) (.k (.c (.bool false))), none, true⟩,
 ⟨(some 69), .mv (.t 68), none, true⟩,
 ⟨(some 70), .ld false 2 (.t 9), (some (69, true)), true⟩,
 ⟨(some 71), .bld [(.c (.int .i64 0)), (.c (.int .i64 0))] [(0, 1, (.k (.c (.int .i64 1))))], (some (69, true)), true⟩,
 ⟨(some 72), .seq false [(0, true), (1, true)] (.t 70) (.t 71), (some (69, true)), true⟩,
 ⟨(some 73), .pick (.t 69) (.t 72) (.k (.c (.bool false))), none, true⟩,
 ⟨(some 74), .mv (.t 73), none, true⟩,
 ⟨(some 75), .mv (.t 10), (some (74, true)), true⟩,
 ⟨(some 76), .prim (.sbin .eql) [(.t 75), (.k (.c (.str [97, 98, 124, 95, 10, 99, 124, 32, 64, 10, 91, 65, 35, 33, 10])))], (some (74, true)), true⟩,
 ⟨(some 77), .pick (.t 74) (.t 76) (.k (.c (.bool false))), none, true⟩,
 ⟨(some 0), .mv (.t 77), none, true⟩]
abbrev v16_7 : VC := (.seq (.ops o16_6) .ret)
abbrev v16_8 : VC := (.seq (.ops o16_5) v16_7)
abbrev v16_9 : VC := (.seq (.ops o16_4) v16_8)
abbrev v16_10 : VC := (.seq (.ops o16_3) v16_9)
abbrev v16_11 : VC := (.seq (.ops o16_2) v16_10)
abbrev v16_12 : VC := (.seq (.ops o16_1) v16_11)
def ir16 : FC := ⟨0, 78, [.t 0], (.seq (.ops o16_0) v16_12)⟩
theorem c21 : compM Tryd.prog [] 21 = some ir21 := by kernel_rfl
theorem c16 : compM Tryd.prog [] 16 = some ir16 := by kernel_rfl
attribute [local go_sem] Nat.reduceEqDiff Nat.reduceAdd Nat.reduceMul reduceIte Nat.reduceLeDiff Nat.reduceLT Nat.reduceBEq reduceCtorEq
theorem same21 (a b : List (List UInt8)) (ha : a.length ≤ 1000000) : FSpec Tryd.prog 21 [.c (strsV a), .c (strsV b)] (bv (a == b)) := by
 have hmax : maxLen = 9223372036854775807 := rfl
 refine FSpec_of c21 (Nat.le_refl _) (by decide) fun C hP hN hC hL => ?_; rw [init_st]
 simp only [ir21, strsV]
 (repeat ((first | refine Va ?_ | refine Vb ?_ | refine Vc ?_ | refine Vd ?_ | refine Ve ?_ | refine Vf ?_); (try simp only [go_sem, hP, List.length_map]); (repeat refine qJ ?_)))
 by_cases hl : a.length = b.length
 ·(refine WV_cond rfl (fun h => ?_) (fun h => ?_))
  ·simp [hl] at h
  (repeat ((first | refine Va ?_ | refine Vb ?_ | refine Vc ?_ | refine Vd ?_ | refine Ve ?_ | refine Vf ?_); (try simp only [go_sem, hP]); (repeat refine qJ ?_)))
  refine WV_loopK K21_1 [] (fun k : Nat => k ≤ a.length ∧ ∀ m (hm : m < a.length) (hm2 : m < b.length), m < k → a[m] = b[m]) (fun k => a.length - k) (fun k => [(5, iv k)]) (fun _ => []) 0 ⟨Nat.zero_le _, fun m _ _ h => by omega⟩ ?_ ?_
  ·exact Sub_au
  ·intro k ⟨hk0, hke⟩
   simp only [go_sem]
   (repeat ((first | refine Va ?_ | refine Vb ?_ | refine Vc ?_ | refine Vd ?_ | refine Ve ?_ | refine Vf ?_); (try simp only [go_sem, hP, List.length_map]); (repeat refine qJ ?_)))
   (refine WV_cond rfl (fun h => ?_) (fun h => ?_))
   ·have hk : k < a.length := by simpa using h
    have hkb : k < b.length := by omega
    have hw2 := w64 (n := (k : Int) + 1) (by omega) (by omega)
    (refine WV_skip ?_; simp only [go_sem])
    refine WV_seq_ (WV_block (WV_seq_ ?_))
    (refine WV_op ?_; simp only [go_sem, hP, map_getD hk, map_getD hkb, List.length_map, Int.toNat_natCast, Int.ofNat_lt, hk, hkb, Int.natCast_nonneg]; (repeat refine qJ ?_))
    by_cases he : a[k] = b[k]
    ·(refine WV_cond rfl (fun h => ?_) (fun h => ?_))
     ·simp [he] at h
     ·(repeat ((first | refine Va ?_ | refine Vb ?_ | refine Vc ?_ | refine Vd ?_ | refine Ve ?_ | refine Vf ?_); (try simp only [go_sem, hP, hw2]); (repeat refine qJ ?_)))
      refine ⟨k + 1, ⟨by omega, fun m hm hm2 hmk => ?_⟩, by omega, ?_⟩
      ·by_cases e2 : m = k
       ·subst e2; exact he
       ·exact hke m hm hm2 (by omega)
      ·exact Sub_au
    ·have hne : (a == b) = false := by
      rw [beq_eq_false_iff_ne]
      rintro rfl
      exact he rfl
     rw [hne]
     (refine WV_cond rfl (fun h => ?_) (fun h => ?_))
     ·(repeat ((first | refine Va ?_ | refine Vb ?_ | refine Vc ?_ | refine Vd ?_ | refine Ve ?_ | refine Vf ?_); (try simp only [go_sem, hP]); (repeat refine qJ ?_)))
      (refine WV_ret ?_; simp only [thenQ, inQ, RetQ, RetOk, resAll, resA]; simp only [go_sem, tupA, AV.port, AV.portL, exists_eq_left']; (first | exact AVle.of rfl | refine AVle.of ?_ | skip))
     ·simp [he] at h
   ·have hk : k = a.length := by simp at h; omega
    subst hk
    have heq : (a == b) = true := by
     rw [beq_iff_eq]
     exact List.ext_getElem hl fun m h1 h2 => hke m h1 h2 h1
    rw [heq]
    (repeat ((first | refine Va ?_ | refine Vb ?_ | refine Vc ?_ | refine Vd ?_ | refine Ve ?_ | refine Vf ?_); (try simp only [go_sem, hP]); (repeat refine qJ ?_)))
    (refine WV_ret ?_; simp only [thenQ, inQ, RetQ, RetOk, resAll, resA]; simp only [go_sem, tupA, AV.port, AV.portL, exists_eq_left']; (first | exact AVle.of rfl | refine AVle.of ?_ | skip))
 ·have hne : (a == b) = false := by
   rw [beq_eq_false_iff_ne]
   rintro rfl
   exact hl rfl
  rw [hne]
  (refine WV_cond rfl (fun h => ?_) (fun h => ?_))
  ·(repeat ((first | refine Va ?_ | refine Vb ?_ | refine Vc ?_ | refine Vd ?_ | refine Ve ?_ | refine Vf ?_); (try simp only [go_sem, hP]); (repeat refine qJ ?_)))
   (refine WV_ret ?_; simp only [thenQ, inQ, RetQ, RetOk, resAll, resA]; simp only [go_sem, tupA, AV.port, AV.portL, exists_eq_left']; (first | exact AVle.of rfl | refine AVle.of ?_ | skip))
  ·simp at h; omega
def ex1 : List UInt8 := [97, 98, 124, 95, 10, 99, 124, 32, 64, 10, 91, 65, 35, 33, 10]
theorem ex_write : writeG [[97, 98], [99]] = (ex1, 0) := by kernel_rfl
theorem ex_mend : mendG [97, 63, 63, 95, 10, 99, 124, 32, 64, 10, 91, 65, 63, 33, 10] = (ex1, 0) := by kernel_rfl
theorem ex_read : readG ex1 = ([[97, 98], [99]], 0) := by kernel_rfl
theorem ex_left : leftG [63, 63, 124, 95, 10, 63, 63, 32, 64, 10, 91, 65, 35, 33, 10] = ([(0, 0), (0, 1), (1, 0), (1, 1)], 0) := by kernel_rfl
theorem ex_wrong : wrongG [97, 98, 124, 95, 10, 100, 124, 32, 64, 10, 91, 65, 35, 33, 10] = ((1, 0), ex1, 0) := by kernel_rfl
theorem Conn.inv {ms : List (Nat × Nat)} (f : Int → Bool) (h : ∀ m ∈ ms, f m.1 = f (-1 - m.2)) {x y : Int} (hc : Conn ms x y) : f x = f y := by
 induction hc with
 | refl x => rfl
 | edge hm => exact h _ hm
 | symm _ ih => exact ih.symm
 | trans _ _ ih1 ih2 => exact ih1.trans ih2
theorem ex_circ : (circ [(0, 0), (0, 1), (1, 0), (1, 1)]).length = 1 := by
 have h0 : ¬ Conn ([(0, 0), (0, 1), (1, 0), (1, 1)].take 0) ((0 : Nat) : Int) (-1 - ((0 : Nat) : Int)) := fun h => by
  have := h.inv (fun x => decide (x = 0)) (by decide)
  revert this; decide
 have h1 : ¬ Conn ([(0, 0), (0, 1), (1, 0), (1, 1)].take 1) ((0 : Nat) : Int) (-1 - ((1 : Nat) : Int)) := fun h => by
  have := h.inv (fun x => decide (x = 0 ∨ x = -1)) (by decide)
  revert this; decide
 have h2 : ¬ Conn ([(0, 0), (0, 1), (1, 0), (1, 1)].take 2) ((1 : Nat) : Int) (-1 - ((0 : Nat) : Int)) := fun h => by
  have := h.inv (fun x => decide (x = 1)) (by decide)
  revert this; decide
 have h3 : Conn ([(0, 0), (0, 1), (1, 0), (1, 1)].take 3) ((1 : Nat) : Int) (-1 - ((1 : Nat) : Int)) := by
  have e0 : Conn ([(0, 0), (0, 1), (1, 0), (1, 1)].take 3) ((0 : Nat) : Int) (-1 - ((0 : Nat) : Int)) := .edge (m := (0, 0)) (by simp)
  have e1 : Conn ([(0, 0), (0, 1), (1, 0), (1, 1)].take 3) ((0 : Nat) : Int) (-1 - ((1 : Nat) : Int)) := .edge (m := (0, 1)) (by simp)
  have e2 : Conn ([(0, 0), (0, 1), (1, 0), (1, 1)].take 3) ((1 : Nat) : Int) (-1 - ((0 : Nat) : Int)) := .edge (m := (1, 0)) (by simp)
  exact e2.trans (e0.symm.trans e1)
 unfold circ
 show (circK _ 4).length = 1
 rw [circK_snoc (k := 3) (m := (1, 1)) rfl, circK_snoc (k := 2) (m := (1, 0)) rfl, circK_snoc (k := 1) (m := (0, 1)) rfl, circK_snoc (k := 0) (m := (0, 0)) rfl, if_pos h3, if_neg h2, if_neg h1, if_neg h0]
 rfl
set_option maxRecDepth 20000 in
set_option maxHeartbeats 8000000 in
theorem works16 : FSpec Tryd.prog 16 [] (bv true) := by
 have hmax : maxLen = 9223372036854775807 := rfl
 have h1 := write24 [[97, 98], [99]] (by simp) (by simp)
 have h2 := mend18 [97, 63, 63, 95, 10, 99, 124, 32, 64, 10, 91, 65, 63, 33, 10] (by simp)
 have h3 := read20 ex1 (by decide)
 have h4 := fewest31 [63, 63, 124, 95, 10, 63, 63, 32, 64, 10, 91, 65, 35, 33, 10] (by simp)
 have h5 := wrong23 [97, 98, 124, 95, 10, 100, 124, 32, 64, 10, 91, 65, 35, 33, 10] (by simp)
 have h6 := same21 [[97, 98], [99]] [[97, 98], [99]] (by simp)
 rw [ex_write] at h1
 rw [ex_mend] at h2
 rw [ex_read] at h3
 rw [ex_left, ex_circ] at h4
 rw [ex_wrong] at h5
 have h6' : FSpec Tryd.prog 21 [.c (.sl 1 [[.str [97, 98]], [.str [99]]]), .c (.sl 1 [[.str [97, 98]], [.str [99]]])] (bv true) := h6
 have h1' : FSpec Tryd.prog 24 [.c (.sl 1 [[.str [97, 98]], [.str [99]]])] (.tup [.c (.str ex1), iv 0]) := h1
 unfold ex1 at h1' h2 h3 h5
 clear h1 h6
 refine FSpec_of c16 (Nat.le_refl _) (by decide) fun C hP hN hC hL => ?_; rw [init_st]
 simp only [ir16]
 (repeat ((first | refine Va ?_ | refine Vb ?_ | refine Vc ?_ | refine Vd ?_ | refine Ve ?_ | refine Vf ?_); (try simp only [go_sem, hP]); (repeat refine qJ ?_)))
 (refine AS_pu (h1') ?_; simp only [go_sem, hP]; (repeat refine qJ ?_); (repeat ((first | refine Va ?_ | refine Vb ?_ | refine Vc ?_ | refine Vd ?_ | refine Ve ?_ | refine Vf ?_); (try simp only [go_sem, hP]); (repeat refine qJ ?_))))
 (refine AS_pu (h2) ?_; simp only [go_sem, hP]; (repeat refine qJ ?_); (repeat ((first | refine Va ?_ | refine Vb ?_ | refine Vc ?_ | refine Vd ?_ | refine Ve ?_ | refine Vf ?_); (try simp only [go_sem, hP]); (repeat refine qJ ?_))))
 (refine AS_pu (h3) ?_; simp only [go_sem, hP]; (repeat refine qJ ?_); (repeat ((first | refine Va ?_ | refine Vb ?_ | refine Vc ?_ | refine Vd ?_ | refine Ve ?_ | refine Vf ?_); (try simp only [go_sem, hP]); (repeat refine qJ ?_))))
 (refine AS_pu (h4) ?_; simp only [go_sem, hP]; (repeat refine qJ ?_); (repeat ((first | refine Va ?_ | refine Vb ?_ | refine Vc ?_ | refine Vd ?_ | refine Ve ?_ | refine Vf ?_); (try simp only [go_sem, hP]); (repeat refine qJ ?_))))
 (refine AS_pu (h5) ?_; simp only [go_sem, hP, beq_self_eq_true, Bool.and_self, Bool.true_and, true_implies, Bool.true_eq_false, false_implies, and_true]; (repeat refine qJ ?_); (repeat ((first | refine Va ?_ | refine Vb ?_ | refine Vc ?_ | refine Vd ?_ | refine Ve ?_ | refine Vf ?_); (try simp only [go_sem, hP, beq_self_eq_true, Bool.and_self, Bool.true_and, true_implies, Bool.true_eq_false, false_implies, and_true]); (repeat refine qJ ?_))))
 (refine AG_pu (fun hG => h6') ?_; simp only [go_sem, hP, beq_self_eq_true, Bool.and_self, Bool.true_and, true_implies, Bool.true_eq_false, false_implies, and_true]; (repeat refine qJ ?_); (repeat ((first | refine Va ?_ | refine Vb ?_ | refine Vc ?_ | refine Vd ?_ | refine Ve ?_ | refine Vf ?_); (try simp only [go_sem, hP, beq_self_eq_true, Bool.and_self, Bool.true_and, true_implies, Bool.true_eq_false, false_implies, and_true]); (repeat refine qJ ?_))))
 (refine WV_ret ?_; simp only [thenQ, inQ, RetQ, RetOk, resAll, resA]; simp only [go_sem, tupA, AV.port, AV.portL, exists_eq_left'])
 exact AVle.of rfl
end Go.Proofs.YtlmfdmlochpfcaaDoor

namespace Go.Proofs.YtlmfdmlochpfcaaDoor
open Go Go.V
abbrev o42_0 : List Ins := [⟨(some 4), .mv (.k (.c (.str []))), none, true⟩,
 ⟨(some 5), .mv (.k (.c (.int .i64 0))), none, true⟩]
abbrev o42_1 : List Ins := [⟨(some 13), .mv (.t 0), none, true⟩,
 ⟨(some 14), .call (.k (.fn 61 [])) [(.t 13)], none, true⟩,
 ⟨(some 12), .mv (.t 14), none, true⟩,
 ⟨(some 15), .ext (.t 12) 0, none, true⟩,
 ⟨(some 16), .ext (.t 12) 1, none, true⟩,
 ⟨(some 6), .mv (.t 15), none, true⟩,
 ⟨(some 7), .mv (.t 16), none, true⟩]
abbrev o42_2 : List Ins := [⟨(some 18), .mv (.t 1), none, true⟩,
 ⟨(some 19), .call (.k (.fn 61 [])) [(.t 18)], none, true⟩,
 ⟨(some 17), .mv (.t 19), none, true⟩,
 ⟨(some 20), .ext (.t 17) 0, none, true⟩,
 ⟨(some 21), .ext (.t 17) 1, none, true⟩,
 ⟨(some 8), .mv (.t 20), none, true⟩,
 ⟨(some 9), .mv (.t 21), none, true⟩]
abbrev o42_3 : List Ins := [⟨(some 22), .mv (.t 7), none, true⟩,
 ⟨(some 23), .un .not (.t 22), none, true⟩,
 ⟨(some 24), .mv (.t 23), none, true⟩,
 ⟨(some 25), .mv (.t 9), (some (24, false)), true⟩,
 ⟨(some 26), .un .not (.t 25), (some (24, false)), true⟩,
 ⟨(some 27), .pick (.t 24) (.k (.c (.bool true))) (.t 26), none, true⟩,
 ⟨(some 28), .mv (.t 27), none, true⟩,
 ⟨(some 29), .mv (.t 6), (some (28, false)), false⟩,
 ⟨(some 30), .len (.t 29), (some (28, false)), false⟩,
 ⟨(some 31), .mv (.t 8), (some (28, false)), false⟩,
 ⟨(some 32), .len (.t 31), (some (28, false)), false⟩,
 ⟨(some 33), .bin .neq (.t 30) (.t 32), (some (28, false)), true⟩,
 ⟨(some 34), .pick (.t 28) (.k (.c (.bool true))) (.t 33), none, true⟩,
 ⟨(some 35), .mv (.t 34), none, true⟩,
 ⟨(some 36), .mv (.t 6), (some (35, false)), false⟩,
 ⟨(some 37), .ia 1 (.t 36) (.k (.c (.int .i64 0))), (some (35, false)), false⟩,
 ⟨(some 38), .ld true 1 (.t 37), (some (35, false)), false⟩,
 ⟨(some 39), .len (.t 38), (some (35, false)), false⟩,
 ⟨(some 40), .mv (.t 8), (some (35, false)), false⟩,
 ⟨(some 41), .ia 1 (.t 40) (.k (.c (.int .i64 0))), (some (35, false)), false⟩,
 ⟨(some 42), .ld true 1 (.t 41), (some (35, false)), false⟩,
 ⟨(some 43), .len (.t 42), (some (35, false)), false⟩,
 ⟨(some 44), .bin .neq (.t 39) (.t 43), (some (35, false)), true⟩,
 ⟨(some 45), .pick (.t 35) (.k (.c (.bool true))) (.t 44), none, true⟩]
abbrev o42_4 : List Ins := [⟨(some 4), .mv (.k (.c (.str []))), none, true⟩,
 ⟨(some 5), .mv (.k (.c (.int .i64 140))), none, true⟩]
abbrev v42_5 : VC := (.seq (.ops o42_4) .ret)
abbrev v42_6 : VC := (.cond (.t 45) v42_5 .skip)
abbrev o42_7 : List Ins := [⟨(some 10), .mv (.k (.c (.int .i64 0))), none, true⟩]
abbrev o42_8 : List Ins := [⟨(some 46), .mv (.t 10), none, true⟩,
 ⟨(some 47), .mv (.t 6), none, true⟩,
 ⟨(some 48), .len (.t 47), none, true⟩,
 ⟨(some 49), .bin .lss (.t 46) (.t 48), none, true⟩]
abbrev v42_9 : VC := (.cond (.t 49) .skip (.exit 0))
abbrev o42_10 : List Ins := [⟨(some 11), .mv (.k (.c (.int .i64 0))), none, true⟩]
abbrev o42_11 : List Ins := [⟨(some 52), .mv (.t 11), none, true⟩,
 ⟨(some 53), .mv (.t 6), none, true⟩,
 ⟨(some 54), .ia 1 (.t 53) (.k (.c (.int .i64 0))), none, true⟩,
 ⟨(some 55), .ld true 1 (.t 54), none, true⟩,
 ⟨(some 56), .len (.t 55), none, true⟩,
 ⟨(some 57), .bin .lss (.t 52) (.t 56), none, true⟩]
abbrev v42_12 : VC := (.cond (.t 57) .skip (.exit 2))
abbrev o42_13 : List Ins := [⟨(some 60), .mv (.t 6), none, true⟩,
 ⟨(some 61), .mv (.t 10), none, true⟩,
 ⟨(some 62), .ia 1 (.t 60) (.t 61), none, true⟩,
 ⟨(some 63), .ld true 1 (.t 62), none, true⟩,
 ⟨(some 64), .mv (.t 11), none, true⟩,
 ⟨(some 65), .ia 1 (.t 63) (.t 64), none, true⟩,
 ⟨(some 66), .ld true 1 (.t 65), none, true⟩,
 ⟨(some 67), .bin .eql (.t 66) (.k (.c (.int .i64 (-1)))), none, true⟩]
abbrev o42_14 : List Ins := [⟨(some 68), .mv (.t 6), none, false⟩,
 ⟨(some 69), .mv (.t 10), none, false⟩,
 ⟨(some 70), .ia 1 (.t 68) (.t 69), none, false⟩,
 ⟨(some 71), .ld true 1 (.t 70), none, false⟩,
 ⟨(some 72), .mv (.t 11), none, false⟩,
 ⟨(some 73), .mv (.t 8), none, false⟩,
 ⟨(some 74), .mv (.t 10), none, false⟩,
 ⟨(some 75), .ia 1 (.t 73) (.t 74), none, false⟩,
 ⟨(some 76), .ld true 1 (.t 75), none, false⟩,
 ⟨(some 77), .mv (.t 11), none, false⟩,
 ⟨(some 78), .ia 1 (.t 76) (.t 77), none, false⟩,
 ⟨(some 79), .ld true 1 (.t 78), none, false⟩,
 ⟨(some 80), .ia 1 (.t 71) (.t 72), none, true⟩,
 ⟨none, .st 1 (.t 80) (.t 79), none, true⟩]
abbrev v42_15 : VC := (.cond (.t 67) (.dops o42_14) .skip)
abbrev o42_16 : List Ins := [⟨(some 81), .mv (.t 8), none, false⟩,
 ⟨(some 82), .mv (.t 10), none, false⟩,
 ⟨(some 83), .ia 1 (.t 81) (.t 82), none, false⟩,
 ⟨(some 84), .ld true 1 (.t 83), none, false⟩,
 ⟨(some 85), .mv (.t 11), none, false⟩,
 ⟨(some 86), .ia 1 (.t 84) (.t 85), none, true⟩,
 ⟨(some 87), .ld true 1 (.t 86), none, true⟩,
 ⟨(some 88), .bin .neq (.t 87) (.k (.c (.int .i64 (-1)))), none, true⟩,
 ⟨(some 89), .mv (.t 88), none, true⟩,
 ⟨(some 90), .mv (.t 8), (some (89, true)), false⟩,
 ⟨(some 91), .mv (.t 10), (some (89, true)), false⟩,
 ⟨(some 92), .ia 1 (.t 90) (.t 91), (some (89, true)), false⟩,
 ⟨(some 93), .ld true 1 (.t 92), (some (89, true)), false⟩,
 ⟨(some 94), .mv (.t 11), (some (89, true)), false⟩,
 ⟨(some 95), .ia 1 (.t 93) (.t 94), (some (89, true)), false⟩,
 ⟨(some 96), .ld true 1 (.t 95), (some (89, true)), false⟩,
 ⟨(some 97), .mv (.t 6), (some (89, true)), false⟩,
 ⟨(some 98), .mv (.t 10), (some (89, true)), false⟩,
 ⟨(some 99), .ia 1 (.t 97) (.t 98), (some (89, true)), false⟩,
 ⟨(some 100), .ld true 1 (.t 99), (some (89, true)), false⟩,
 ⟨(some 101), .mv (.t 11), (some (89, true)), false⟩,
 ⟨(some 102), .ia 1 (.t 100) (.t 101), (some (89, true)), false⟩,
 ⟨(some 103), .ld true 1 (.t 102), (some (89, true)), false⟩,
 ⟨(some 104), .bin .neq (.t 96) (.t 103), (some (89, true)), true⟩,
 ⟨(some 105), .pick (.t 89) (.t 104) (.k (.c (.bool false))), none, true⟩]
abbrev o42_17 : List Ins := [⟨(some 4), .mv (.k (.c (.str []))), none, true⟩,
 ⟨(some 5), .mv (.k (.c (.int .i64 142))), none, true⟩]
abbrev v42_18 : VC := (.seq (.ops o42_17) .ret)
abbrev v42_19 : VC := (.cond (.t 105) v42_18 .skip)
abbrev v42_20 : VC := (.seq (.dops o42_16) v42_19)
abbrev v42_21 : VC := (.seq (.seq (.ops o42_13) v42_15) v42_20)
abbrev o42_22 : List Ins := [⟨(some 58), .mv (.t 11), none, true⟩,
 ⟨(some 59), .bin .add (.t 58) (.k (.c (.int .i64 1))), none, true⟩,
 ⟨(some 11), .mv (.t 59), none, true⟩]
abbrev v42_23 : VC := (.seq (.block 3 v42_21) (.ops o42_22))
abbrev v42_24 : VC := (.seq (.seq (.ops o42_11) v42_12) v42_23)
-- K42_2: changed and kept: [11]
abbrev v42_25 : VC := (.loop v42_24)
abbrev v42_26 : VC := (.block 2 v42_25)
abbrev v42_27 : VC := (.seq (.ops o42_10) v42_26)
abbrev o42_28 : List Ins := [⟨(some 50), .mv (.t 10), none, true⟩,
 ⟨(some 51), .bin .add (.t 50) (.k (.c (.int .i64 1))), none, true⟩,
 ⟨(some 10), .mv (.t 51), none, true⟩]
abbrev v42_29 : VC := (.seq (.block 1 v42_27) (.ops o42_28))
abbrev v42_30 : VC := (.seq (.seq (.ops o42_8) v42_9) v42_29)
-- K42_1: changed and kept: [10]
abbrev v42_31 : VC := (.loop v42_30)
abbrev v42_32 : VC := (.block 0 v42_31)
abbrev o42_33 : List Ins := [⟨(some 106), .mv (.t 6), none, true⟩,
 ⟨(some 107), .call (.k (.fn 59 [])) [(.t 106)], none, true⟩,
 ⟨(some 4), .mv (.t 107), none, true⟩,
 ⟨(some 5), .mv (.k (.c (.int .i64 0))), none, true⟩]
abbrev v42_34 : VC := (.seq (.ops o42_33) .ret)
abbrev v42_35 : VC := (.seq (.seq (.ops o42_7) v42_32) v42_34)
abbrev v42_36 : VC := (.seq (.seq (.dops o42_3) v42_6) v42_35)
abbrev v42_37 : VC := (.seq (.ops o42_2) v42_36)
abbrev v42_38 : VC := (.seq (.ops o42_1) v42_37)
def ir42 : FC := ⟨2, 108, [.t 4, .t 5], (.seq (.ops o42_0) v42_38)⟩
theorem c42 : compM Tryd.prog [] 42 = some ir42 := by kernel_rfl
attribute [local go_sem] Nat.reduceEqDiff Nat.reduceAdd Nat.reduceMul reduceIte Nat.reduceLeDiff Nat.reduceLT Nat.reduceBEq reduceCtorEq
theorem vq_inj {x y : UInt8} (hx : BOk x) (hy : BOk y) (h : vq x = vq y) : x = y := by rw [← sgn_vq hx, h, sgn_vq hy]
theorem vq_63 : vq 63 = -1 := by decide
theorem vq_ne {x : UInt8} (hx : BOk x) (h : x ≠ 63) : vq x ≠ -1 := fun hc => h (UInt8.toNat_inj.1 ((vq_lost hx).1 hc))
theorem putI_row {R : List IRow} {p : Nat × Nat} {v : Int} (h : p.1 < R.length) (h' : p.1 < (putI R p v).length) : ((putI R p v)[p.1]).l = (R[p.1]).l.set p.2 v := by
 have e : ∀ (S : List IRow) (hS : putI R p v = S) (hs : p.1 < S.length), ((putI R p v)[p.1]).l = (S[p.1]).l := by rintro _ rfl _; rfl
 rw [e _ (putI_eq v h) (by simpa using h)]
 simp
theorem bat_ok {g : List (List UInt8)} {w i k : Nat} (h : SOk g w) (hi : i < g.length) (hk : k < w) : BOk (bat g (i, k)) := by
 have hm := List.getElem_mem hi
 have hl := h.row _ hm
 unfold bat
 simp only
 rw [List.getD_eq_getElem?_getD (l := g), List.getElem?_eq_getElem hi, List.getD_eq_getElem?_getD, Option.getD_some, List.getElem?_eq_getElem (by omega), Option.getD_some]
 exact h.byte _ hm _ (List.getElem_mem _)
theorem merge_sok {ga gb : List (List UInt8)} {w : Nat} (ha : SOk ga w) (hb : SOk gb w) (hl : ga.length = gb.length) : SOk (mergeG ga.length w ga gb) w := by
 refine ⟨by simp [mergeG]; exact ha.pos, by simp [mergeG]; exact ha.len, ha.w2, ha.w32, fun l hl => ?_, fun l hm b hb' => ?_⟩
 ·simp only [mergeG, List.mem_map] at hl
  obtain ⟨i, _, rfl⟩ := hl
  simp
 ·simp only [mergeG, List.mem_map, List.mem_range] at hm
  obtain ⟨i, hi, rfl⟩ := hm
  simp only [List.mem_map, List.mem_range] at hb'
  obtain ⟨k, hk, rfl⟩ := hb'
  unfold jn
  split
  ·exact bat_ok hb (by omega) hk
  ·exact bat_ok ha hi hk
def ghost (rows : List (List UInt8)) : List BRow := rows.map fun l => ⟨l, 0, l.length⟩
theorem ghost_l (rows : List (List UInt8)) : (ghost rows).map Row.l = rows := by unfold ghost; rw [List.map_map]; exact List.map_id rows
theorem ghost_len (rows : List (List UInt8)) : (ghost rows).length = rows.length := by simp [ghost]
theorem link_row {S : List IRow} {B : List BRow} (h : gi S = gv B) {i : Nat} (hi : i < S.length) (hb : i < B.length) : (S[i]).l = (B[i]).l.map vq := by
 have h1 := gi_row hi
 rw [h] at h1
 rw [← h1]
 unfold gv
 exact map_getD hb
theorem hd0 (g : List (List Int)) : ((g.map fun l => [rowC l]).getD 0 []).getD 0 default = .sl 1 ((g.headD []).map fun n => [CD.int .i64 n]) := by cases g <;> rfl
theorem back_parse {R : List IRow} {cap : Nat} : (AV.tup [.vw 1 1000 0 R.length cap, bv true]).back (gnum R.length) = some (.tup [.vw 1 1000 0 R.length cap, bv true]) := by
 rw [AV.back]
 simp only [AV.backL]
 rw [back_vw]; rfl
set_option maxRecDepth 20000 in
set_option maxHeartbeats 16000000 in
theorem join42 (a b : List UInt8) (hsa : a.length ≤ 100000) (hsb : b.length ≤ 100000) : FSpec Tryd.prog 42 [sv a, sv b] (.tup [.c (.str (joinG a b).1), iv (joinG a b).2]) := by
 have hmax : maxLen = 9223372036854775807 := rfl
 have hpb := parse61D b hsb
 cases hp : parseP a with
 | none =>
  have hpa := parse61D a hsa
  have hwh : joinG a b = ([], 140) := by unfold joinG; rw [hp]
  rw [hwh]
  rw [retR_none hp] at hpa
  refine FSpec_ofP c42 (Nat.le_refl _) (by decide) fun C hP hN hC hpin hL => ?_; rw [init_st]
  simp only [ir42]
  generalize (retR a).1 = ga at hpa
  generalize (retR b).1 = gb at hpb
  generalize (retR b).2 = fb at hpb
  (repeat ((first | refine Va ?_ | refine Vb ?_ | refine Vc ?_ | refine Vd ?_ | refine Ve ?_ | refine Vf ?_); (try simp only [go_sem, hP]); (repeat refine qJ ?_)))
  (refine AS_pu (hpa) ?_; simp only [go_sem, hP]; (repeat refine qJ ?_); (repeat ((first | refine Va ?_ | refine Vb ?_ | refine Vc ?_ | refine Vd ?_ | refine Ve ?_ | refine Vf ?_); (try simp only [go_sem, hP]); (repeat refine qJ ?_))))
  (refine AS_pu (hpb) ?_; simp only [go_sem, hP, gridC, hd0, Int.toNat_zero, Bool.not_false, Bool.true_or, Bool.not_true, Bool.false_eq_true, false_implies, true_and]; (repeat refine qJ ?_); (repeat ((first | refine Va ?_ | refine Vb ?_ | refine Vc ?_ | refine Vd ?_ | refine Ve ?_ | refine Vf ?_); (try simp only [go_sem, hP, gridC, hd0, Int.toNat_zero, Bool.not_false, Bool.true_or, Bool.not_true, Bool.false_eq_true, false_implies, true_and]); (repeat refine qJ ?_))))
  (refine WV_cond rfl (fun h => ?_) (fun h => ?_))
  ·(repeat ((first | refine Va ?_ | refine Vb ?_ | refine Vc ?_ | refine Vd ?_ | refine Ve ?_ | refine Vf ?_); (try simp only [go_sem, hP]); (repeat refine qJ ?_)))
   (refine WV_ret ?_; simp only [thenQ, inQ, RetQ, RetOk, resAll, resA]; simp only [go_sem, tupA, AV.port, AV.portL, exists_eq_left'])
   exact AVle.refl _
  ·simp at h
 | some ga =>
  have hp0 := hp
  obtain ⟨rfl, hga⟩ := parse_is hp
  obtain ⟨w, hwa⟩ : ∃ w, w = (ga.headD []).length := ⟨_, rfl⟩
  rw [← hwa] at hga
  have hpa := parse61N hga
  have hgb := ghost_l ga
  refine FSpec_ofP c42 (Nat.le_refl _) (by decide) fun C hP hN hC hpin hL => ?_; rw [init_st]
  simp only [ir42]
  refine WV_seq_ ?_
  (refine WV_op ?_; simp only [go_sem, hP]; (repeat refine qJ ?_))
  refine WV_seq_ ?_
  (refine WV_split 1 ?_; simp only [List.take_succ_cons, List.take_zero, List.take_nil, List.drop_succ_cons, List.drop_zero, List.drop_nil]; simp only [go_sem, hP]; (repeat refine qJ ?_))
  rw [← hP] at hpa
  refine SOps_newG (cds := icds) hpa hpin rfl rfl rfl rfl (fun n hn => ?_) (fun n hn => ?_) (fun r os hpo => .inr ?_)
  ·obtain ⟨k, rfl⟩ : ∃ k, n = k + 1000 := ⟨n - 1000, by omega⟩
   simp only [prgE_upd', prgE_e0, AV.prg]
  ·exact ⟨prgO_o0 _, rfl⟩
  obtain ⟨R, j, cap, hR, c1, c2, rfl, rfl⟩ := hpo
  refine ⟨R, j, _, rfl, back_parse, ?_⟩
  (refine SOps_ops ?_; simp only [go_sem, hP]; (repeat refine qJ ?_))
  have hlen := hga.len
  have hn : 0 < ga.length := hga.pos
  have hRg : R.length = ga.length := by rw [← gi_len, hR, vals_len]
  have hJ0 : Jinv (ghost ga) ga.length w [] (0, 0) (ghost ga) := by
   have := Jinv.start (R := ghost ga) (w := w) (SOk.rok (by rw [hgb]; exact hga)).1 []
   rwa [ghost_len] at this
  have hlk0 : gi R = gv (ghost ga) := by rw [hR, gv_vals, hgb]
  have hr0 : (R[0]'(by omega)).l.length = w := by
   rw [link_row hlk0 (by omega) (by rw [ghost_len]; omega), List.length_map]
   exact (SOk.rok (by rw [hgb]; exact hga : SOk ((ghost ga).map Row.l) w)).1.row 0 (by rw [ghost_len]; omega)
  have hn0 : 0 < R.length := by omega
  refine WV_seq_ ?_
  (refine WV_op ?_; simp only [go_sem, hP]; (repeat refine qJ ?_))
  cases hq : parseP b with
  | none =>
   have hwh : joinG (textG ga) b = ([], 140) := by unfold joinG; rw [hq]; cases parseP (textG ga) <;> rfl
   rw [hwh]
   rw [retR_none hq] at hpb
   generalize (retR b).1 = gb at hpb
   (refine AS_pu (hpb) ?_; simp only [go_sem, hP, gridC, hd0, Bool.not_true, Bool.not_false, Bool.false_or, Bool.true_or, Bool.false_eq_true, false_implies, true_and, gown_grid, gown_row hn0, Row.ob_box, gridOb, Ob.isBox, refs_get hn0, irefs_glen, hr0, Int.toNat_zero, Nat.mul_one, Nat.zero_add, Nat.zero_mul, hn0, Int.ofNat_lt, Int.natCast_nonneg, Nat.add_zero]; (repeat refine qJ ?_); (repeat ((first | refine Va ?_ | refine Vb ?_ | refine Vc ?_ | refine Vd ?_ | refine Ve ?_ | refine Vf ?_); (try simp only [go_sem, hP, gridC, hd0, Bool.not_true, Bool.not_false, Bool.false_or, Bool.true_or, Bool.false_eq_true, false_implies, true_and, gown_grid, gown_row hn0, Row.ob_box, gridOb, Ob.isBox, refs_get hn0, irefs_glen, hr0, Int.toNat_zero, Nat.mul_one, Nat.zero_add, Nat.zero_mul, hn0, Int.ofNat_lt, Int.natCast_nonneg, Nat.add_zero]); (repeat refine qJ ?_))))
   (refine WV_cond rfl (fun h => ?_) (fun h => ?_))
   ·(repeat ((first | refine Va ?_ | refine Vb ?_ | refine Vc ?_ | refine Vd ?_ | refine Ve ?_ | refine Vf ?_); (try simp only [go_sem, hP, gown_lo, gown_upd]); (repeat refine qJ ?_)))
    (refine WV_ret ?_; simp only [thenQ, inQ, RetQ, RetOk, resAll, resA]; simp only [go_sem, tupA, AV.port, AV.portL, exists_eq_left', gown_lo])
    exact AVle.refl _
   ·simp at h
  | some gb =>
   have hq0 := hq
   obtain ⟨rfl, hgbk⟩ := parse_is hq
   obtain ⟨wb, hwb⟩ : ∃ wb, wb = (gb.headD []).length := ⟨_, rfl⟩
   rw [← hwb] at hgbk
   rw [retR_some hq0] at hpb
   have hwh : joinG (textG ga) (textG gb) = if ga.length = gb.length ∧ w = wb then (if okJ ga.length w ga gb then (textG (mergeG ga.length w ga gb), 0) else ([], 142)) else ([], 140) := by
    unfold joinG; rw [hp0, hq0]; simp only [hwa, hwb]
   rw [hwh]
   have hbpos := hgbk.pos
   obtain ⟨G, hG⟩ : ∃ G, G = (valsG gb).map fun l => [rowC l] := ⟨_, rfl⟩
   have hGl : G.length = gb.length := by rw [hG, List.length_map, vals_len]
   have hgr : ∀ k (hk : k < gb.length), G.getD k [] = [.sl 1 (((gb[k]).map vq).map fun n => [.int .i64 n])] := fun k hk => by
    rw [hG, map_getD (by rw [vals_len]; exact hk)]; simp [valsG, rowC]
   have hgw : ∀ k (hk : k < gb.length), (gb[k]).length = wb := fun k hk => hgbk.row _ (List.getElem_mem hk)
   have hg0 := hgr 0 hbpos
   have hw0 := hgw 0 hbpos
   have hpb2 : FSpec Tryd.prog 61 [sv (textG gb)] (.tup [.c (.sl 1 G), bv true]) := by rw [hG]; exact hpb
   refine AS_pu hpb2 ?_
   simp only [go_sem, hP]
   (repeat refine qJ ?_)
   refine WV_seq_ (WV_seq_ ?_)
   (refine WV_op ?_; simp only [go_sem, hP, gown_grid, gown_row hn0, Row.ob_box, gridOb, Ob.isBox, refs_get hn0, irefs_glen, Int.toNat_natCast, Int.toNat_zero, Nat.mul_one, Nat.zero_add, Nat.zero_mul, Nat.add_zero, Int.ofNat_lt, Int.natCast_nonneg, hr0, hn0, hGl, hg0, List.getD_cons_zero, List.length_map, hw0, hbpos, Bool.not_true, Bool.false_or]; (repeat refine qJ ?_))
   by_cases hsz : ga.length = gb.length ∧ w = wb
   ·rw [if_pos hsz]
    obtain ⟨hs1, rfl⟩ := hsz
    (refine WV_cond rfl (fun h => ?_) (fun h => ?_))
    ·simp at h; omega
    (refine WV_skip ?_; simp only [go_sem])
    refine WV_keep [6, 8] ?_
    simp only [go_sem]
    clear hG hpb hpb2
    have hw32 := hga.w32
    have hw2 := hga.w2
    (repeat ((first | refine Va ?_ | refine Vb ?_ | refine Vc ?_ | refine Vd ?_ | refine Ve ?_ | refine Vf ?_); (try simp only [go_sem, hP]); (repeat refine qJ ?_)))
    refine WV_loopS (fun p : Nat × List IRow × List BRow => ⟨upd (upd (upd e0 8 (.c (.sl 1 G))) 6 (.vw 1 1000 0 R.length cap)) 10 (iv p.1), gown icds 1 p.2.1 j o0⟩) (fun p => p.1 ≤ R.length ∧ p.2.1.length = R.length ∧ gi p.2.1 = gv p.2.2 ∧ Jinv (ghost ga) ga.length w gb (p.1, 0) p.2.2) (fun p => R.length - p.1) (0, R, ghost ga) ⟨Nat.zero_le _, rfl, hlk0, ?_⟩ ?_ ?_
    ·have := Jinv.start (R := ghost ga) (w := w) (SOk.rok (by rw [hgb]; exact hga)).1 gb
     rwa [ghost_len] at this
    ·exact Sub_of (by exact EnvLe_au) (ObLe_gown (by exact ObjLe_au))
    ·rintro ⟨k, S, B⟩ ⟨hk0, hSl, hlk, hI⟩
     simp only at hk0 hSl hlk hI ⊢
     (repeat ((first | refine Va ?_ | refine Vb ?_ | refine Vc ?_ | refine Vd ?_ | refine Ve ?_ | refine Vf ?_); (try simp only [go_sem, hP, gown_grid, gridOb, Ob.isBox]); (repeat refine qJ ?_)))
     (refine WV_cond rfl (fun h => ?_) (fun h => ?_))
     ·have hk : k < R.length := by simpa using h
      have hkg : k < gb.length := by omega
      have hw3 := w64 (n := (k : Int) + 1) (by omega) (by omega)
      (refine WV_skip ?_; simp only [go_sem])
      refine WV_seq_ (WV_block (WV_seq_ ?_))
      (refine WV_op ?_; simp only [go_sem, hP]; (repeat refine qJ ?_))
      refine WV_block ?_
      refine WV_loopS (fun p : Nat × List IRow × List BRow => ⟨upd (upd (upd (upd e0 8 (.c (.sl 1 G))) 6 (.vw 1 1000 0 R.length cap)) 10 (iv k)) 11 (iv p.1), gown icds 1 p.2.1 j o0⟩) (fun p => p.1 ≤ w ∧ p.2.1.length = R.length ∧ gi p.2.1 = gv p.2.2 ∧ Jinv (ghost ga) ga.length w gb (k, p.1) p.2.2) (fun p => w - p.1) (0, S, B) ⟨Nat.zero_le _, hSl, hlk, hI⟩ ?_ ?_
      ·exact Sub_of (by exact EnvLe_au) (ObLe_gown (by exact ObjLe_au))
      ·clear hI hlk hSl S B
       rintro ⟨i, S, B⟩ ⟨hi0, hSl, hlk, hI⟩
       simp only at hi0 hSl hlk hI ⊢
       have hBl := hI.len
       have hS0 : 0 < S.length := by omega
       have hB0 : 0 < B.length := by omega
       have hrow0 : (S[0]).l.length = w := by rw [link_row hlk hS0 hB0, List.length_map]; exact hI.ok.row 0 hB0
       (repeat ((first | refine Va ?_ | refine Vb ?_ | refine Vc ?_ | refine Vd ?_ | refine Ve ?_ | refine Vf ?_); (try simp only [go_sem, hP, gown_grid, gown_row hS0, Row.ob_box, gridOb, Ob.isBox, refs_get hS0, irefs_glen, Int.toNat_natCast, Int.toNat_zero, Nat.mul_one, Nat.zero_add, Nat.zero_mul, Nat.add_zero, Int.ofNat_lt, Int.natCast_nonneg, hrow0, hn0]); (repeat refine qJ ?_)))
       (refine WV_cond rfl (fun h => ?_) (fun h => ?_))
       ·have hi : i < w := by simpa using h
        have hks : k < S.length := by omega
        have hkb : k < B.length := by omega
        have hlr := link_row hlk hks hkb
        have hbr := hI.ok.row k hkb
        have hrow : (S[k]).l.length = w := by rw [hlr, List.length_map]; exact hbr
        have hil : i < (S[k]).l.length := by omega
        have hib : i < (B[k]).l.length := by omega
        have hig : i < (gb[k]).length := by rw [hgw k hkg]; exact hi
        have hva := hI.val k i hkb hib
        rw [if_neg (by unfold befo; simp), hgb] at hva
        have hvx : (S[k]).l[i] = vq (bat ga (k, i)) := by
         have : (S[k]).l[i] = ((B[k]).l.map vq)[i]'(by simpa using hib) := by simp only [hlr]
         rw [this, List.getElem_map, hva]
        have hvb : bat gb (k, i) = (gb[k])[i] := by
         unfold bat
         simp only
         rw [List.getD_eq_getElem?_getD (l := gb), List.getElem?_eq_getElem hkg, List.getD_eq_getElem?_getD]
         simp [hig]
        have hxo := bat_ok hga (i := k) (k := i) (by omega) hi
        have hyo := bat_ok hgbk (i := k) (k := i) hkg hi
        have hwi := w64 (n := (i : Int) + 1) (by omega) (by omega)
        have hgd : (G.getD k []).getD 0 default = .sl 1 (((gb[k]).map vq).map fun n => [.int .i64 n]) := by rw [hgr k hkg]; rfl
        have hgl : (G.getD k []).length = 1 := by rw [hgr k hkg]; rfl
        have hgy : ((((gb[k]).map vq).map fun n => [CD.int .i64 n]).getD i []) = [.int .i64 (vq (bat gb (k, i)))] := by
         rw [map_getD (by simpa using hig), List.getElem_map, hvb]
        have hgil : (((gb[k]).map vq).map fun n => [CD.int .i64 n]).length = w := by rw [List.length_map, List.length_map, hgw k hkg]
        generalize hzz : (((gb[k]).map vq).map fun n => [CD.int .i64 n]) = Z at hgd hgy hgil
        generalize hx : bat ga (k, i) = x at hvx hxo
        generalize hy : bat gb (k, i) = y at hgy hyo
        have hgb2 : bat ((ghost ga).map Row.l) (k, i) = x := by rw [hgb, hx]
        (refine WV_skip ?_; simp only [go_sem])
        refine WV_seq_ (WV_block (WV_seq_ (WV_seq_ ?_)))
        (refine WV_op ?_; simp only [go_sem, hP, gown_grid, gown_row hks, Row.ob_box, gridOb, Ob.isBox, refs_get hks, irefs_glen, Int.toNat_natCast, Int.toNat_zero, Nat.mul_one, Nat.zero_add, Nat.zero_mul, Nat.add_zero, Int.ofNat_lt, Int.natCast_nonneg, hrow, hk, hks, hi, icell hil, icell_lt hil, hvx]; (repeat refine qJ ?_))
        by_cases hx63 : x = 63
        ·have hv1 : vq x = -1 := by rw [hx63]; exact vq_63
         have hput : ∀ o, upd (gown icds 1 S j o) (k + 1001) (.box ((cellsG icds (S[k]).l (S[k]).j).set i (iv (vq y)))) = gown icds 1 (putI S (k, i) (vq y)) j o := fun o => gown_putI (p := (k, i)) hks hil j o
         have hcl := icell_lt hil (S[k]).j
         have hjo : jok (bat ((ghost ga).map Row.l) (k, i)) (bat gb (k, i)) = true := by rw [hgb2, hx63]; rfl
         have hjn : jn (bat ((ghost ga).map Row.l) (k, i)) (bat gb (k, i)) = y := by rw [hgb2, hy, hx63]; rfl
         have hnext := hI.put (by omega) hi hjo
         rw [hjn] at hnext
         have hks2 : k < (putI S (k, i) (vq y)).length := by rw [putI_len]; exact hks
         have hr2 := putI_row (p := (k, i)) (v := vq y) hks hks2
         have hrow2 : ((putI S (k, i) (vq y))[k]).l.length = w := by rw [hr2, List.length_set]; exact hrow
         have hil2 : i < ((putI S (k, i) (vq y))[k]).l.length := by omega
         have hvy : ((putI S (k, i) (vq y))[k]).l[i] = vq y := by simp only [hr2, List.getElem_set_self]
         have hlk2 : gi (putI S (k, i) (vq y)) = gv (putB B (k, i) y) := by rw [putI_gi hks, putB_gv hkb, hlk]
         have hSl2 : (putI S (k, i) (vq y)).length = R.length := by rw [putI_len]; exact hSl
         (refine WV_cond rfl (fun h => ?_) (fun h => ?_))
         ·(refine WV_op ?_; simp only [go_sem, hP, gown_grid, gown_row hks, Row.ob_box, gridOb, Ob.isBox, refs_get hks, irefs_glen, Int.toNat_natCast, Int.toNat_zero, Nat.mul_one, Nat.zero_add, Nat.zero_mul, Nat.add_zero, Int.ofNat_lt, Int.natCast_nonneg, hrow, hk, hks, hi, hkg, hGl, hgd, hgl, hgy, hgil, hcl, hput, List.getD_cons_zero, List.length_cons, List.length_nil]; (repeat refine qJ ?_))
          generalize putI S (k, i) (vq y) = S2 at hks2 hrow2 hil2 hvy hlk2 hSl2 ⊢
          refine WV_seq_ ?_
          (refine WV_op ?_; simp only [go_sem, hP, gown_grid, gown_row hks2, Row.ob_box, gridOb, Ob.isBox, refs_get hks2, irefs_glen, Int.toNat_natCast, Int.toNat_zero, Nat.mul_one, Nat.zero_add, Nat.zero_mul, Nat.add_zero, Int.ofNat_lt, Int.natCast_nonneg, hrow2, hk, hks2, hi, hkg, hGl, hgd, hgl, hgy, hgil, icell hil2, icell_lt hil2, hvy, List.getD_cons_zero, List.length_cons, List.length_nil, bne_self_eq_false]; (repeat refine qJ ?_))
          (refine WV_cond rfl (fun h => ?_) (fun h => ?_))
          ·simp at h
          ·(repeat ((first | refine Va ?_ | refine Vb ?_ | refine Vc ?_ | refine Vd ?_ | refine Ve ?_ | refine Vf ?_); (try simp only [go_sem, hP, hwi]); (repeat refine qJ ?_)))
           refine ⟨(i + 1, S2, putB B (k, i) y), ⟨by simp only; omega, hSl2, hlk2, hnext⟩, by simp only; omega, ?_⟩
           exact Sub_of (by exact EnvLe_au) (ObLe_gown (by exact ObjLe_au))
         ·simp [hv1] at h
        ·have hv1 : vq x ≠ -1 := vq_ne hxo hx63
         (refine WV_cond rfl (fun h => ?_) (fun h => ?_))
         ·simp at h; exact (hv1 h).elim
         ·(refine WV_skip ?_; simp only [go_sem])
          refine WV_seq_ ?_
          (refine WV_op ?_; simp only [go_sem, hP, gown_grid, gown_row hks, Row.ob_box, gridOb, Ob.isBox, refs_get hks, irefs_glen, Int.toNat_natCast, Int.toNat_zero, Nat.mul_one, Nat.zero_add, Nat.zero_mul, Nat.add_zero, Int.ofNat_lt, Int.natCast_nonneg, hrow, hk, hks, hi, hkg, hGl, hgd, hgl, hgy, hgil, icell hil, icell_lt hil, hvx, List.getD_cons_zero, List.length_cons, List.length_nil]; (repeat refine qJ ?_))
          by_cases hb2 : y = 63 ∨ y = x
          ·have hjo : jok (bat ((ghost ga).map Row.l) (k, i)) (bat gb (k, i)) = true := by
            rw [hgb2, hy]; unfold jok
            rcases hb2 with rfl | rfl <;> simp
           have hnext := hI.same (by omega) hi hjo (by rw [hgb2]; exact hx63)
           (refine WV_cond rfl (fun h => ?_) (fun h => ?_))
           ·exfalso
            rcases hb2 with rfl | rfl
            ·simp [vq_63] at h
            ·simp at h
           ·(repeat ((first | refine Va ?_ | refine Vb ?_ | refine Vc ?_ | refine Vd ?_ | refine Ve ?_ | refine Vf ?_); (try simp only [go_sem, hP, hwi]); (repeat refine qJ ?_)))
            refine ⟨(i + 1, S, B), ⟨by simp only; omega, hSl, hlk, hnext⟩, by simp only; omega, ?_⟩
            exact Sub_of (by exact EnvLe_au) (ObLe_gown (by exact ObjLe_au))
          ·simp only [not_or] at hb2
           have hno : okJ ga.length w ga gb = false := by
            rw [Bool.eq_false_iff]
            intro hc
            unfold okJ at hc
            have h1 := List.all_eq_true.1 (List.all_eq_true.1 hc k (by simp; omega)) i (by simpa using hi)
            rw [hx, hy] at h1
            unfold jok at h1
            simp only [Bool.or_eq_true, beq_iff_eq] at h1
            rcases h1 with (h1 | h1) | h1
            ·exact hx63 h1
            ·exact hb2.1 h1
            ·exact hb2.2 h1
           rw [hno, if_neg (by simp)]
           have hn1 := vq_ne hyo hb2.1
           have hn2 : vq y ≠ vq x := fun h => hb2.2 (vq_inj hyo hxo h)
           (refine WV_cond rfl (fun h => ?_) (fun h => ?_))
           ·(repeat ((first | refine Va ?_ | refine Vb ?_ | refine Vc ?_ | refine Vd ?_ | refine Ve ?_ | refine Vf ?_); (try simp only [go_sem, hP, gown_lo, gown_upd]); (repeat refine qJ ?_)))
            (refine WV_ret ?_; simp only [thenQ, inQ, RetQ, RetOk, resAll, resA]; simp only [go_sem, tupA, AV.port, AV.portL, exists_eq_left', gown_lo])
            exact AVle.refl _
           ·simp [hn1, hn2] at h
       ·have hi : i = w := by simp at h; omega
        subst hi
        (repeat ((first | refine Va ?_ | refine Vb ?_ | refine Vc ?_ | refine Vd ?_ | refine Ve ?_ | refine Vf ?_); (try simp only [go_sem, hP, hw3]); (repeat refine qJ ?_)))
        refine ⟨(k + 1, S, B), ⟨by simp only; omega, hSl, hlk, hI.row⟩, by simp only; omega, ?_⟩
        exact Sub_of (by exact EnvLe_au) (ObLe_gown (by exact ObjLe_au))
     ·have h : k = R.length := by simp at h; omega
      subst h
      rw [hRg] at hI
      obtain ⟨e1, e2⟩ := hI.end_
      rw [hgb] at e1 e2
      rw [e1, if_pos rfl]
      have hMk := merge_sok hga hgbk hs1
      have hgS : gi S = valsG (mergeG ga.length w ga gb) := by rw [hlk, gv_vals, e2]
      have hst := text59 (g := gi S) (by rw [hgS]; exact (vals_gow hMk).valsOk (by omega)) (by rw [hgS, vals_len]; simp [mergeG]; omega)
      rw [hgS, bytes_vals hMk.byte, ← hgS] at hst
      refine WV_exit ?_
      simp only [thenQ, inQ, reduceIte, beq_self_eq_true]
      rw [← hSl]
      refine WV_keep [6] ?_
      simp only [go_sem]
      refine WV_frzGridG icds_one (fun n ds hn => ?_) (fun n ds hn => frzO_o0 _ _) ?_
      ·have hn3 : ¬ (1000 : Nat) = n := by omega
       simp only [go_sem, AV.frz]
       simp only [hn3, if_false]
      simp only [frzE_upd, frzE_e0, frz_gridG]
      have hgc : CD.sl 1 (S.map fun r => [CD.sl 1 (r.l.map icds)]) = gridC (gi S) := by unfold gridC gi rowC icds; rw [List.map_map]; rfl
      rw [hgc]
      (repeat ((first | refine Va ?_ | refine Vb ?_ | refine Vc ?_ | refine Vd ?_ | refine Ve ?_ | refine Vf ?_); (try simp only [go_sem, hP]); (repeat refine qJ ?_)))
      (refine AS_pu (hst) ?_; simp only [go_sem, hP]; (repeat refine qJ ?_); (repeat ((first | refine Va ?_ | refine Vb ?_ | refine Vc ?_ | refine Vd ?_ | refine Ve ?_ | refine Vf ?_); (try simp only [go_sem, hP]); (repeat refine qJ ?_))))
      (refine WV_ret ?_; simp only [thenQ, inQ, RetQ, RetOk, resAll, resA]; simp only [go_sem, tupA, AV.port, AV.portL, exists_eq_left'])
      exact AVle.refl _
   ·rw [if_neg hsz]
    (refine WV_cond rfl (fun h => ?_) (fun h => ?_))
    ·(repeat ((first | refine Va ?_ | refine Vb ?_ | refine Vc ?_ | refine Vd ?_ | refine Ve ?_ | refine Vf ?_); (try simp only [go_sem, hP, gown_lo, gown_upd]); (repeat refine qJ ?_)))
     (refine WV_ret ?_; simp only [thenQ, inQ, RetQ, RetOk, resAll, resA]; simp only [go_sem, tupA, AV.port, AV.portL, exists_eq_left', gown_lo])
     exact AVle.refl _
    ·simp at h; omega
end Go.Proofs.YtlmfdmlochpfcaaDoor

namespace Go.Proofs.YtlmfdmlochpfcaaDoor
open Go Go.V
abbrev o13_0 : List Ins := [⟨(some 4), .mv (.k (.c (.bool false))), none, true⟩]
abbrev o13_1 : List Ins := [⟨(some 9), .mv (.t 0), none, true⟩,
 ⟨(some 10), .call (.k (.fn 26 [])) [(.t 9)], none, true⟩,
 ⟨(some 11), .mv (.t 10), none, true⟩,
 ⟨(some 12), .mv (.t 1), (some (11, false)), true⟩,
 ⟨(some 13), .call (.k (.fn 26 [])) [(.t 12)], (some (11, false)), true⟩,
 ⟨(some 14), .pick (.t 11) (.k (.c (.bool true))) (.t 13), none, true⟩]
abbrev o13_2 : List Ins := [⟨(some 15), .call (.k (.fn 16 [])) [], none, true⟩,
 ⟨(some 4), .mv (.t 15), none, true⟩]
abbrev v13_3 : VC := (.seq (.ops o13_2) .ret)
abbrev v13_4 : VC := (.cond (.t 14) v13_3 .skip)
abbrev o13_5 : List Ins := [⟨(some 17), .mv (.t 0), none, true⟩,
 ⟨(some 18), .mv (.t 1), none, true⟩,
 ⟨(some 19), .call (.k (.fn 41 [])) [(.t 17), (.t 18)], none, true⟩,
 ⟨(some 16), .mv (.t 19), none, true⟩,
 ⟨(some 20), .ext (.t 16) 0, none, true⟩,
 ⟨(some 21), .ext (.t 16) 1, none, true⟩,
 ⟨(some 5), .mv (.t 20), none, true⟩,
 ⟨(some 6), .mv (.t 21), none, true⟩]
abbrev o13_6 : List Ins := [⟨(some 23), .mv (.t 0), none, true⟩,
 ⟨(some 24), .mv (.t 1), none, true⟩,
 ⟨(some 25), .call (.k (.fn 42 [])) [(.t 23), (.t 24)], none, true⟩,
 ⟨(some 22), .mv (.t 25), none, true⟩,
 ⟨(some 26), .ext (.t 22) 0, none, true⟩,
 ⟨(some 27), .ext (.t 22) 1, none, true⟩,
 ⟨(some 7), .mv (.t 26), none, true⟩,
 ⟨(some 8), .mv (.t 27), none, true⟩]
abbrev o13_7 : List Ins := [⟨(some 28), .mv (.t 5), none, true⟩,
 ⟨(some 29), .mv (.t 7), none, true⟩,
 ⟨(some 30), .prim (.sbin .eql) [(.t 28), (.t 29)], none, true⟩,
 ⟨(some 31), .mv (.t 30), none, true⟩,
 ⟨(some 32), .mv (.t 6), (some (31, true)), true⟩,
 ⟨(some 33), .mv (.t 8), (some (31, true)), true⟩,
 ⟨(some 34), .bin .eql (.t 32) (.t 33), (some (31, true)), true⟩,
 ⟨(some 35), .pick (.t 31) (.t 34) (.k (.c (.bool false))), none, true⟩,
 ⟨(some 36), .mv (.t 35), none, true⟩,
 ⟨(some 37), .call (.k (.fn 16 [])) [], (some (36, true)), true⟩,
 ⟨(some 38), .pick (.t 36) (.t 37) (.k (.c (.bool false))), none, true⟩,
 ⟨(some 4), .mv (.t 38), none, true⟩]
abbrev v13_8 : VC := (.seq (.ops o13_7) .ret)
abbrev v13_9 : VC := (.seq (.ops o13_6) v13_8)
abbrev v13_10 : VC := (.seq (.ops o13_5) v13_9)
abbrev v13_11 : VC := (.seq (.seq (.ops o13_1) v13_4) v13_10)
def ir13 : FC := ⟨2, 39, [.t 4], (.seq (.ops o13_0) v13_11)⟩
theorem c13 : compM Tryd.prog [] 13 = some ir13 := by kernel_rfl
attribute [local go_sem] Nat.reduceEqDiff Nat.reduceAdd Nat.reduceMul reduceIte Nat.reduceLeDiff Nat.reduceLT Nat.reduceBEq reduceCtorEq
set_option maxRecDepth 20000 in
set_option maxHeartbeats 8000000 in
theorem bookJoin13 (a b : List UInt8) : FSpec Tryd.prog 13 [sv a, sv b] (bv true) := by
 have hmax : maxLen = 9223372036854775807 := rfl
 have hwk := works16
 refine FSpec_of c13 (Nat.le_refl _) (by decide) fun C hP hN hC hL => ?_; rw [init_st]
 simp only [ir13]
 (repeat ((first | refine Va ?_ | refine Vb ?_ | refine Vc ?_ | refine Vd ?_ | refine Ve ?_ | refine Vf ?_); (try simp only [go_sem, hP]); (repeat refine qJ ?_)))
 (refine AS_pu (large26 a) ?_; simp only [go_sem, hP]; (repeat refine qJ ?_); (repeat ((first | refine Va ?_ | refine Vb ?_ | refine Vc ?_ | refine Vd ?_ | refine Ve ?_ | refine Vf ?_); (try simp only [go_sem, hP]); (repeat refine qJ ?_))))
 (refine AG_pu (fun hG => large26 b) ?_; simp only [go_sem, hP]; (repeat refine qJ ?_); (repeat ((first | refine Va ?_ | refine Vb ?_ | refine Vc ?_ | refine Vd ?_ | refine Ve ?_ | refine Vf ?_); (try simp only [go_sem, hP]); (repeat refine qJ ?_))))
 by_cases hl : 2000 < a.length ∨ 2000 < b.length
 ·(refine WV_cond rfl (fun h => ?_) (fun h => ?_))
  ·(repeat ((first | refine Va ?_ | refine Vb ?_ | refine Vc ?_ | refine Vd ?_ | refine Ve ?_ | refine Vf ?_); (try simp only [go_sem, hP]); (repeat refine qJ ?_)))
   (refine AS_pu (hwk) ?_; simp only [go_sem, hP]; (repeat refine qJ ?_); (repeat ((first | refine Va ?_ | refine Vb ?_ | refine Vc ?_ | refine Vd ?_ | refine Ve ?_ | refine Vf ?_); (try simp only [go_sem, hP]); (repeat refine qJ ?_))))
   (refine WV_ret ?_; simp only [thenQ, inQ, RetQ, RetOk, resAll, resA]; simp only [go_sem, tupA, AV.port, AV.portL, exists_eq_left']; (first | exact AVle.of rfl | refine AVle.of ?_ | skip))
  ·simp at h; omega
 ·have h1 := join41 a b (by omega) (by omega)
  have h2 := join42 a b (by omega) (by omega)
  generalize joinG a b = p at h1 h2
  (refine WV_cond rfl (fun h => ?_) (fun h => ?_))
  ·simp at h; omega
  (repeat ((first | refine Va ?_ | refine Vb ?_ | refine Vc ?_ | refine Vd ?_ | refine Ve ?_ | refine Vf ?_); (try simp only [go_sem, hP]); (repeat refine qJ ?_)))
  (refine AS_pu (h1) ?_; simp only [go_sem, hP]; (repeat refine qJ ?_); (repeat ((first | refine Va ?_ | refine Vb ?_ | refine Vc ?_ | refine Vd ?_ | refine Ve ?_ | refine Vf ?_); (try simp only [go_sem, hP]); (repeat refine qJ ?_))))
  (refine AS_pu (h2) ?_; simp only [go_sem, hP, beq_self_eq_true, Bool.and_self, Bool.true_and, true_implies, Bool.true_eq_false, false_implies, and_true]; (repeat refine qJ ?_); (repeat ((first | refine Va ?_ | refine Vb ?_ | refine Vc ?_ | refine Vd ?_ | refine Ve ?_ | refine Vf ?_); (try simp only [go_sem, hP, beq_self_eq_true, Bool.and_self, Bool.true_and, true_implies, Bool.true_eq_false, false_implies, and_true]); (repeat refine qJ ?_))))
  (refine AG_pu (fun hG => hwk) ?_; simp only [go_sem, hP, beq_self_eq_true, Bool.and_self, Bool.true_and, true_implies, Bool.true_eq_false, false_implies, and_true]; (repeat refine qJ ?_); (repeat ((first | refine Va ?_ | refine Vb ?_ | refine Vc ?_ | refine Vd ?_ | refine Ve ?_ | refine Vf ?_); (try simp only [go_sem, hP, beq_self_eq_true, Bool.and_self, Bool.true_and, true_implies, Bool.true_eq_false, false_implies, and_true]); (repeat refine qJ ?_))))
  (refine WV_ret ?_; simp only [thenQ, inQ, RetQ, RetOk, resAll, resA]; simp only [go_sem, tupA, AV.port, AV.portL, exists_eq_left']; (first | exact AVle.of rfl | refine AVle.of ?_ | skip))
end Go.Proofs.YtlmfdmlochpfcaaDoor
