/-
  Contracts of the layer's functions, of the laws' helpers and of the law; conditions: as each theorem states.
-/
import Derived.Test.YtbclmfjibpppfaaGreatU5
import Derived.Test.YtbclmfjibpppfaaGreatV2
import Derived.Test.YtbclmfjibpppfaaGreatU4
import Derived.Test.YtbclmfjibpppfaaGreatChecked
set_option linter.unusedVariables false
set_option linter.unusedSimpArgs false
/-
 What led to a point: plain.
-/
namespace Go.Proofs.YtbclmfjibpppfaaGreat
open Go Go.V
def Bk (S:Seen):Prop:=∀ pre e post,S = pre ++ e :: post → e.2.1 = -2 ∨ e.2.2 ∈ sks pre
theorem Bk.snoc {S:Seen} (h:Bk S) {p x:Pt} {act:Int} (hx:x ∈ sks S):Bk (S ++ [(p,act,x)]):=by
 intro pre e post he
 rcases List.eq_nil_or_concat post with rfl | ⟨post',y,rfl⟩
 ·obtain ⟨rfl,h2⟩:=List.append_inj' he rfl
  simp only [List.cons.injEq,and_true] at h2
  subst h2
  exact .inr hx
 ·rw [List.concat_eq_append,← List.cons_append,← List.append_assoc] at he
  exact h pre e post' (List.append_inj' he rfl).1
theorem addS_sub {A:Bag} {act:Int} {x y z:Pt} {s:Seen × List Pt} (h:z ∈ sks s.1):z ∈ sks (addS A act x s y).1:=by
 unfold addS; split
 ·exact h
 ·simp only [sks,List.map_append,List.mem_append]; exact .inl h
theorem addAll_bk {A:Bag} {x:Pt}:∀ {l:List (Int × Pt)} {s:Seen × List Pt},Bk s.1 → x ∈ sks s.1 → Bk (addAll A x l s).1 ∧ x ∈ sks (addAll A x l s).1
 | [],s,h,hx => ⟨h,hx⟩
 | e :: l,s,h,hx => by
  have h1:Bk (addS A e.1 x s e.2).1:=by
   unfold addS; split
   ·exact h
   ·exact h.snoc hx
  exact addAll_bk (l:=l) h1 (addS_sub hx)
theorem expand_bk {w:Wh} {A:Bag} {x:Pt} {s:Seen × List Pt} (h:Bk s.1) (hx:x ∈ sks s.1):Bk (expand w A x s).1:=by
 have h1:=addAll_bk (A:=A) (x:=x) (l:=selN x) h hx
 exact (addAll_bk h1.1 h1.2).1
theorem bfs_bk {w:Wh} (hw:WhOk w) {A:Bag} (hA:BagOk A):∀ (n:Nat) (s:Seen × List Pt),SeenOk w.ro A s → Bk s.1 → Bk (bfs w A n s) ∧ (∀ e ∈ bfs w A n s,PtIn w.ro A e.1)
 | 0,s,h,hb => ⟨hb,h.inn⟩
 | n + 1,(S,[]),h,hb => ⟨hb,h.inn⟩
 | n + 1,(S,x :: q),h,hb => bfs_bk hw hA n _ (expand_ok hw hA h).1 (expand_bk (s:=(S,q)) hb (h.sub x (by simp)))
theorem bfs_len {w:Wh} (hw:WhOk w) {A:Bag} (hA:BagOk A):∀ (n:Nat) (s:Seen × List Pt),SeenOk w.ro A s → (bfs w A n s).length ≤ 238291875000
 | 0,s,h => (h.len hA hw.ro.2).1
 | n + 1,(S,[]),h => (h.len hA hw.ro.2).1
 | n + 1,(S,x :: q),h => bfs_len hw hA n _ (expand_ok hw hA h).1
theorem walk_bk {w:Wh} (hw:WhOk w) {A:Bag} (hA:BagOk A):Bk (walkS w A) ∧ (∀ e ∈ walkS w A,PtIn w.ro A e.1) ∧ (walkS w A).length ≤ 238291875000:=by
 have h0:Bk [(p00,(-2:Int),p00)]:=by
  intro pre e post he
  cases pre with
  | nil => simp only [List.nil_append,List.cons.injEq] at he; rw [← he.1]; exact .inl rfl
  | cons y pre => simp at he
 have h1:=bfs_bk hw hA 476583750002 _ (start_ok hw hA) h0
 exact ⟨h1.1,h1.2,bfs_len hw hA _ _ (start_ok hw hA)⟩
theorem look_pre {S pre post:Seen} {e:Pt × Int × Pt} (hS:S = pre ++ e :: post) {p:Pt} (hp:p ∈ sks pre):∃ pre' e' post',S = pre' ++ e' :: post' ∧ pre'.length < pre.length ∧ glook (gl S) p.l = some (e'.2.1 :: e'.2.2.l):=by
 obtain ⟨y,hy,hyp⟩:=List.mem_map.1 hp
 cases hf:pre.find? (fun e => e.1 = p) with
 | none =>
  rw [List.find?_eq_none] at hf
  have:=hf y hy
  simp [hyp] at this
 | some e' =>
  obtain ⟨h1,A,B,rfl,h2⟩:=List.find?_eq_some_iff_append.1 hf
  refine ⟨A,e',B ++ e :: post,by rw [hS]; simp,by simp,?_⟩
  rw [glook_gl,hS]
  rw [List.find?_append,hf]
  rfl
theorem look_any {S:Seen} {p:Pt} (hp:p ∈ sks S):∃ pre e post,S = pre ++ e :: post ∧ glook (gl S) p.l = some (e.2.1 :: e.2.2.l):=by
 obtain ⟨y,hy,hyp⟩:=List.mem_map.1 hp
 cases hf:S.find? (fun e => e.1 = p) with
 | none =>
  rw [List.find?_eq_none] at hf
  have:=hf y hy
  simp [hyp] at this
 | some e =>
  obtain ⟨h1,A,B,hS,h2⟩:=List.find?_eq_some_iff_append.1 hf
  refine ⟨A,e,B,hS,?_⟩
  rw [glook_gl,hf]
  rfl
def hitB (b:Bx) (A:Bag):Bool:=(walkS b.wh A).any fun e => decide (e.1.bag = A) && within e.1.bo b.pl (b.pl + b.sk)
theorem dput_has {D:Ends} {n:Int} {p:Pt}:n ∈ keysD (dput D n p):=by
 rw [dput_keys]
 split
 ·assumption
 ·simp
theorem keysD_all {S:Seen} {A:Bag} {D:Ends} (h:EndsOf S A D) (n:Int):n ∈ keysD D ↔ ∃ e ∈ S,e.1.bag = A ∧ e.1.bo = n:=by
 constructor
 ·intro hn
  obtain ⟨e,he,rfl⟩:=List.mem_map.1 hn
  obtain ⟨h1,h2,h3⟩:=h.ok.src e he
  obtain ⟨y,hy,hye⟩:=List.mem_map.1 h3
  exact ⟨y,hy,by rw [hye]; exact h2,by rw [hye]; exact h1.symm⟩
 ·rintro ⟨e,he,hA,rfl⟩
  obtain ⟨ord,hp,rfl⟩:=h
  have mono:∀ (l:Seen) (D:Ends) (n:Int),n ∈ keysD D → n ∈ keysD (l.foldl (endS A) D):=by
   intro l
   induction l with
   | nil => intro D n h; exact h
   | cons x l ih =>
    intro D n h
    rw [List.foldl_cons]
    refine ih _ n ?_
    unfold endS
    split
    ·rw [dput_keys]; split
     ·exact h
     ·simp [h]
    ·exact h
  obtain ⟨l1,l2,rfl⟩:=List.append_of_mem (hp.symm.subset he)
  rw [List.foldl_append,List.foldl_cons]
  refine mono l2 _ _ ?_
  generalize l1.foldl (endS A) [] = D1
  unfold endS
  split
  ·exact dput_has
  ·rename_i hc
   simp only [hA,decide_true,Bool.true_and] at hc
   unfold endB at hc
   split at hc
   ·exact absurd rfl hc
   ·rename_i o ho
    have:=dlook_some ho
    exact List.mem_map.2 ⟨_,this,rfl⟩
theorem hit_iff {b:Bx} {A:Bag} {D:Ends} (h:EndsOf (walkS b.wh A) A D):hitB b A = (srt (keysD D)).any fun n => within n b.pl (b.pl + b.sk):=by
 rw [Bool.eq_iff_iff,List.any_eq_true]
 simp only [hitB,List.any_eq_true,Bool.and_eq_true,decide_eq_true_eq]
 constructor
 ·rintro ⟨e,he,h1,h2⟩
  exact ⟨e.1.bo,srt_mem.2 ((keysD_all h _).2 ⟨e,he,h1,rfl⟩),h2⟩
 ·rintro ⟨n,hn,h2⟩
  obtain ⟨e,he,h1,rfl⟩:=(keysD_all h _).1 (srt_mem.1 hn)
  exact ⟨e,he,h1,h2⟩
def pur (b:Bx) (p:List Int):Bag:=⟨(putL b).getD 0 0 + p.getD 0 0,(putL b).getD 1 0 + p.getD 1 0,(putL b).getD 2 0 + p.getD 2 0,(putL b).getD 3 0 + p.getD 3 0⟩
structure PurOk (b:Bx) (p:List Int):Prop where
 len:p.length ≤ b.wh.co.length
 nn:∀ n ∈ p,0 ≤ n
 sum:p.sum ≤ 2
theorem getD_nn {p:List Int} (h:∀ n ∈ p,0 ≤ n) (k:Nat):0 ≤ p.getD k 0:=by
 rw [List.getD_eq_getElem?_getD]
 cases hk:p[k]? with
 | none => simp
 | some n => exact h n (List.mem_of_getElem? hk)
theorem sum4:∀ {p:List Int},p.length ≤ 4 → p.sum = p.getD 0 0 + p.getD 1 0 + p.getD 2 0 + p.getD 3 0
 | [],_ => rfl
 | [a],_ => by simp
 | [a,b],_ => by simp
 | [a,b,c],_ => by simp; omega
 | [a,b,c,d],_ => by simp; omega
 | a :: b :: c :: d :: e :: l,h => by simp at h
theorem addL_at:∀ {a b:List Int} (_:a.length = b.length) (k:Nat),(addL a b).getD k 0 = if k < a.length then a.getD k 0 + b.getD k 0 else 0
 | [],[],_,k => by simp [addL]
 | x :: a,y :: b,h,0 => by simp [addL]
 | x :: a,y :: b,h,k + 1 => by
  have:=addL_at (a:=a) (b:=b) (by simpa using h) k
  unfold addL at this ⊢
  rw [List.zipWith_cons_cons,List.getD_cons_succ,this,List.getD_cons_succ,List.getD_cons_succ]
  simp
theorem put_sum {b:Bx} (hb:BxOk b):(∀ k,0 ≤ (putL b).getD k 0) ∧ (putL b).getD 0 0 + (putL b).getD 1 0 + (putL b).getD 2 0 + (putL b).getD 3 0 ≤ 12:=by
 have hl:=hb.fl.trans hb.sl.symm
 have hcl:=hb.wh.cl
 have hfl:=hb.fl
 have hs:=hb.sum
 have g1:=fun k => getD_nn (fun n hn => (hb.fo n hn).1) k
 have g2:=fun k => getD_nn (fun n hn => (hb.sn n hn).1) k
 have g:∀ k,(putL b).getD k 0 = if k < b.fo.length then b.fo.getD k 0 + b.sl.getD k 0 else 0:=addL_at hl
 refine ⟨fun k => ?_,?_⟩
 ·rw [g k]; have:=g1 k; have:=g2 k; split <;> omega
 ·rw [g 0,g 1,g 2,g 3]
  have h4:b.fo.length = 0 ∨ b.fo.length = 1 ∨ b.fo.length = 2 ∨ b.fo.length = 3 ∨ b.fo.length = 4:=by omega
  rcases h4 with h | h | h | h | h <;> rw [h] at hs ⊢ <;> simp only [sumK] at hs <;> simp only [Nat.reduceLT,Nat.lt_irrefl,if_true,if_false] <;> omega
theorem pur_ok {b:Bx} (hb:BxOk b) {p:List Int} (hp:PurOk b p):BagOk (pur b p):=by
 obtain ⟨h1,h2⟩:=put_sum hb
 have hcl:=hb.wh.cl
 have hs:=sum4 (p:=p) (by have:=hp.len; omega)
 have h3:=hp.sum
 have g:=getD_nn hp.nn
 have a0:=h1 0; have a1:=h1 1; have a2:=h1 2; have a3:=h1 3
 have b0:=g 0; have b1:=g 1; have b2:=g 2; have b3:=g 3
 unfold pur
 constructor <;> simp only <;> omega
end Go.Proofs.YtbclmfjibpppfaaGreat

namespace Go.Proofs.YtbclmfjibpppfaaGreat
open Go Go.V
abbrev o62_0:List Ins:=[JS 4 (.mv (.k J0)),JS 5 (JB false)]
abbrev o62_1:List Ins:=[JS 15 (Jm 0),JS 16 (Jc 72 [.t 15]),JS 6 (.alloc [Jz 0,Jz 0,Jz 0,Jz 0]),JN (Js 4 6 16)]
abbrev o62_2:List Ins:=[JS 17 (Jm 1),JS 18 (Jn 17),JS 19 (Ji 0)]
abbrev o62_3:List Ins:=[JS 20 (Jb .lss 19 18)]
abbrev o62_4:List Ins:=[JS 21 (Jm 19),JS 22 (Ja 1 17 19),JS 23 (Jl 22),JS 7 (Jm 21),JS 8 (Jm 23)]
abbrev o62_5:List Ins:=[JS 24 (Jm 7),JS 25 (.iap 4 1 (.t 6) (.t 24)),JS 26 (Jl 25),JS 27 (Jm 8),JS 28 (Jb .add 26 27),JS 29 (.iap 4 1 (.t 6) (.t 24)),JN (Js 1 29 28)]
abbrev v62_6:VC:=(.seq (.ops o62_4) (.ops o62_5))
abbrev o62_7:List Ins:=[JS 30 (Jk .add 19 1),JS 19 (Jm 30)]
abbrev v62_8:VC:=(.seq (.block 1 v62_6) (.ops o62_7))
abbrev v62_9:VC:=(.seq (.cond (.t 20) .skip (.exit 0)) v62_8)
abbrev v62_10:VC:=(.seq (.ops o62_3) v62_9)
-- K62_1: changed and kept: [19]
abbrev K62_1:List Nat:=[0,6,17,18]
abbrev v62_11:VC:=(.loop v62_10)
abbrev v62_12:VC:=(.block 0 v62_11)
abbrev o62_13:List Ins:=[JS 31 (Jm 0),JS 32 (JL 4 6),JS 33 (Jc 73 [.t 31,.t 32]),JS 9 (Jm 33)]
abbrev o62_14:List Ins:=[JS 34 (Jm 9),JS 35 (JL 4 6),JS 36 (Jc 74 [.t 34,.t 35]),JS 10 (Jm 36)]
abbrev o62_15:List Ins:=[JS 37 (Jm 10),JS 38 (Jc 76 [.t 37]),JS 39 (Jc 75 [.t 38]),JS 40 (Jn 39),JS 41 (Ji 0)]
abbrev o62_16:List Ins:=[JS 42 (Jb .lss 41 40)]
abbrev o62_17:List Ins:=[JS 43 (Ja 1 39 41),JS 44 (Jl 43),JS 12 (Jm 44)]
abbrev o62_18:List Ins:=[JF 45 (Jm 12),JF 46 (Jm 0),JF 47 (.nilc (.t 46)),JF 48 (Jf 0 47),JF 49 (Jf 6 48),JF 50 (Jl 49),JF 51 (Jm 0),JF 52 (.nilc (.t 51)),JF 53 (Jf 0 52),JF 54 (Jf 6 53),JF 55 (Jl 54),JF 56 (Jm 0),JF 57 (.nilc (.t 56)),JF 58 (Jf 0 57),JF 59 (Jf 7 58),JF 60 (Jl 59),JF 61 (Jb .add 55 60),JS 62 (Jc 68 [.t 45,.t 50,.t 61]),JS 63 (.un .not (.t 62))]
abbrev v62_19:VC:=(.cond (.t 63) (.exit 3) .skip)
abbrev o62_20:List Ins:=[JS 13 (.mv (.k J0))]
abbrev o62_21:List Ins:=[JS 64 (Jm 9),JS 65 (Jm 10),JS 66 (Jm 12),JS 67 (.raw (.lookup 141 (.tmp 65) (.tmp 66) false)),JS 68 (.raw (.lookup 139 (.tmp 64) (.tmp 67) false)),JS 14 (.alloc [Jz 0,Jz 0,Jz 0,Jz 0,Jz 0,Jz 0,Jz 0,Jz 0]),JN (Js 8 14 68)]
abbrev o62_22:List Ins:=[JS 69 (Jf 0 14),JS 70 (Jl 69),JS 71 (Jk .neq 70 (-2))]
abbrev v62_23:VC:=(.cond (.t 71) .skip (.exit 4))
abbrev o62_24:List Ins:=[JS 76 (Jm 13),JS 77 (Jf 0 14),JS 78 (Jl 77),JS 79 (.bsl 3 1 [.t 78]),JS 80 (.appv 3 1 8 (.t 76) (.t 79)),JS 13 (Jm 80)]
abbrev o62_25:List Ins:=[JS 81 (JL 8 14)]
abbrev o62_26:List Ins:=[JS 14 (.alloc [Jz 0,Jz 0,Jz 0,Jz 0,Jz 0,Jz 0,Jz 0,Jz 0]),JN (Js 8 14 81)]
abbrev o62_27:List Ins:=[JS 72 (Jm 9),JS 73 (Jf 1 14),JS 74 (JL 7 73),JS 75 (.raw (.lookup 139 (.tmp 72) (.tmp 74) false)),JN (Js 8 14 75)]
abbrev v62_28:VC:=(.seq (.seq (.ops o62_25) (.ops o62_26)) (.ops o62_27))
abbrev v62_29:VC:=(.seq (.block 5 (.ops o62_24)) v62_28)
abbrev v62_30:VC:=(.seq (.seq (.ops o62_22) v62_23) v62_29)
-- K62_3: changed and kept: [14,13]
abbrev K62_3:List Nat:=[9]
abbrev v62_31:VC:=(.loop v62_30)
abbrev v62_32:VC:=(.block 4 v62_31)
abbrev o62_33:List Ins:=[JS 82 (Jm 13),JS 83 (Jc 77 [.t 82])]
abbrev o62_34:List Ins:=[JS 84 (Jm 13),JS 4 (Jm 84),JS 5 (JB true)]
abbrev v62_35:VC:=(.seq (.ops o62_34) .ret)
abbrev v62_36:VC:=(.seq (.ops o62_33) v62_35)
abbrev v62_37:VC:=(.seq (.seq (.ops o62_21) v62_32) v62_36)
abbrev v62_38:VC:=(.seq (.ops o62_20) v62_37)
abbrev v62_39:VC:=(.seq (.seq (.dops o62_18) v62_19) v62_38)
abbrev v62_40:VC:=(.seq (.ops o62_17) v62_39)
abbrev o62_41:List Ins:=[JS 85 (Jk .add 41 1),JS 41 (Jm 85)]
abbrev v62_42:VC:=(.seq (.block 3 v62_40) (.ops o62_41))
abbrev v62_43:VC:=(.seq (.cond (.t 42) .skip (.exit 2)) v62_42)
abbrev v62_44:VC:=(.seq (.ops o62_16) v62_43)
-- K62_2: changed and kept: [41]
abbrev K62_2:List Nat:=[0,9,10,39,40]
abbrev v62_45:VC:=(.loop v62_44)
abbrev v62_46:VC:=(.block 2 v62_45)
abbrev o62_47:List Ins:=[JS 4 (.mv (.k J0)),JS 5 (JB false)]
abbrev v62_48:VC:=(.seq (.ops o62_47) .ret)
abbrev v62_49:VC:=(.seq (.seq (.ops o62_15) v62_46) v62_48)
abbrev v62_50:VC:=(.seq (.ops o62_14) v62_49)
abbrev v62_51:VC:=(.seq (.ops o62_13) v62_50)
abbrev v62_52:VC:=(.seq (.seq (.ops o62_2) v62_12) v62_51)
abbrev v62_53:VC:=(.seq (.ops o62_1) v62_52)
def ir62:FC:=⟨2,86,[.t 4,.t 5],(.seq (.ops o62_0) v62_53)⟩
theorem c62:compM Tryz.prog [100080] 62 = some ir62:=by kernel_rfl
attribute [local go_sem] Nat.reduceEqDiff Nat.reduceAdd Nat.reduceMul reduceIte Nat.reduceLeDiff Nat.reduceLT Nat.reduceBEq reduceCtorEq
def purK (b:Bx) (p:List Int) (k:Nat):List Int:=[(putL b).getD 0 0 + (p.take k).getD 0 0,(putL b).getD 1 0 + (p.take k).getD 1 0,(putL b).getD 2 0 + (p.take k).getD 2 0,(putL b).getD 3 0 + (p.take k).getD 3 0]
theorem purK_zero (b:Bx) (p:List Int):purK b p 0 = bagOf (putL b):=by simp [purK,bagOf]
theorem purK_all (b:Bx) (p:List Int):purK b p p.length = (pur b p).l:=by simp [purK,pur,Bag.l]
theorem take_at {p:List Int} {k i:Nat}:(p.take k).getD i 0 = if i < k then p.getD i 0 else 0:=by
 rw [List.getD_eq_getElem?_getD,List.getD_eq_getElem?_getD,List.getElem?_take]
 split <;> rfl
theorem purK_succ (b:Bx) (p:List Int) {k:Nat} (hk:k < 4):(bagAv (purK b p k)).set k (iv ((purK b p k).getD k 0 + p.getD k 0)) = bagAv (purK b p (k + 1)):=by
 have:k = 0 ∨ k = 1 ∨ k = 2 ∨ k = 3:=by omega
 rcases this with rfl | rfl | rfl | rfl <;> simp [purK,bagAv,take_at,List.getD_eq_getElem?_getD,List.getElem?_take]
theorem bagAv_at (b:Bx) (p:List Int) {k j:Nat} (hk:j < 4):(bagAv (purK b p k)).getD j .non = iv ((purK b p k).getD j 0):=by
 have:j = 0 ∨ j = 1 ∨ j = 2 ∨ j = 3:=by omega
 rcases this with rfl | rfl | rfl | rfl <;> simp [purK,bagAv]
theorem pur_at {b:Bx} (hb:BxOk b) {p:List Int} (hp:PurOk b p) {k:Nat} (hk:k < 4):0 ≤ (purK b p k).getD k 0 ∧ (purK b p k).getD k 0 ≤ 14 ∧ 0 ≤ p.getD k 0 ∧ p.getD k 0 ≤ 2:=by
 obtain ⟨h1,h2⟩:=put_sum hb
 have hcl:=hb.wh.cl
 have hs:=sum4 (p:=p) (by have:=hp.len; omega)
 have h3:=hp.sum
 have g:=getD_nn hp.nn
 have a0:=h1 0; have a1:=h1 1; have a2:=h1 2; have a3:=h1 3
 have b0:=g 0; have b1:=g 1; have b2:=g 2; have b3:=g 3
 have:k = 0 ∨ k = 1 ∨ k = 2 ∨ k = 3:=by omega
 rcases this with rfl | rfl | rfl | rfl <;> simp only [purK,take_at,List.getD_cons_zero,List.getD_cons_succ,Nat.lt_irrefl,if_false] <;> omega
theorem look_mem {S:Seen} {q:Pt} (h:q ∈ sks S):(q,((S.find? fun e => e.1 = q).map (·.2)).getD (0,p00)) ∈ S:=by
 obtain ⟨y,hy,hyp⟩:=List.mem_map.1 h
 cases hf:S.find? (fun e => e.1 = q) with
 | none =>
  rw [List.find?_eq_none] at hf
  have:=hf y hy
  simp [hyp] at this
 | some e =>
  have h1:=List.find?_some hf
  simp only [decide_eq_true_eq] at h1
  have h2:=List.mem_of_find?_eq_some hf
  simp only [Option.map_some,Option.getD_some]
  rw [← h1]; exact h2
def accV (acts:List Int) (cap:Nat):AV:=if acts = [] then .c (.raw (.slice none 0 0)) else .vw 1 80 0 acts.length cap
def accO (acts:List Int) (j:Nat):Ob:=if acts = [] then .none else .box (cI acts j)
def stepAv (e:Pt × Int × Pt):List AV:=[iv e.2.1,iv e.2.2.pl,iv e.2.2.cr,iv e.2.2.a,iv e.2.2.b,iv e.2.2.c,iv e.2.2.d,iv e.2.2.bo]
theorem cI_prg (d:Nat):∀ (zs:List Int) (j:Nat),AV.prgL d (cI zs j) = cI zs j
 | [],0 => rfl
 | [],j + 1 => by
  have:=cI_prg d [] j
  simp only [cI,List.map_nil,List.nil_append,List.replicate_succ,AV.prgL,AV.prg] at this ⊢
  rw [this]
 | z :: zs,j => by
  have:=cI_prg d zs j
  simp only [cI,List.map_cons,List.cons_append,AV.prgL,AV.prg] at this ⊢
  rw [this]
theorem cI_lend (L:List Nat) (own:Nat → Ob):∀ (zs:List Int) (j:Nat),AV.lendL 1000 L own (cI zs j) = some (cI zs j)
 | [],0 => rfl
 | [],j + 1 => by
  have:=cI_lend L own [] j
  simp only [cI,List.map_nil,List.nil_append,List.replicate_succ,AV.lendL,AV.lend] at this ⊢
  rw [this]
 | z :: zs,j => by
  have:=cI_lend L own zs j
  simp only [cI,List.map_cons,List.cons_append,AV.lendL,AV.lend] at this ⊢
  rw [this]
theorem cI_back (L:List Nat):∀ (zs:List Int) (j:Nat),AV.backL L (cI zs j) = some (cI zs j)
 | [],0 => rfl
 | [],j + 1 => by
  have:=cI_back L [] j
  simp only [cI,List.map_nil,List.nil_append,List.replicate_succ,AV.backL,AV.back] at this ⊢
  rw [this]
 | z :: zs,j => by
  have:=cI_back L zs j
  simp only [cI,List.map_cons,List.cons_append,AV.backL,AV.back] at this ⊢
  rw [this]
theorem cI_c (zs:List Int) (j:Nat):cI zs j = (zs.map (CD.int .i64)).map .c ++ List.replicate j .non:=by simp [cI,Function.comp_def]
theorem grp1 {α:Type}:∀ l:List α,grp 1 l.length l = l.map fun x => [x]
 | [] => rfl
 | a :: l => by simp [grp,grp1 l]
theorem grpI (n:Nat) (zs:List Int) (h:zs.length = n):(if n * 1 ≤ zs.length then AV.c (CD.sl 1 (grp 1 n (List.take (n * 1) (zs.map (CD.int .i64))))) else AV.non) = .c (ints zs):=by
 subst h
 rw [if_pos (by omega),Nat.mul_one,List.take_of_length_le (by simp)]
 have:=grp1 (zs.map (CD.int .i64))
 rw [List.length_map] at this
 rw [this,List.map_map]
 rfl
theorem nil66:FSpec Tryz.prog 77 [.c (.raw (.slice none 0 0))] (.tup []):=by
 refine FSpec_of c77 (Nat.le_refl _) (by decide) fun C hP hN hC hL => ?_; rw [init_st]
 simp only [ir77]
 (repeat ((first | refine Va ?_ | refine Vb ?_ | refine Vc ?_ | refine Vd ?_ | refine Ve ?_ | refine Vf ?_); (try simp only [go_sem,hP]); (repeat refine qJ ?_)))
 refine WV_loopK [] [] (fun k:Unit => True) (fun _ => 0) (fun k => [(2,iv 0),(3,iv (-1))]) (fun _ => []) () trivial ?_ ?_
 ·exact Sub_au
 ·intro _ _
  (repeat ((first | refine Va ?_ | refine Vb ?_ | refine Vc ?_ | refine Vd ?_ | refine Ve ?_ | refine Vf ?_); (try simp only [go_sem,hP]); (repeat refine qJ ?_)))
  (refine WV_cond rfl (fun h => ?_) (fun h => ?_))
  ·simp at h
  ·(repeat ((first | refine Va ?_ | refine Vb ?_ | refine Vc ?_ | refine Vd ?_ | refine Ve ?_ | refine Vf ?_); (try simp only [go_sem,hP]); (repeat refine qJ ?_)))
   simp only [thenQ,inQ,RetQ,RetOk,resAll,resA]
   simp only [go_sem,tupA,AV.port,AV.portL,exists_eq_left']
   exact AVle.of rfl
set_option maxHeartbeats 8000000 in
set_option maxRecDepth 20000 in
theorem explain59 {b : Bx} (hwb : whB b.wh = true) (hb : BxOk b) {p : List Int} (hp : PurOk b p) : FSpecN Tryz.prog 62 [.c (.pt b.cds), .c (ints p)] (fun r os => os = [] ∧ ∃ acts, r = .tup [.c (ints acts), .c (.bool (hitB b (pur b p)))]) := by
  have hA := pur_ok hb hp
  have hcl := hb.wh.cl
  have hpl := hp.len
  refine FSpecN_of c62 (Nat.le_refl _) (by decide) fun C hP hN hC hL => ?_; rw [init_st]
  simp only [ir62, ints]
  (repeat ((first | refine Va ?_ | refine Vb ?_ | refine Vc ?_ | refine Vd ?_ | refine Ve ?_ | refine Vf ?_); (try simp only [go_sem, hP]); (repeat refine qJ ?_)))
  (refine AS_pu (put61 hb) ?_; simp only [go_sem, hP, bagAv, bagOf, List.map_cons, List.map_nil, List.length_map]; (repeat refine qJ ?_); (repeat ((first | refine Va ?_ | refine Vb ?_ | refine Vc ?_ | refine Vd ?_ | refine Ve ?_ | refine Vf ?_); (try simp only [go_sem, hP, bagAv, bagOf, List.map_cons, List.map_nil, List.length_map]); (repeat refine qJ ?_))))
  refine WV_loopK K62_1 [6] (fun k : Nat => k ≤ p.length) (fun k => p.length - k) (fun k => [(19, iv k)]) (fun k => [(6, .box (bagAv (purK b p k)))]) 0 (by omega) ?_ ?_
  · rw [purK_zero]
    (refine Sub_of (by simp only [go_sem]; ((repeat' (first | exact EnvLe_e0 _ _ | refine EnvLe_upd ?_ ?_)) <;> ((try simp only [upd_app, e0_app, o0_app, Nat.reduceEqDiff, reduceIte]); first | exact AWk.refl _ _ | exact AWk.int (by omega) | exact AWk.int (by rw [w64 (by omega) (by omega)]; omega) | exact AWk.grow rfl | exact AWk.nil _ | exact AWk.of (by simp [bagAv, bagOf])))) (by simp only [go_sem]; exact ObjLe_au))
  · intro k hk
    (repeat ((first | refine Va ?_ | refine Vb ?_ | refine Vc ?_ | refine Vd ?_ | refine Ve ?_ | refine Vf ?_); (try simp only [go_sem, hP]); (repeat refine qJ ?_)))
    (refine WV_cond rfl (fun h => ?_) (fun h => ?_))
    · have hi : k < p.length := by simpa using h
      have g1 := ints_get hi
      have hsu := purK_succ b p (k := k) (by omega)
      have hat := bagAv_at b p (k := k) (j := k) (by omega)
      have hb1 : 0 ≤ (purK b p k).getD k 0 ∧ (purK b p k).getD k 0 ≤ 14 ∧ 0 ≤ p.getD k 0 ∧ p.getD k 0 ≤ 2 := pur_at hb hp (by omega)
      have hlen : (bagAv (purK b p k)).length = 4 := rfl
      generalize (purK b p k).getD k 0 = x at hsu hat hb1
      generalize p.getD k 0 = y at g1 hsu hb1
      generalize bagAv (purK b p k) = B at hsu hat hlen
      have w1 := w64 (n := (k : Int) + 1) (by omega) (by omega)
      have w2 := w64 (n := x + y) (by omega) (by omega)
      have hk4 : (k : Int) < 4 := by omega
      have hk5 : k < B.length := by omega
      (repeat ((first | refine Va ?_ | refine Vb ?_ | refine Vc ?_ | refine Vd ?_ | refine Ve ?_ | refine Vf ?_); (try simp only [go_sem, hP, g1, List.length_map, Int.toNat_natCast, Int.ofNat_lt, hi, Int.natCast_nonneg, w1, w2, hk4, hk5, Nat.mul_one, hat]); (repeat refine qJ ?_)))
      refine ⟨k + 1, by omega, by omega, ?_⟩
      rw [hsu]
      exact Sub_au
    · have hi : k = p.length := by simp at h; omega
      subst hi
      rw [purK_all]
      clear h hk
      have htk : List.take 4 (bagAv (pur b p).l) = bagAv (pur b p).l := rfl
      have hln : (bagAv (pur b p).l).length = 4 := rfl
      have hpg : ∀ n, AV.prgL n (bagAv (pur b p).l) = bagAv (pur b p).l := fun n => rfl
      (repeat ((first | refine Va ?_ | refine Vb ?_ | refine Vc ?_ | refine Vd ?_ | refine Ve ?_ | refine Vf ?_); (try simp only [go_sem, hP, htk, hln]); (repeat refine qJ ?_)))
      refine AS_new (walk62 hwb hA) rfl rfl rfl rfl ?_
      rintro _ _ ⟨bm, rfl, rfl⟩
      refine ⟨[33], _, _, by simp, rfl, rfl, rfl, rfl, ?_⟩
      simp only [go_sem, hP, ownBack, hpg]
      refine WV_keep [0, 6, 9] ?_
      simp only [go_sem]
      refine WV_holdE 36 (by decide) rfl ?_
      simp only [go_sem, hpg]
      (repeat ((first | refine Va ?_ | refine Vb ?_ | refine Vc ?_ | refine Vd ?_ | refine Ve ?_ | refine Vf ?_); (try simp only [go_sem, hP, htk, hln]); (repeat refine qJ ?_)))
      refine AS_lend [33, 36] (ends63 bm) rfl rfl rfl (by decide) rfl rfl ?_
      rintro r l' ⟨be, D, rfl, rfl, hD⟩
      refine ⟨_, _, rfl, rfl, ?_⟩
      have hin := walk_bk hb.wh hA
      have hdl := hD.ok.len (fun e he => by have := (hin.2.1 e he).1.bo; have h5 := hA.m; have h6 := (hin.2.1 e he).1; have h7 := h6.a; have h8 := h6.b; have h9 := h6.c; have h10 := h6.d; simp only [Pt.bag, Bag.many] at this; omega)
      have hlook := fun n => dlook_of (D := D) (n := n)
      have hok := hD.ok
      simp only [go_sem, hP, ownBack]
      (repeat ((first | refine Va ?_ | refine Vb ?_ | refine Vc ?_ | refine Vd ?_ | refine Ve ?_ | refine Vf ?_); (try simp only [go_sem, hP]); (repeat refine qJ ?_)))
      refine AS_new (keys65 be) rfl rfl rfl rfl ?_
      rintro _ _ ⟨rfl, rfl⟩
      refine ⟨[38], _, _, by simp, rfl, rfl, rfl, rfl, ?_⟩
      simp only [go_sem, hP, ownBack]
      refine AS_lend [38, 36] (sorted64 hdl.1 hdl.2 be) rfl rfl rfl (by decide) rfl rfl ?_
      rintro r l' ⟨rfl, rfl⟩
      refine ⟨_, _, rfl, rfl, ?_⟩
      have hsr : ∀ n ∈ srt (keysD D), (0 ≤ n ∧ n ≤ 2000) ∧ ∃ q, dlook D n = some q ∧ q ∈ sks (walkS b.wh (pur b p)) := fun n hn => by
        have hn2 := srt_mem.1 hn
        obtain ⟨q, hq⟩ := hlook n hn2
        have h3 := hok.src _ (dlook_some hq)
        refine ⟨?_, q, hq, h3.2.2⟩
        exact hdl.2 _ (dlook_some hq)
      have hhit := hit_iff hD
      have hlk : (srt (keysD D)).length ≤ 2001 := by unfold srt; rw [List.length_mergeSort]; simpa [keysD] using hdl.1
      generalize srt (keysD D) = Ls at hsr hhit hlk
      generalize hS : walkS b.wh (pur b p) = S at *
      simp only [go_sem, hP, ownBack, ints, List.length_map]
      (repeat ((first | refine Va ?_ | refine Vb ?_ | refine Vc ?_ | refine Vd ?_ | refine Ve ?_ | refine Vf ?_); (try simp only [go_sem, hP, ints, List.length_map]); (repeat refine qJ ?_)))
      refine WV_loopK K62_2 [6, 33, 36, 38] (fun k : Nat => k ≤ Ls.length ∧ ∀ n ∈ Ls.take k, within n b.pl (b.pl + b.sk) = false) (fun k => Ls.length - k) (fun k => [(41, iv k)]) (fun _ => [(33, gmap true true (gl S) bm), (36, gmap false true (gl2 D) be)]) 0 ⟨by omega, by simp⟩ ?_ ?_
      · exact Sub_au
      rintro k ⟨hk, hno⟩
      (repeat ((first | refine Va ?_ | refine Vb ?_ | refine Vc ?_ | refine Vd ?_ | refine Ve ?_ | refine Vf ?_); (try simp only [go_sem, hP]); (repeat refine qJ ?_)))
      (refine WV_cond rfl (fun h => ?_) (fun h => ?_))
      · have hi : k < Ls.length := by simpa using h
        have g1 := ints_get hi
        obtain ⟨n, hn⟩ : ∃ n, n = Ls.getD k 0 := ⟨_, rfl⟩
        rw [← hn] at g1
        have hnm : n ∈ Ls := by rw [hn, List.getD_eq_getElem?_getD, List.getElem?_eq_getElem hi]; exact List.getElem_mem _
        obtain ⟨hnb, q, hq, hqs⟩ := hsr n hnm
        have hpl := hb.pl
        have hsk := hb.sk
        have w1 := w64 (n := (k : Int) + 1) (by omega) (by omega)
        have w2 := w64 (n := b.pl + b.sk) (by omega) (by omega)
        have e6 : List.drop 6 b.cds = [.int .i64 b.pl, .int .i64 b.sk] := rfl
        have e7 : List.drop 7 b.cds = [.int .i64 b.sk] := rfl
        have e8 : b.cds.length = 8 := rfl
        (repeat ((first | refine Va ?_ | refine Vb ?_ | refine Vc ?_ | refine Vd ?_ | refine Ve ?_ | refine Vf ?_); (try simp only [go_sem, hP, g1, List.length_map, Int.toNat_natCast, Int.ofNat_lt, hi, Int.natCast_nonneg, e6, e7, e8, w2]); (repeat refine qJ ?_)))
        (refine AS_pu (within37 n b.pl (b.pl + b.sk)) ?_; simp only [go_sem, hP, w2]; (repeat refine qJ ?_); (repeat ((first | refine Va ?_ | refine Vb ?_ | refine Vc ?_ | refine Vd ?_ | refine Ve ?_ | refine Vf ?_); (try simp only [go_sem, hP, w2]); (repeat refine qJ ?_))))
        cases hwn : within n b.pl (b.pl + b.sk) with
        | false =>
          (refine WV_cond rfl (fun h => ?_) (fun h => ?_))
          · (repeat ((first | refine Va ?_ | refine Vb ?_ | refine Vc ?_ | refine Vd ?_ | refine Ve ?_ | refine Vf ?_); (try simp only [go_sem, hP, w1]); (repeat refine qJ ?_)))
            refine ⟨k + 1, ⟨by omega, fun m hm => ?_⟩, by omega, ?_⟩
            · rw [List.take_succ_eq_append_getElem hi, List.mem_append, List.mem_singleton] at hm
              rcases hm with hm | hm
              · exact hno m hm
              · have : n = Ls[k] := by rw [hn, List.getD_eq_getElem?_getD, List.getElem?_eq_getElem hi]; rfl
                rw [hm, ← this]; exact hwn
            · exact Sub_au
          · simp at h
        | true =>
          have hflag : hitB b (pur b p) = true := by rw [hhit, List.any_eq_true]; exact ⟨n, hnm, hwn⟩
          (refine WV_cond rfl (fun h => ?_) (fun h => ?_))
          · simp at h
          · refine WV_keep [9, 10, 12] ?_
            simp only [go_sem]
            (repeat ((first | refine Va ?_ | refine Vb ?_ | refine Vc ?_ | refine Vd ?_ | refine Ve ?_ | refine Vf ?_); (try simp only [go_sem, hP]); (repeat refine qJ ?_)))
            have hqp := hin.2.1 _ (look_mem hqs)
            refine raw_lookN (n := 36) (b := be) (ka := false) (va := true) (l := gl2 D) (key := [n]) (zs := [0, 0, 0, 0, 0, 0, 0]) (k := 3) (e := 148) (by kernel_rfl) intLaw (by kernel_rfl) rfl rfl rfl rfl rfl rfl rfl ⟨_, rfl⟩ (gl2_keys D) (gl2_inj D _) ?_
            rw [glook_gl2, hq, Option.map_some, Option.getD_some]
            simp only [go_sem, hP]
            refine raw_lookN (n := 33) (b := bm) (ka := true) (va := true) (l := gl S) (key := q.l) (zs := [0, 0, 0, 0, 0, 0, 0, 0]) (k := 148) (e := 150) (by kernel_rfl) ptLaw (by kernel_rfl) rfl rfl rfl rfl rfl rfl rfl (hqp.1.key hA hb.wh.ro.2) (gl_keys hA hb.wh.ro.2 fun e he => (hin.2.1 e he).1) (fun p _ h => kval_inj h) ?_
            obtain ⟨pre, e, post, hpre, hgl⟩ := look_any hqs
            rw [hgl, Option.getD_some]
            simp only [go_sem, hP, kav, if_true, Pt.l, List.map_cons, List.map_nil]
            (repeat ((first | refine Va ?_ | refine Vb ?_ | refine Vc ?_ | refine Vd ?_ | refine Ve ?_ | refine Vf ?_); (try simp only [go_sem, hP]); (repeat refine qJ ?_)))
            refine WV_loopK K62_3 [14, 80] (fun i : List Int × Nat × Nat × Seen × (Pt × Int × Pt) × Seen => S = i.2.2.2.1 ++ i.2.2.2.2.1 :: i.2.2.2.2.2 ∧ i.1.length + i.2.2.2.1.length ≤ S.length ∧ (i.1 ≠ [] → i.1.length ≤ i.2.1 ∧ i.2.1 ≤ maxLen ∧ i.2.1 ≤ i.1.length + i.2.2.1)) (fun i => i.2.2.2.1.length)
              (fun i => [(14, .bp 14 0), (13, accV i.1 i.2.1)]) (fun i => [(14, .box (stepAv i.2.2.2.2.1)), (80, accO i.1 i.2.2.1)]) ([], 0, 0, pre, e, post) ⟨hpre, by rw [hpre]; simp, by simp⟩ ?_ ?_
            · (refine Sub_of (by simp only [go_sem]; ((repeat' (first | exact EnvLe_e0 _ _ | refine EnvLe_upd ?_ ?_)) <;> ((try simp only [upd_app, e0_app, o0_app, Nat.reduceEqDiff, reduceIte]); first | exact AWk.refl _ _ | exact AWk.int (by omega) | exact AWk.int (by rw [w64 (by omega) (by omega)]; omega) | exact AWk.grow rfl | exact AWk.nil _ | exact AWk.of (by simp [accV, accO, stepAv])))) (by simp only [go_sem]; exact ObjLe_au))
            rintro ⟨acts, cap, j, pre1, ⟨e1, act, x⟩, post1⟩ ⟨hs1, hlen, hcap⟩
            simp only at hs1 hlen hcap
            simp only [stepAv]
            (repeat ((first | refine Va ?_ | refine Vb ?_ | refine Vc ?_ | refine Vd ?_ | refine Ve ?_ | refine Vf ?_); (try simp only [go_sem, hP]); (repeat refine qJ ?_)))
            (refine WV_cond rfl (fun h => ?_) (fun h => ?_))
            · have hne : act ≠ -2 := by simpa using h
              have hx : x ∈ sks pre1 := by
                rcases hin.1 pre1 _ post1 hs1 with h5 | h5
                · exact absurd h5 hne
                · exact h5
              have hln1 : acts.length + 1 ≤ 238291875000 := by have := hin.2.2; have h6 : 0 < pre1.length := by cases pre1 with | nil => cases hx | cons a l => simp
                                                               omega
              (refine WV_skip ?_; simp only [go_sem])
              refine WV_seq_ (WV_then (R := fun σ' => ∃ cap' j', (acts.length + 1 ≤ cap' ∧ cap' ≤ maxLen ∧ cap' ≤ acts.length + 1 + j') ∧ Sub σ' ⟨upd (upd (upd e0 9 (.c (.raw (.map (some bm))))) 14 (.bp 14 0)) 13 (.vw 1 80 0 (acts.length + 1) cap'), upd (upd (upd (upd o0 33 (gmap true true (gl S) bm)) 36 (gmap false true (gl2 D) be)) 14 (.box (stepAv (e1, act, x)))) 80 (.box (cI (acts ++ [act]) j'))⟩) ?_ (WV_block ?_))
              · rintro σ' ⟨cap', j', hcp, hsub⟩
                refine WV_sub hsub ?_
                simp only [stepAv]
                refine WV_seq_ (WV_seq_ ?_)
                (refine WV_op ?_; simp only [go_sem, hP]; (repeat refine qJ ?_))
                refine WV_drop 14 ?_
                (repeat ((first | refine Va ?_ | refine Vb ?_ | refine Vc ?_ | refine Vd ?_ | refine Ve ?_ | refine Vf ?_); (try simp only [go_sem, hP]); (repeat refine qJ ?_)))
                obtain ⟨pre2, e2, post2, hs2, hlt2, hgl2⟩ := look_pre hs1 hx
                have hxp := hin.2.1 _ (look_mem (by rw [hs1]; simp only [sks, List.map_append, List.mem_append]; exact .inl hx))
                refine raw_lookN (n := 33) (b := bm) (ka := true) (va := true) (l := gl S) (key := x.l) (zs := [0, 0, 0, 0, 0, 0, 0, 0]) (k := 148) (e := 150) (by kernel_rfl) ptLaw (by kernel_rfl) rfl rfl rfl rfl rfl rfl rfl (hxp.1.key hA hb.wh.ro.2) (gl_keys hA hb.wh.ro.2 fun e he => (hin.2.1 e he).1) (fun p _ h => kval_inj h) ?_
                rw [hgl2, Option.getD_some]
                simp only [go_sem, hP, kav, if_true, Pt.l, List.map_cons, List.map_nil]
                (repeat ((first | refine Va ?_ | refine Vb ?_ | refine Vc ?_ | refine Vd ?_ | refine Ve ?_ | refine Vf ?_); (try simp only [go_sem, hP]); (repeat refine qJ ?_)))
                have hne2 : acts ++ [act] ≠ [] := by simp
                refine ⟨(acts ++ [act], cap', j', pre2, e2, post2), ⟨hs2, by simp only [List.length_append, List.length_cons, List.length_nil]; omega, fun _ => by simpa using hcp⟩, hlt2, ?_⟩
                simp only [accV, accO, if_neg hne2, stepAv, List.length_append, List.length_cons, List.length_nil, Nat.zero_add]
                rw [cI_prg]
                exact Sub_au
              · by_cases hnil : acts = []
                · subst hnil
                  simp only [accV, accO, if_true, List.nil_append, List.length_nil, Nat.zero_add]
                  (refine WV_split 4 ?_; simp only [List.take_succ_cons, List.take_zero, List.take_nil, List.drop_succ_cons, List.drop_zero, List.drop_nil]; simp only [go_sem, hP]; (repeat refine qJ ?_))
                  (refine SOps_ops ?_; simp only [go_sem, hP]; (repeat refine qJ ?_))
                  refine ⟨by decide, fun cap' j' q1 q2 q3 => ⟨cap', j', ⟨q1, q2, by omega⟩, ?_⟩⟩
                  rw [show AV.prgL 80 (List.map AV.c [[CD.int .i64 act]].flatten ++ List.replicate j' .non) = cI [act] j' from cI_prg 80 [act] j']
                  (refine Sub_of (by simp only [go_sem]; ((repeat' (first | exact EnvLe_e0 _ _ | refine EnvLe_upd ?_ ?_)) <;> ((try simp only [upd_app, e0_app, o0_app, Nat.reduceEqDiff, reduceIte]); first | exact AWk.refl _ _ | exact AWk.int (by omega) | exact AWk.int (by rw [w64 (by omega) (by omega)]; omega) | exact AWk.grow rfl | exact AWk.nil _ | exact AWk.of (by simp [stepAv])))) (by simp only [go_sem]; exact ObjLe_au))
                · simp only [accV, accO, if_neg hnil]
                  have hl1 := cI_len acts j
                  have htk1 : (cI acts j).take (acts.length * 1) = acts.map fun n => .c (.int .i64 n) := by unfold cI; rw [Nat.mul_one, List.take_left' (by simp)]
                  have hpg2 := fun d => cI_prg d acts j
                  obtain ⟨c1, c2, c3⟩ := hcap hnil
                  (refine WV_split 4 ?_; simp only [List.take_succ_cons, List.take_zero, List.take_nil, List.drop_succ_cons, List.drop_zero, List.drop_nil]; simp only [go_sem, hP]; (repeat refine qJ ?_))
                  (refine SOps_ops ?_; simp only [go_sem, hP, hl1, htk1, hpg2]; (repeat refine qJ ?_))
                  have hmax : maxLen = 9223372036854775807 := rfl
                  refine ⟨by omega, by omega, fun cap' j' q1 q2 q3 => ⟨cap', j', ⟨q1, q2, by omega⟩, ?_⟩⟩
                  have hcI : (acts.map fun n => AV.c (.int .i64 n)) ++ List.map AV.c [[CD.int .i64 act]].flatten ++ List.replicate j' .non = cI (acts ++ [act]) j' := by simp [cI]
                  rw [hcI, cI_prg]
                  (refine Sub_of (by simp only [go_sem]; ((repeat' (first | exact EnvLe_e0 _ _ | refine EnvLe_upd ?_ ?_)) <;> ((try simp only [upd_app, e0_app, o0_app, Nat.reduceEqDiff, reduceIte]); first | exact AWk.refl _ _ | exact AWk.int (by omega) | exact AWk.int (by rw [w64 (by omega) (by omega)]; omega) | exact AWk.grow rfl | exact AWk.nil _ | exact AWk.of (by simp [stepAv])))) (by simp only [go_sem]; exact ObjLe_au))
            · rw [hflag]
              by_cases hnil : acts = []
              · simp only [accV, accO, if_pos hnil]
                (repeat ((first | refine Va ?_ | refine Vb ?_ | refine Vc ?_ | refine Vd ?_ | refine Ve ?_ | refine Vf ?_); (try simp only [go_sem, hP]); (repeat refine qJ ?_)))
                (refine AS_pu (nil66) ?_; simp only [go_sem, hP]; (repeat refine qJ ?_); (repeat ((first | refine Va ?_ | refine Vb ?_ | refine Vc ?_ | refine Vd ?_ | refine Ve ?_ | refine Vf ?_); (try simp only [go_sem, hP]); (repeat refine qJ ?_))))
                (refine WV_ret ?_; simp only [thenQ, inQ, RetQN, RetOkN, resAll, resA]; simp only [go_sem, tupA])
                refine ⟨[], _, .tup [.c (ints []), .c (.bool true)], [], by simp, by simp, rfl, AVle.tup ?_, rfl, rfl, [], rfl⟩
                exact ⟨_, _, rfl, AVle.nil 1, _, _, rfl, AVle.refl _, rfl⟩
              · simp only [accV, accO, if_neg hnil]
                have hle := fun L own => cI_lend L own acts j
                have hba := fun L => cI_back L acts.reverse j
                (repeat ((first | refine Va ?_ | refine Vb ?_ | refine Vc ?_ | refine Vd ?_ | refine Ve ?_ | refine Vf ?_); (try simp only [go_sem, hP]); (repeat refine qJ ?_)))
                refine AS_lend [80] (reverse66 acts j cap) rfl rfl rfl (by decide) rfl (by simp only [go_sem, obsLend, Ob.lend, hle]) ?_
                rintro r l' ⟨rfl, rfl⟩
                refine ⟨_, _, rfl, (by simp only [obsBack, Ob.back, hba]; rfl), ?_⟩
                simp only [go_sem, hP, ownBack]
                refine WV_freezeJ 80 (ds := acts.reverse.map (CD.int .i64)) (junk := List.replicate j .non) (show Ob.box (cI acts.reverse j) = _ by rw [cI_c]) ?_
                simp only [go_sem, hP]
                rw [grpI acts.length acts.reverse (List.length_reverse ..)]
                (repeat ((first | refine Va ?_ | refine Vb ?_ | refine Vc ?_ | refine Vd ?_ | refine Ve ?_ | refine Vf ?_); (try simp only [go_sem, hP]); (repeat refine qJ ?_)))
                (refine WV_ret ?_; simp only [thenQ, inQ, RetQN, RetOkN, resAll, resA]; simp only [go_sem, tupA])
                refine ⟨[], _, _, [], by simp, by simp, rfl, AVle.refl _, rfl, rfl, acts.reverse, rfl⟩
      · have hi : k = Ls.length := by simp at h; omega
        subst hi
        have hflag : hitB b (pur b p) = false := by
          rw [hhit, List.any_eq_false]
          intro n hn
          rw [hno n (by rw [List.take_length]; exact hn)]; simp
        rw [hflag]
        (repeat ((first | refine Va ?_ | refine Vb ?_ | refine Vc ?_ | refine Vd ?_ | refine Ve ?_ | refine Vf ?_); (try simp only [go_sem, hP]); (repeat refine qJ ?_)))
        (refine WV_ret ?_; simp only [thenQ, inQ, RetQN, RetOkN, resAll, resA]; simp only [go_sem, tupA])
        refine ⟨[], _, .tup [.c (ints []), .c (.bool false)], [], by simp, by simp, rfl, AVle.tup ?_, rfl, rfl, [], rfl⟩
        exact ⟨_, _, rfl, AVle.nil 1, _, _, rfl, AVle.refl _, rfl⟩
end Go.Proofs.YtbclmfjibpppfaaGreat

namespace Go.Proofs.YtbclmfjibpppfaaGreat
open Go Go.V
abbrev o61_0:List Ins:=[JS 6 (Jl 1),JS 7 (Jn 6),JS 8 (Jk .gtr 7 0),JS 9 (Jm 8),JH 10 (Jl 2) 9 true,JH 11 (Jm 0) 9 true,JH 12 (Jc 28 [.t 10,.t 11]) 9 true,JH 13 (Jl 2) 9 true,JH 14 (Jl 1) 9 true,JH 15 (.ia 2 (.t 14) (.k (Jz 0))) 9 true,JH 16 (Jf 0 15) 9 true,JH 17 (Jl 16) 9 true,JG 18 (Jc 28 [.t 13,.t 17]) 9 true,JG 19 (Jb .gtr 12 18) 9 true,JS 20 (Jp 9 19)]
abbrev v61_1:VC:=(.cond (.t 20) .ret .skip)
abbrev o61_2:List Ins:=[JS 22 (Jl 2),JS 23 (Jm 0),JS 24 (Jc 62 [.t 22,.t 23]),JS 21 (Jm 24),JS 25 (Je 21 0),JS 26 (Je 21 1),JS 4 (Jm 25),JS 5 (Jm 26)]
abbrev o61_3:List Ins:=[JS 27 (Jm 5),JS 28 (.un .not (.t 27))]
abbrev v61_4:VC:=(.cond (.t 28) .ret .skip)
abbrev o61_5:List Ins:=[JS 29 (Jl 1),JS 30 (Jn 29),JS 31 (Jk .gtr 30 0),JS 32 (Jm 31),JH 33 (Jl 2) 32 true,JH 34 (Jm 0) 32 true,JH 35 (Jc 28 [.t 33,.t 34]) 32 true,JH 36 (Jl 2) 32 true,JH 37 (Jl 1) 32 true,JH 38 (.ia 2 (.t 37) (.k (Jz 0))) 32 true,JH 39 (Jf 0 38) 32 true,JH 40 (Jl 39) 32 true,JG 41 (Jc 28 [.t 36,.t 40]) 32 true,JG 42 (Jb .lss 35 41) 32 true,JS 43 (Jp 32 42)]
abbrev o61_6:List Ins:=[JN (.st 1 (.t 1) (.k J0))]
abbrev v61_7:VC:=(.cond (.t 43) (.ops o61_6) .skip)
abbrev o61_8:List Ins:=[JS 44 (Jl 1),JS 45 (Jm 0),JS 46 (Jm 4),JS 47 (.bld [J0,J0] [(0,1,(.t 45)),(1,1,(.t 46))]),JS 48 (.bsl 67 2 [.t 47]),JS 49 (.app 67 2 48 (.t 44) (.t 48)),JN (Js 1 1 49)]
abbrev v61_9:VC:=(.seq (.seq (.dops o61_5) v61_7) (.ops o61_8))
abbrev v61_10:VC:=(.seq (.seq (.ops o61_3) v61_4) v61_9)
abbrev v61_11:VC:=(.seq (.ops o61_2) v61_10)
def ir61:FC:=⟨3,50,[],(.seq (.seq (.dops o61_0) v61_1) v61_11)⟩
theorem c61:compM Tryz.prog [] 61 = some ir61:=by kernel_rfl
attribute [local go_sem] Nat.reduceEqDiff Nat.reduceAdd Nat.reduceMul reduceIte Nat.reduceLeDiff Nat.reduceLT Nat.reduceBEq reduceCtorEq
abbrev Gaps:=List (List Int × List Int)
def gapC (g:List Int × List Int):List CD:=[ints g.1,ints g.2]
def gapsC (G:Gaps):List (List CD):=G.map gapC
theorem gapsC_len (G:Gaps):(gapsC G).length = G.length:=List.length_map _
theorem gapsC_two (G:Gaps):((gapsC G).all fun e => e.length == 2) = true:=by
 rw [List.all_eq_true]; intro e he; obtain ⟨n,_,rfl⟩:=List.mem_map.1 he; rfl
theorem gapsC_snoc (G:Gaps) (g:List Int × List Int):gapsC (G ++ [g]) = gapsC G ++ [[ints g.1,ints g.2]]:=by simp [gapsC,gapC]
def fndS (b:Bx) (F:List (List Int)) (p:List Int):List (List Int) :=
 if decide (0 < F.length) && decide (worth b.wh (F.getD 0 []) < worth b.wh p) then F
 else if hitB b (pur b p) then (if decide (0 < F.length) && decide (worth b.wh p < worth b.wh (F.getD 0 [])) then [p] else F ++ [p]) else F
def gpur (G:Gaps):List (List Int):=G.map (·.1)
theorem gpur_snoc (G:Gaps) (g:List Int × List Int):gpur (G ++ [g]) = gpur G ++ [g.1]:=by simp [gpur]
theorem pur14 {b:Bx} {p:List Int} (hp:PurOk b p):∀ n ∈ p,0 ≤ n ∧ n ≤ 14:=fun n hn => by
 have h1:=hp.nn n hn
 have h2:n ≤ p.sum:=by
  have key:∀ l:List Int,(∀ x ∈ l,0 ≤ x) → ∀ n ∈ l,n ≤ l.sum ∧ 0 ≤ l.sum:=by
   intro l
   induction l with
   | nil => intro _ n hn; cases hn
   | cons a l ih =>
    intro h n hn
    have h0:0 ≤ l.sum:=by
     cases l with
     | nil => simp
     | cons c l => exact (ih (fun x hx => h x (by simp [hx])) c (by simp)).2
    have ha:=h a (by simp)
    simp only [List.sum_cons]
    rcases List.mem_cons.1 hn with rfl | hn
    ·omega
    ·have:=(ih (fun x hx => h x (by simp [hx])) n hn).1; omega
  exact (key p hp.nn n hn).1
 have:=hp.sum
 omega
structure GapsOk (b:Bx) (G:Gaps):Prop where
 ok:∀ g ∈ G,PurOk b g.1
 len:G.length ≤ 100000
theorem drop_sub {env:Nat → AV} {own:Nat → Ob} (n:Nat):Sub ⟨env,own⟩ ⟨env,upd own n .none⟩:=Sub_of (fun s => AWk.refl _ _) (fun m => by
 show upd own n .none m = own m ∨ upd own n .none m = .none
 rw [upd_app]
 split
 ·exact .inr rfl
 ·exact .inl rfl)
set_option maxHeartbeats 8000000 in
set_option maxRecDepth 20000 in
theorem found58 {b:Bx} (hwb:whB b.wh = true) (hb:BxOk b) {p:List Int} (hp:PurOk b p) {G:Gaps} (hG:GapsOk b G):FSpecL Tryz.prog 61 [.c (ints p),.bp 1000 0,.bp 1001 0] [.box [.gr 1002],.box [.c (.pt b.cds)],.grow 67 2 (gapsC G)] []
  (fun r l' => r = .tup [] ∧ ∃ G',gpur G' = fndS b (gpur G) p ∧ l' = [.box [.gr 1002],.box [.c (.pt b.cds)],.grow 67 2 (gapsC G')]):=by
 have hmax:maxLen = 9223372036854775807:=rfl
 have hGl:=hG.len
 have hwp:=worth25 hb.wh hp.len (pur14 hp)
 have hex:=explain59 hwb hb hp
 obtain ⟨Post,hPost⟩ : ∃ Post:AV → List Ob → Prop,Post = fun r l' => r = .tup [] ∧ ∃ G',gpur G' = fndS b (gpur G) p ∧ l' = [.box [.gr 1002],.box [.c (.pt b.cds)],.grow 67 2 (gapsC G')]:=⟨_,rfl⟩
 rw [← hPost]
 have hfn:∀ G',gpur G' = fndS b (gpur G) p → Post (.tup []) [.box [.gr 1002],.box [.c (.pt b.cds)],.grow 67 2 (gapsC G')]:=fun G' h => by rw [hPost]; exact ⟨rfl,G',h,rfl⟩
 clear hPost
 refine FSpecL_ofX c61 (by first | simp | exact Nat.le_of_ble_eq_true rfl) (Nat.le_refl _) (by decide) (by decide) fun C hP hN hC hpin hL => ?_; rw [init_env',ownW_upd (by first | simp | exact Nat.le_of_ble_eq_true rfl)]; simp only [ir61,updL,updLo,List.map_nil,List.map_cons,Nat.reduceAdd,]
 -- one gap more
 have app:∀ acts,gpur (G ++ [(p,acts)]) = fndS b (gpur G) p → WV C (.ops o61_8) (RetQL [] [.box [.gr 1002],.box [.c (.pt b.cds)],.grow 67 2 (gapsC G)] [] Post) ⟨upd (upd (upd e0 4 (.c (ints acts))) 1 (.bp 1000 0)) 0 (.c (ints p)),upd (upd (upd o0 1000 (.box [.gr 1002])) 1001 (.box [.c (.pt b.cds)])) 1002 (.grow 67 2 (gapsC G))⟩:=fun acts hg => by
  have n1:=gapsC_len G
  have n2:=gapsC_two G
  have n3:=gapsC_snoc G (p,acts)
  have hpa:=hfn _ hg
  refine WV_post ?_
  (repeat ((first | refine Va ?_ | refine Vb ?_ | refine Vc ?_ | refine Vd ?_ | refine Ve ?_ | refine Vf ?_); (try simp only [go_sem,hP,n1,n2]); (repeat refine qJ ?_)))
  refine ⟨_,fun a w hg => Gam_move (d:=49) (n:=1002) (by decide) (fun hq => by have h2:false = true:=hpin 1002 hq; cases h2) rfl hg,?_⟩
  unfold rnO
  simp only [go_sem,rnP_upd,rnE_upd,rnE_e0,rnP_o0,AV.rn,AV.rnL,Ob.rn]
  rw [← n3]
  ((try simp only [thenQ,inQ,RetQL,RetOkL,resAll,resA]); (try simp only [go_sem,tupA,AV.keepP,AV.keepPL]); refine ⟨_,[.box [.gr 1002],.box [.c (.pt b.cds)],.grow 67 2 (gapsC (G ++ [(p,acts)]))],rfl,KeepL_mk rfl rfl ?_ ?_ rfl,?_⟩)
  ·simp only [go_sem,keepAll,Ob.keepP,AV.keepP,AV.keepPL]
  ·trivial
  ·exact hpa
 have one:∀ acts,gpur [(p,acts)] = fndS b (gpur G) p → WV C (.ops o61_8) (RetQL [] [.box [.gr 1002],.box [.c (.pt b.cds)],.grow 67 2 (gapsC G)] [] Post) ⟨upd (upd (upd e0 4 (.c (ints acts))) 1 (.bp 1000 0)) 0 (.c (ints p)),upd (upd (upd o0 1000 (.box [.c (.raw (.slice none 0 0))])) 1001 (.box [.c (.pt b.cds)])) 1002 (.grow 67 2 (gapsC G))⟩:=fun acts hg => by
  have hpa:=hfn _ hg
  refine WV_post ?_
  (repeat ((first | refine Va ?_ | refine Vb ?_ | refine Vc ?_ | refine Vd ?_ | refine Ve ?_ | refine Vf ?_); (try simp only [go_sem,hP]); (repeat refine qJ ?_)))
  refine ⟨_,fun a w hg => Gam_move (d:=49) (n:=1002) (by decide) (fun hq => by have h2:false = true:=hpin 1002 hq; cases h2) rfl (drop_sub 1002 C a w hg),?_⟩
  unfold rnO
  simp only [go_sem,rnP_upd,rnE_upd,rnE_e0,rnP_o0,AV.rn,AV.rnL,Ob.rn]
  ((try simp only [thenQ,inQ,RetQL,RetOkL,resAll,resA]); (try simp only [go_sem,tupA,AV.keepP,AV.keepPL]); refine ⟨_,[.box [.gr 1002],.box [.c (.pt b.cds)],.grow 67 2 (gapsC [(p,acts)])],rfl,KeepL_mk rfl rfl ?_ ?_ rfl,?_⟩)
  ·simp only [go_sem,keepAll,Ob.keepP,AV.keepP,AV.keepPL,gapsC,gapC,List.map_cons,List.map_nil]
  ·trivial
  ·exact hpa
 cases G with
 | nil =>
  have e0:gapsC [] = []:=rfl
  have d0:decide ((0:Int) < ((0:Nat):Int)) = false:=rfl
  have hfn1:∀ a,hitB b (pur b p) = true → gpur ([] ++ [(p,a)]) = fndS b (gpur []) p:=fun a h => by simp [gpur,fndS,h]
  have hfn0:hitB b (pur b p) = false → gpur [] = fndS b (gpur []) p:=fun h => by simp [gpur,fndS,h]
  rw [e0] at app ⊢
  (repeat ((first | refine Va ?_ | refine Vb ?_ | refine Vc ?_ | refine Vd ?_ | refine Ve ?_ | refine Vf ?_); (try simp only [go_sem,hP,d0]); (repeat refine qJ ?_)))
  refine ACallG_skip (iv 0) rfl ?_
  simp only [go_sem,hP,d0]
  (repeat ((first | refine Va ?_ | refine Vb ?_ | refine Vc ?_ | refine Vd ?_ | refine Ve ?_ | refine Vf ?_); (try simp only [go_sem,hP,d0]); (repeat refine qJ ?_)))
  (refine AG_skip ?_; simp only [go_sem,hP,d0]; (repeat refine qJ ?_); (repeat ((first | refine Va ?_ | refine Vb ?_ | refine Vc ?_ | refine Vd ?_ | refine Ve ?_ | refine Vf ?_); (try simp only [go_sem,hP,d0]); (repeat refine qJ ?_))))
  refine WV_keep [0,1,2,20] ?_
  simp only [go_sem]
  (refine WV_cond rfl (fun h => ?_) (fun h => ?_))
  ·simp at h
  (repeat ((first | refine Va ?_ | refine Vb ?_ | refine Vc ?_ | refine Vd ?_ | refine Ve ?_ | refine Vf ?_); (try simp only [go_sem,hP,d0]); (repeat refine qJ ?_)))
  refine AS_new hex rfl rfl rfl rfl ?_
  rintro _ _ ⟨rfl,acts,rfl⟩
  refine ⟨[],_,_,by simp,rfl,rfl,rfl,rfl,?_⟩
  simp only [go_sem,hP,ownBack]
  have hap:=app acts
  generalize hitB b (pur b p) = hit at hfn1 hfn0
  cases hit with
  | false =>
   have h0:=hfn [] (hfn0 rfl)
   (repeat ((first | refine Va ?_ | refine Vb ?_ | refine Vc ?_ | refine Vd ?_ | refine Ve ?_ | refine Vf ?_); (try simp only [go_sem,hP,d0]); (repeat refine qJ ?_)))
   (refine WV_cond rfl (fun h => ?_) (fun h => ?_))
   ·(refine WV_ret ?_; simp only [thenQ,inQ,RetQL,RetOkL,resAll,resA]; simp only [go_sem,tupA,AV.keepP,AV.keepPL]; refine ⟨_,[.box [.gr 1002],.box [.c (.pt b.cds)],.grow 67 2 []],rfl,KeepL_mk rfl rfl ?_ ?_ rfl,?_⟩)
    ·simp only [go_sem,keepAll,Ob.keepP,AV.keepP,AV.keepPL]
    ·trivial
    ·exact h0
   ·simp at h
  | true =>
   have h0:=app acts (hfn1 acts rfl)
   (repeat ((first | refine Va ?_ | refine Vb ?_ | refine Vc ?_ | refine Vd ?_ | refine Ve ?_ | refine Vf ?_); (try simp only [go_sem,hP,d0]); (repeat refine qJ ?_)))
   (refine WV_cond rfl (fun h => ?_) (fun h => ?_))
   ·simp at h
   (repeat ((first | refine Va ?_ | refine Vb ?_ | refine Vc ?_ | refine Vd ?_ | refine Ve ?_ | refine Vf ?_); (try simp only [go_sem,hP,d0]); (repeat refine qJ ?_)))
   refine ACallG_skip (iv 0) rfl ?_
   simp only [go_sem,hP,d0]
   (repeat ((first | refine Va ?_ | refine Vb ?_ | refine Vc ?_ | refine Vd ?_ | refine Ve ?_ | refine Vf ?_); (try simp only [go_sem,hP,d0]); (repeat refine qJ ?_)))
   (refine AG_skip ?_; simp only [go_sem,hP,d0]; (repeat refine qJ ?_); (repeat ((first | refine Va ?_ | refine Vb ?_ | refine Vc ?_ | refine Vd ?_ | refine Ve ?_ | refine Vf ?_); (try simp only [go_sem,hP,d0]); (repeat refine qJ ?_))))
   (refine WV_cond rfl (fun h => ?_) (fun h => ?_))
   ·simp at h
   ·refine WV_skip ?_
    simp only [go_sem,d0]
    exact WV_keep [0,1,4] h0
 | cons g0 G0 =>
  obtain ⟨p0,a0,hp0,hg0,hgp,hl0⟩ : ∃ p0 a0,PurOk b p0 ∧ (gapsC (g0 :: G0)).getD 0 [] = [ints p0,ints a0] ∧ (gpur (g0 :: G0)).getD 0 [] = p0 ∧ 0 < (gpur (g0 :: G0)).length:=⟨g0.1,g0.2,hG.ok _ (by simp),rfl,rfl,by simp [gpur]⟩
  have d1:decide ((0:Int) < (((g0 :: G0).length:Nat):Int)) = true:=by simp
  generalize g0 :: G0 = G at *
  have n1:=gapsC_len G
  have n2:=gapsC_two G
  have hnp:0 < G.length:=by simpa [gpur] using hl0
  have hf:fndS b (gpur G) p = if decide (worth b.wh p0 < worth b.wh p) then gpur G else if hitB b (pur b p) then (if decide (worth b.wh p < worth b.wh p0) then [p] else gpur G ++ [p]) else gpur G:=by
   unfold fndS
   rw [hgp,decide_eq_true hl0,Bool.true_and,Bool.true_and]
  have hw0:=worth25 hb.wh hp0.len (pur14 hp0)
  rw [hf] at hfn app one
  (repeat ((first | refine Va ?_ | refine Vb ?_ | refine Vc ?_ | refine Vd ?_ | refine Ve ?_ | refine Vf ?_); (try simp only [go_sem,hP,n1,d1]); (repeat refine qJ ?_)))
  (refine ACallG_of (fun hG => hwp) rfl (fun hG => by simp only [go_sem,hG]) rfl rfl rfl ?_; simp only [go_sem,hP,n1,n2,d1,hg0,Int.toNat_zero,hnp]; (repeat refine qJ ?_); (repeat ((first | refine Va ?_ | refine Vb ?_ | refine Vc ?_ | refine Vd ?_ | refine Ve ?_ | refine Vf ?_); (try simp only [go_sem,hP,n1,n2,d1,hg0,Int.toNat_zero,hnp]); (repeat refine qJ ?_))))
  (refine AG_pu (fun hG => hw0) ?_; simp only [go_sem,hP,n1,n2,d1]; (repeat refine qJ ?_); (repeat ((first | refine Va ?_ | refine Vb ?_ | refine Vc ?_ | refine Vd ?_ | refine Ve ?_ | refine Vf ?_); (try simp only [go_sem,hP,n1,n2,d1]); (repeat refine qJ ?_))))
  refine WV_keep [0,1,2,20] ?_
  simp only [go_sem]
  by_cases hgt:worth b.wh p0 < worth b.wh p
  ·have h0:=hfn G (by rw [decide_eq_true hgt,if_pos rfl])
   (refine WV_cond rfl (fun h => ?_) (fun h => ?_))
   ·(refine WV_ret ?_; simp only [thenQ,inQ,RetQL,RetOkL,resAll,resA]; simp only [go_sem,tupA,AV.keepP,AV.keepPL]; refine ⟨_,[.box [.gr 1002],.box [.c (.pt b.cds)],.grow 67 2 (gapsC G)],rfl,KeepL_mk rfl rfl ?_ ?_ rfl,?_⟩)
    ·simp only [go_sem,keepAll,Ob.keepP,AV.keepP,AV.keepPL]
    ·trivial
    ·exact h0
   ·simp [hgt] at h
  rw [decide_eq_false hgt,if_neg (by decide)] at hfn app one
  (refine WV_cond rfl (fun h => ?_) (fun h => ?_))
  ·simp [hgt] at h
  (repeat ((first | refine Va ?_ | refine Vb ?_ | refine Vc ?_ | refine Vd ?_ | refine Ve ?_ | refine Vf ?_); (try simp only [go_sem,hP,n1,d1]); (repeat refine qJ ?_)))
  refine AS_new hex rfl rfl rfl rfl ?_
  rintro _ _ ⟨rfl,acts,rfl⟩
  refine ⟨[],_,_,by simp,rfl,rfl,rfl,rfl,?_⟩
  simp only [go_sem,hP,ownBack]
  have hap:=app acts
  have hon:=one acts
  generalize hitB b (pur b p) = hit at hfn hap hon
  cases hit with
  | false =>
   have h0:=hfn G rfl
   (repeat ((first | refine Va ?_ | refine Vb ?_ | refine Vc ?_ | refine Vd ?_ | refine Ve ?_ | refine Vf ?_); (try simp only [go_sem,hP,n1,d1]); (repeat refine qJ ?_)))
   (refine WV_cond rfl (fun h => ?_) (fun h => ?_))
   ·(refine WV_ret ?_; simp only [thenQ,inQ,RetQL,RetOkL,resAll,resA]; simp only [go_sem,tupA,AV.keepP,AV.keepPL]; refine ⟨_,[.box [.gr 1002],.box [.c (.pt b.cds)],.grow 67 2 (gapsC G)],rfl,KeepL_mk rfl rfl ?_ ?_ rfl,?_⟩)
    ·simp only [go_sem,keepAll,Ob.keepP,AV.keepP,AV.keepPL]
    ·trivial
    ·exact h0
   ·simp at h
  | true =>
   rw [if_pos rfl] at hap hon
   (repeat ((first | refine Va ?_ | refine Vb ?_ | refine Vc ?_ | refine Vd ?_ | refine Ve ?_ | refine Vf ?_); (try simp only [go_sem,hP,n1,d1]); (repeat refine qJ ?_)))
   (refine WV_cond rfl (fun h => ?_) (fun h => ?_))
   ·simp at h
   (repeat ((first | refine Va ?_ | refine Vb ?_ | refine Vc ?_ | refine Vd ?_ | refine Ve ?_ | refine Vf ?_); (try simp only [go_sem,hP,n1,d1]); (repeat refine qJ ?_)))
   (refine ACallG_of (fun hG => hwp) rfl (fun hG => by simp only [go_sem,hG]) rfl rfl rfl ?_; simp only [go_sem,hP,n1,n2,d1,hg0,Int.toNat_zero,hnp]; (repeat refine qJ ?_); (repeat ((first | refine Va ?_ | refine Vb ?_ | refine Vc ?_ | refine Vd ?_ | refine Ve ?_ | refine Vf ?_); (try simp only [go_sem,hP,n1,n2,d1,hg0,Int.toNat_zero,hnp]); (repeat refine qJ ?_))))
   (refine AG_pu (fun hG => hw0) ?_; simp only [go_sem,hP,n1,n2,d1]; (repeat refine qJ ?_); (repeat ((first | refine Va ?_ | refine Vb ?_ | refine Vc ?_ | refine Vd ?_ | refine Ve ?_ | refine Vf ?_); (try simp only [go_sem,hP,n1,n2,d1]); (repeat refine qJ ?_))))
   by_cases hlt:worth b.wh p < worth b.wh p0
   ·rw [decide_eq_true hlt,if_pos rfl] at hon
    (refine WV_cond rfl (fun h => ?_) (fun h => ?_))
    ·(refine WV_op ?_; simp only [go_sem,hP]; (repeat refine qJ ?_))
     refine WV_sub ?_ (hon rfl)
     exact Sub_au
    ·simp [hlt] at h
   ·rw [decide_eq_false hlt,if_neg (by decide)] at hap
    (refine WV_cond rfl (fun h => ?_) (fun h => ?_))
    ·simp [hlt] at h
    ·refine WV_skip ?_
     simp only [go_sem,n1]
     exact WV_keep [0,1,4] (hap (gpur_snoc G (p,acts)))
end Go.Proofs.YtbclmfjibpppfaaGreat

/-
 Vans and rides: plain.
-/
namespace Go.Proofs.YtbclmfjibpppfaaGreat
open Go Go.V
end Go.Proofs.YtbclmfjibpppfaaGreat

namespace Go.Proofs.YtbclmfjibpppfaaGreat
open Go Go.V
abbrev o71_0:List Ins:=[JS 2 (.mv (.k J0))]
abbrev o71_1:List Ins:=[JS 3 (Jm 0),JS 4 (.nils false (.t 3))]
abbrev o71_2:List Ins:=[JS 2 (.mv (.k J0))]
abbrev v71_3:VC:=(.seq (.ops o71_2) .ret)
abbrev v71_4:VC:=(.cond (.t 4) v71_3 .skip)
abbrev o71_5:List Ins:=[JS 5 (.bsl 3 1 []),JS 6 (Jm 0),JS 7 (.app 3 1 8 (.t 5) (.t 6)),JS 2 (Jm 7)]
abbrev v71_6:VC:=(.seq (.ops o71_5) .ret)
abbrev v71_7:VC:=(.seq (.seq (.ops o71_1) v71_4) v71_6)
def ir71:FC:=⟨1,8,[.t 2],(.seq (.ops o71_0) v71_7)⟩
theorem c71:compM Tryz.prog [] 71 = some ir71:=by kernel_rfl
attribute [local go_sem] Nat.reduceEqDiff Nat.reduceAdd Nat.reduceMul reduceIte Nat.reduceLeDiff Nat.reduceLT Nat.reduceBEq reduceCtorEq
end Go.Proofs.YtbclmfjibpppfaaGreat

namespace Go.Proofs.YtbclmfjibpppfaaGreat
open Go Go.V
abbrev o60_0:List Ins:=[JS 9 (Jm 1),JS 10 (Jn 9),JS 11 (Jm 0),JS 12 (.nilc (.t 11)),JS 13 (Jf 0 12),JS 14 (Jf 0 13),JS 15 (Jf 2 14),JS 16 (Jl 15),JS 17 (Jn 16),JS 18 (Jb .eql 10 17)]
abbrev o60_1:List Ins:=[JS 19 (Jm 3),JS 20 (Jm 1),JS 21 (.call (.t 19) [.t 20])]
abbrev v60_2:VC:=(.seq (.ops o60_1) .ret)
abbrev v60_3:VC:=(.cond (.t 18) v60_2 .skip)
abbrev o60_4:List Ins:=[JS 22 (Jm 2),JS 23 (Jk .add 22 1),JS 24 (Ji 0)]
abbrev o60_5:List Ins:=[JS 25 (Jb .lss 24 23)]
abbrev o60_6:List Ins:=[JS 26 (Jm 24),JS 8 (Jm 26)]
abbrev o60_7:List Ins:=[JS 27 (Jm 0),JS 28 (Jm 1),JS 29 (Jc 71 [.t 28]),JS 30 (Jm 8),JS 31 (.bsl 3 1 [.t 30]),JS 32 (.app 3 1 8 (.t 29) (.t 31)),JS 33 (Jm 2),JS 34 (Jm 8),JS 35 (Jb .sub 33 34),JS 36 (Jm 3),JS 37 (Jc 60 [.t 27,.t 32,.t 35,.t 36])]
abbrev v60_8:VC:=(.seq (.ops o60_6) (.ops o60_7))
abbrev o60_9:List Ins:=[JS 38 (Jk .add 24 1),JS 24 (Jm 38)]
abbrev v60_10:VC:=(.seq (.block 1 v60_8) (.ops o60_9))
abbrev v60_11:VC:=(.seq (.cond (.t 25) .skip (.exit 0)) v60_10)
abbrev v60_12:VC:=(.seq (.ops o60_5) v60_11)
-- K60_1: changed and kept: [24]
abbrev K60_1:List Nat:=[0,1,2,3,23]
abbrev v60_13:VC:=(.loop v60_12)
abbrev v60_14:VC:=(.block 0 v60_13)
abbrev v60_15:VC:=(.seq (.ops o60_4) v60_14)
def ir60:FC:=⟨4,39,[],(.seq (.seq (.ops o60_0) v60_3) v60_15)⟩
theorem c60:compM Tryz.prog [] 60 = some ir60:=by kernel_rfl
attribute [local go_sem] Nat.reduceEqDiff Nat.reduceAdd Nat.reduceMul reduceIte Nat.reduceLeDiff Nat.reduceLT Nat.reduceBEq reduceCtorEq
def pursL:Nat → List Int → Nat → List (List Int)
 | 0,p,_ => [p]
 | m + 1,p,lf => (List.range (lf + 1)).flatMap fun (n:Nat) => pursL m (p ++ [(n:Int)]) (lf - n)
theorem fndS_len (b:Bx) (F:List (List Int)) (p:List Int):(fndS b F p).length ≤ F.length + 1:=by
 unfold fndS; split
 ·omega
 ·split
  ·split <;> simp
  ·omega
theorem fndS_mem {b:Bx} {F:List (List Int)} {p q:List Int} (h:q ∈ fndS b F p):q ∈ F ∨ q = p:=by
 unfold fndS at h
 split at h
 ·exact .inl h
 ·split at h
  ·split at h
   ·exact .inr (by simpa using h)
   ·rcases List.mem_append.1 h with h | h
    ·exact .inl h
    ·exact .inr (by simpa using h)
  ·exact .inl h
theorem fold_len (b:Bx):∀ (l:List (List Int)) (F:List (List Int)),(l.foldl (fndS b) F).length ≤ F.length + l.length
 | [],F => Nat.le_refl _
 | p :: l,F => by
  have h1:=fold_len b l (fndS b F p)
  have h2:=fndS_len b F p
  simp only [List.foldl_cons,List.length_cons]; omega
theorem fold_mem {b:Bx}:∀ {l:List (List Int)} {F:List (List Int)} {q:List Int},q ∈ l.foldl (fndS b) F → q ∈ F ∨ q ∈ l
 | [],F,q,h => .inl h
 | p :: l,F,q,h => by
  rcases fold_mem (l:=l) h with h | h
  ·rcases fndS_mem h with h | rfl
   ·exact .inl h
   ·exact .inr (by simp)
  ·exact .inr (by simp [h])
theorem pursL_ok {b:Bx}:∀ (m:Nat) (p:List Int) (lf:Nat),p.length + m = b.wh.co.length → (∀ n ∈ p,0 ≤ n) → p.sum + lf ≤ 2 → ∀ q ∈ pursL m p lf,PurOk b q
 | 0,p,lf,h1,h2,h3,q,hq => by
  simp only [pursL,List.mem_singleton] at hq
  subst hq
  exact ⟨by omega,h2,by omega⟩
 | m + 1,p,lf,h1,h2,h3,q,hq => by
  simp only [pursL,List.mem_flatMap,List.mem_range] at hq
  obtain ⟨n,hn,hq⟩:=hq
  refine pursL_ok m _ _ (by simp; omega) (fun x hx => ?_) ?_ q hq
  ·rcases List.mem_append.1 hx with h | h
   ·exact h2 x h
   ·simp only [List.mem_singleton] at h; omega
  ·simp; omega
def pursN (m:Nat) (p:List Int) (lf k:Nat):List (List Int):=(List.range k).flatMap fun (n:Nat) => pursL m (p ++ [(n:Int)]) (lf - n)
theorem pursN_succ (m:Nat) (p:List Int) (lf k:Nat):pursN m p lf (k + 1) = pursN m p lf k ++ pursL m (p ++ [(k:Int)]) (lf - k):=by simp [pursN,List.range_succ]
theorem pursN_le (m:Nat) (p:List Int) (lf:Nat):∀ k j:Nat,(pursN m p lf k).length ≤ (pursN m p lf (k + j)).length
 | k,0 => Nat.le_refl _
 | k,j + 1 => by
  have:=pursN_le m p lf k j
  rw [← Nat.add_assoc,pursN_succ,List.length_append]; omega
def i1s (l:List Int):List (List CD):=l.map fun n => [.int .i64 n]
theorem cloneN (p:List Int) (hlen:p.length ≤ 1000):FSpecN Tryz.prog 71 [.c (ints p)] (fun r os => r = .gr 1000 ∧ os = [.grow 3 1 (i1s p)]):=by
 have hmax:maxLen = 9223372036854775807:=rfl
 refine FSpecN_of c71 (Nat.le_refl _) (by decide) fun C hP hN hC hL => ?_; rw [init_st]
 simp only [ir71,ints]
 cases p with
 | nil =>
  (repeat ((first | refine Va ?_ | refine Vb ?_ | refine Vc ?_ | refine Vd ?_ | refine Ve ?_ | refine Vf ?_); (try simp only [go_sem,hP]); (repeat refine qJ ?_)))
  intro b
  (repeat ((first | refine Va ?_ | refine Vb ?_ | refine Vc ?_ | refine Vd ?_ | refine Ve ?_ | refine Vf ?_); (try simp only [go_sem,hP]); (repeat refine qJ ?_)))
  (refine WV_cond rfl (fun h => ?_) (fun h => ?_))
  ·refine WV_seq_ ?_
   (refine WV_op ?_; simp only [go_sem,hP]; (repeat refine qJ ?_))
   refine WV_nilslot 2 7 3 1 (by decide) (by decide) rfl rfl ?_
   simp only [go_sem]
   (refine WV_ret ?_; simp only [thenQ,inQ,RetQN,RetOkN,resAll,resA]; simp only [go_sem,tupA])
   exact ⟨[7],_,_,_,by simp,by simp,rfl,AVle.refl _,rfl,rfl,rfl⟩
  ·(repeat ((first | refine Va ?_ | refine Vb ?_ | refine Vc ?_ | refine Vd ?_ | refine Ve ?_ | refine Vf ?_); (try simp only [go_sem,hP]); (repeat refine qJ ?_)))
   (refine WV_ret ?_; simp only [thenQ,inQ,RetQN,RetOkN,resAll,resA]; simp only [go_sem,tupA])
   exact ⟨[7],_,_,_,by simp,by simp,rfl,AVle.refl _,rfl,rfl,rfl⟩
 | cons a l =>
  simp only [List.length_cons] at hlen
  (repeat ((first | refine Va ?_ | refine Vb ?_ | refine Vc ?_ | refine Vd ?_ | refine Ve ?_ | refine Vf ?_); (try simp only [go_sem,hP]); (repeat refine qJ ?_)))
  (refine WV_cond rfl (fun h => ?_) (fun h => ?_))
  ·cases h
  ·(repeat ((first | refine Va ?_ | refine Vb ?_ | refine Vc ?_ | refine Vd ?_ | refine Ve ?_ | refine Vf ?_); (try simp only [go_sem,hP]); (repeat refine qJ ?_)))
   (refine WV_ret ?_; simp only [thenQ,inQ,RetQN,RetOkN,resAll,resA]; simp only [go_sem,tupA])
   exact ⟨[7],_,_,_,by simp,by simp,rfl,AVle.refl _,rfl,rfl,rfl⟩
def gobs (b:Bx) (G:Gaps):List Ob:=[.box [.gr 1002],.box [.c (.pt b.cds)],.grow 67 2 (gapsC G)]
set_option maxHeartbeats 8000000 in
set_option maxRecDepth 20000 in
theorem gaps57 {b:Bx} (hwb:whB b.wh = true) (hb:BxOk b):∀ (m:Nat) (p:List Int) (lf:Nat) (G:Gaps),p.length + m = b.wh.co.length → (∀ n ∈ p,0 ≤ n) → p.sum + lf ≤ 2 → (∀ q ∈ gpur G,PurOk b q) → G.length + (pursL m p lf).length ≤ 100000 →
  FSpecL Tryz.prog 60 [.c (.pt b.cds),.c (ints p),iv lf,.fn 61 [.bp 1000 0,.bp 1001 0]] (gobs b G) [] (fun r l' => r = .tup [] ∧ ∃ G',gpur G' = (pursL m p lf).foldl (fndS b) (gpur G) ∧ l' = gobs b G'):=by
 intro m
 induction m with
 | zero =>
  intro p lf G hm hn hs hG hc
  have hcl:=hb.wh.cl
  have hok:GapsOk b G:=⟨fun g hg => hG _ (List.mem_map.2 ⟨g,hg,rfl⟩),by simp [pursL] at hc; omega⟩
  have hfo:=found58 hwb hb (p:=p) ⟨by omega,hn,by omega⟩ hok
  have e2:List.drop 2 b.cds = [ints b.wh.co,ints b.fo,ints b.ma,ints b.sl,.int .i64 b.pl,.int .i64 b.sk]:=rfl
  have e8:b.cds.length = 8:=rfl
  have hl1:((ints p:CD)) = .sl 1 (p.map fun n => [.int .i64 n]):=rfl
  have hleq:(p.length:Int) = (b.wh.co.length:Int):=by omega
  unfold gobs
  refine FSpecL_of c60 (by first | simp | exact Nat.le_of_ble_eq_true rfl) (Nat.le_refl _) (by decide) (by decide) fun C hP hN hC hL => ?_; rw [init_env',ownW_upd (by first | simp | exact Nat.le_of_ble_eq_true rfl)]; simp only [ir60,updL,updLo,List.map_nil,List.map_cons,Nat.reduceAdd,]
  rw [hl1]
  (repeat ((first | refine Va ?_ | refine Vb ?_ | refine Vc ?_ | refine Vd ?_ | refine Ve ?_ | refine Vf ?_); (try simp only [go_sem,hP,e2,e8,ints,List.length_map,hleq]); (repeat refine qJ ?_)))
  (refine WV_cond rfl (fun h => ?_) (fun h => ?_))
  ·(repeat ((first | refine Va ?_ | refine Vb ?_ | refine Vc ?_ | refine Vd ?_ | refine Ve ?_ | refine Vf ?_); (try simp only [go_sem,hP]); (repeat refine qJ ?_)))
   refine AS_lend [1000,1001,1002] hfo rfl rfl rfl (by decide) rfl rfl ?_
   rintro r l' ⟨rfl,G',hG',rfl⟩
   refine ⟨_,_,rfl,rfl,?_⟩
   simp only [go_sem,hP,ownBack]
   (repeat ((first | refine Va ?_ | refine Vb ?_ | refine Vc ?_ | refine Vd ?_ | refine Ve ?_ | refine Vf ?_); (try simp only [go_sem,hP]); (repeat refine qJ ?_)))
   (refine WV_ret ?_; simp only [thenQ,inQ,RetQL,RetOkL,resAll,resA]; simp only [go_sem,tupA,AV.keepP,AV.keepPL]; refine ⟨_,gobs b G',rfl,KeepL_mk rfl rfl ?_ ?_ rfl,?_⟩)
   ·simp only [go_sem,keepAll,Ob.keepP,AV.keepP,AV.keepPL,gobs]
   ·trivial
   ·exact ⟨rfl,G',hG',rfl⟩
  ·simp at h
 | succ m ih =>
  intro p lf G hm hn hs hG hc
  have hmax:maxLen = 9223372036854775807:=rfl
  have hcl:=hb.wh.cl
  have e2:List.drop 2 b.cds = [ints b.wh.co,ints b.fo,ints b.ma,ints b.sl,.int .i64 b.pl,.int .i64 b.sk]:=rfl
  have e8:b.cds.length = 8:=rfl
  have hl1:((ints p:CD)) = .sl 1 (p.map fun n => [.int .i64 n]):=rfl
  have hsum:0 ≤ p.sum:=by
   have key:∀ l:List Int,(∀ x ∈ l,0 ≤ x) → 0 ≤ l.sum:=by
    intro l
    induction l with
    | nil => intro _; simp
    | cons a l ih => intro h; have:=ih fun x hx => h x (by simp [hx]); have:=h a (by simp); simp only [List.sum_cons]; omega
   exact key p hn
  have hne:(p.length:Int) ≠ (b.wh.co.length:Int):=by omega
  have w0:=w64 (n:=(lf:Int) + 1) (by omega) (by omega)
  have hcp:=cloneN p (by omega)
  rw [hl1] at hcp
  unfold gobs
  refine FSpecL_of c60 (by first | simp | exact Nat.le_of_ble_eq_true rfl) (Nat.le_refl _) (by decide) (by decide) fun C hP hN hC hL => ?_; rw [init_env',ownW_upd (by first | simp | exact Nat.le_of_ble_eq_true rfl)]; simp only [ir60,updL,updLo,List.map_nil,List.map_cons,Nat.reduceAdd,]
  rw [hl1]
  (repeat ((first | refine Va ?_ | refine Vb ?_ | refine Vc ?_ | refine Vd ?_ | refine Ve ?_ | refine Vf ?_); (try simp only [go_sem,hP,e2,e8,ints,List.length_map]); (repeat refine qJ ?_)))
  (refine WV_cond rfl (fun h => ?_) (fun h => ?_))
  ·exact absurd (by simpa using h) hne
  (repeat ((first | refine Va ?_ | refine Vb ?_ | refine Vc ?_ | refine Vd ?_ | refine Ve ?_ | refine Vf ?_); (try simp only [go_sem,hP,w0]); (repeat refine qJ ?_)))
  refine WV_loopK K60_1 [1002] (fun i:Nat × Gaps => i.1 ≤ lf + 1 ∧ gpur i.2 = (pursN m p lf i.1).foldl (fndS b) (gpur G)) (fun i => lf + 1 - i.1) (fun i => [(24,iv i.1)]) (fun i => [(1002,.grow 67 2 (gapsC i.2))]) (0,G) ⟨by omega,rfl⟩ ?_ ?_
  ·exact Sub_au
  rintro ⟨k,H⟩ ⟨hk,hH⟩
  simp only at hk hH
  (repeat ((first | refine Va ?_ | refine Vb ?_ | refine Vc ?_ | refine Vd ?_ | refine Ve ?_ | refine Vf ?_); (try simp only [go_sem,hP]); (repeat refine qJ ?_)))
  (refine WV_cond rfl (fun h => ?_) (fun h => ?_))
  ·have hi:k < lf + 1:=by simp at h; omega
   have w1:=w64 (n:=(k:Int) + 1) (by omega) (by omega)
   have w2:IntKind.i64.wrap ((lf:Int) - (k:Int)) = ((lf - k:Nat):Int):=by rw [w64 (by omega) (by omega)]; omega
   have hsn:i1s p ++ [[CD.int .i64 (k:Int)]] = (p ++ [(k:Int)]).map fun n => [CD.int .i64 n]:=by simp [i1s]
   have hln:(i1s p).length = p.length:=List.length_map _
   have hon:((i1s p).all fun e => e.length == 1) = true:=by rw [List.all_eq_true]; intro e he; obtain ⟨n,_,rfl⟩:=List.mem_map.1 he; rfl
   have hih:=ih (p ++ [(k:Int)]) (lf - k) H (by simp; omega) (fun x hx => by
    rcases List.mem_append.1 hx with h | h
    ·exact hn x h
    ·simp only [List.mem_singleton] at h; omega) (by simp; omega) (fun q hq => by
    rw [hH] at hq
    rcases fold_mem hq with h | h
    ·exact hG q h
    ·refine pursL_ok (m + 1) p lf hm hn hs q ?_
     simp only [pursN,List.mem_flatMap,List.mem_range] at h
     simp only [pursL,List.mem_flatMap,List.mem_range]
     obtain ⟨n,h1,h2⟩:=h
     exact ⟨n,by omega,h2⟩) (by
    have h1:H.length = (gpur H).length:=by simp [gpur]
    have h2:=fold_len b (pursN m p lf k) (gpur G)
    have h3:=pursN_le m p lf (k + 1) (lf - k)
    rw [show k + 1 + (lf - k) = lf + 1 by omega,pursN_succ,List.length_append] at h3
    have h4:pursL (m + 1) p lf = pursN m p lf (lf + 1):=rfl
    have h5:(gpur G).length = G.length:=by simp [gpur]
    rw [h4] at hc
    rw [hH] at h1
    omega)
   (repeat ((first | refine Va ?_ | refine Vb ?_ | refine Vc ?_ | refine Vd ?_ | refine Ve ?_ | refine Vf ?_); (try simp only [go_sem,hP,w1]); (repeat refine qJ ?_)))
   refine AS_new hcp rfl rfl rfl rfl ?_
   rintro _ _ ⟨rfl,rfl⟩
   refine ⟨[29],_,_,by simp,rfl,rfl,rfl,rfl,?_⟩
   simp only [go_sem,hP,ownBack]
   (repeat ((first | refine Va ?_ | refine Vb ?_ | refine Vc ?_ | refine Vd ?_ | refine Ve ?_ | refine Vf ?_); (try simp only [go_sem,hP,w1,w2,hln,hon]); (repeat refine qJ ?_)))
   refine ⟨⟨by omega,by omega⟩,?_⟩
   refine AS_lend [1000,1001,1002] hih rfl rfl rfl (by decide) (by simp only [go_sem,AV.lendL,AV.lend,hsn,w2,ints]) rfl ?_
   rintro r l' ⟨rfl,H',hH',rfl⟩
   refine ⟨_,_,rfl,rfl,?_⟩
   simp only [go_sem,hP,ownBack]
   (repeat ((first | refine Va ?_ | refine Vb ?_ | refine Vc ?_ | refine Vd ?_ | refine Ve ?_ | refine Vf ?_); (try simp only [go_sem,hP,w1]); (repeat refine qJ ?_)))
   refine ⟨(k + 1,H'),⟨by omega,?_⟩,by omega,?_⟩
   ·simp only
    rw [hH',hH,pursN_succ,List.foldl_append]
   ·exact Sub_au
  ·have hi:k = lf + 1:=by simp at h; omega
   subst hi
   (repeat ((first | refine Va ?_ | refine Vb ?_ | refine Vc ?_ | refine Vd ?_ | refine Ve ?_ | refine Vf ?_); (try simp only [go_sem,hP]); (repeat refine qJ ?_)))
   ((try simp only [thenQ,inQ,RetQL,RetOkL,resAll,resA]); (try simp only [go_sem,tupA,AV.keepP,AV.keepPL]); refine ⟨_,gobs b H,rfl,KeepL_mk rfl rfl ?_ ?_ rfl,?_⟩)
   ·simp only [go_sem,keepAll,Ob.keepP,AV.keepP,AV.keepPL,gobs]
   ·trivial
   ·exact ⟨rfl,H,hH,rfl⟩
end Go.Proofs.YtbclmfjibpppfaaGreat

namespace Go.Proofs.YtbclmfjibpppfaaGreat
open Go Go.V
abbrev o48_0:List Ins:=[JS 1 (.box 1 (.t 0)),JS 2 (.mv (.k J0))]
abbrev o48_1:List Ins:=[JS 3 (.alloc [J0])]
abbrev o48_2:List Ins:=[JS 4 (Jl 1),JS 5 (.mkfn 61 [.t 3,.t 1]),JS 6 (Jc 60 [.t 4,(.k J0),(.k (Jz 2)),.t 5])]
abbrev o48_3:List Ins:=[JS 7 (Jl 3),JS 2 (Jm 7)]
abbrev v48_4:VC:=(.seq (.ops o48_3) .ret)
abbrev v48_5:VC:=(.seq (.ops o48_2) v48_4)
abbrev v48_6:VC:=(.seq (.ops o48_1) v48_5)
def ir48:FC:=⟨1,8,[.t 2],(.seq (.ops o48_0) v48_6)⟩
abbrev o27_0:List Ins:=[JS 1 (.box 8 (.t 0)),JS 2 (.mv (.k (.c (.raw (.pointer none))))),JS 3 (.mv (.k J0)),JS 4 (Ji 0)]
abbrev o27_1:List Ins:=[JS 9 (JL 8 1),JS 10 (Jc 47 [.t 9]),JS 8 (Jm 10),JS 11 (Je 8 0),JS 12 (Je 8 1),JS 5 (Jm 11),JS 6 (Jm 12)]
abbrev o27_2:List Ins:=[JS 13 (Jm 6),JS 14 (Jk .neq 13 0)]
abbrev o27_3:List Ins:=[JS 15 (Jm 6),JS 2 (.mv (.k (.c (.raw (.pointer none))))),JS 3 (.mv (.k J0)),JS 4 (Jm 15)]
abbrev v27_4:VC:=(.seq (.ops o27_3) .ret)
abbrev v27_5:VC:=(.cond (.t 14) v27_4 .skip)
abbrev o27_6:List Ins:=[JS 16 (Jm 5),JS 17 (Jc 48 [.t 16]),JS 7 (Jm 17)]
abbrev o27_7:List Ins:=[JS 18 (Jm 7),JS 19 (Jn 18),JS 20 (Jk .eql 19 0)]
abbrev o27_8:List Ins:=[JS 2 (.mv (.k (.c (.raw (.pointer none))))),JS 3 (.mv (.k J0)),JS 4 (Ji 3)]
abbrev v27_9:VC:=(.seq (.ops o27_8) .ret)
abbrev v27_10:VC:=(.cond (.t 20) v27_9 .skip)
abbrev o27_11:List Ins:=[JS 21 (Jm 5),JS 22 (Jm 7),JS 2 (Jm 21),JS 3 (Jm 22),JS 4 (Ji 0)]
abbrev v27_12:VC:=(.seq (.ops o27_11) .ret)
abbrev v27_13:VC:=(.seq (.seq (.ops o27_7) v27_10) v27_12)
abbrev v27_14:VC:=(.seq (.ops o27_6) v27_13)
abbrev v27_15:VC:=(.seq (.seq (.ops o27_2) v27_5) v27_14)
abbrev v27_16:VC:=(.seq (.ops o27_1) v27_15)
def ir27:FC:=⟨1,23,[.t 2,.t 3,.t 4],(.seq (.ops o27_0) v27_16)⟩
abbrev o12_0:List Ins:=[JS 1 (.box 8 (.t 0)),JS 2 (Ji 0),JS 3 (Ji 0)]
abbrev o12_1:List Ins:=[JS 8 (JL 8 1),JS 9 (Jc 27 [.t 8]),JS 7 (Jm 9),JS 10 (Je 7 0),JS 11 (Je 7 1),JS 12 (Je 7 2),JS 4 (Jm 10),JS 5 (Jm 11),JS 6 (Jm 12)]
abbrev o12_2:List Ins:=[JS 13 (Jm 6),JS 14 (Jk .neq 13 0)]
abbrev o12_3:List Ins:=[JS 15 (Jm 6),JS 2 (Ji 0),JS 3 (Jm 15)]
abbrev v12_4:VC:=(.seq (.ops o12_3) .ret)
abbrev v12_5:VC:=(.cond (.t 14) v12_4 .skip)
abbrev o12_6:List Ins:=[JS 16 (Jm 4),JS 17 (Jm 5),JS 18 (.ia 2 (.t 17) (.k (Jz 0))),JS 19 (Jf 0 18),JS 20 (Jl 19),JS 21 (Jc 28 [.t 16,.t 20]),JS 2 (Jm 21),JS 3 (Ji 0)]
abbrev v12_7:VC:=(.seq (.ops o12_6) .ret)
abbrev v12_8:VC:=(.seq (.seq (.ops o12_2) v12_5) v12_7)
abbrev v12_9:VC:=(.seq (.ops o12_1) v12_8)
def ir12:FC:=⟨1,22,[.t 2,.t 3],(.seq (.ops o12_0) v12_9)⟩
theorem c48:compM Tryz.prog [] 48 = some ir48:=by kernel_rfl
theorem c27:compM Tryz.prog [] 27 = some ir27:=by kernel_rfl
theorem c12:compM Tryz.prog [] 12 = some ir12:=by kernel_rfl
attribute [local go_sem] Nat.reduceEqDiff Nat.reduceAdd Nat.reduceMul reduceIte Nat.reduceLeDiff Nat.reduceLT Nat.reduceBEq reduceCtorEq
theorem FSpecL_args {P:Program} {f:FuncId} {args args':List AV} {l:List Ob} {wl:List (List AV)} {Post:AV → List Ob → Prop} (ha:∀ w M loc vs,RepAs w M loc args' vs → RepAs w M loc args vs) (h:FSpecL P f args l wl Post):FSpecL P f args' l wl Post :=
 ⟨h.1,h.2.1,fun w M loc vs h1 h2 h3 => h.2.2 w M loc vs h1 h2 (ha _ _ _ _ h3)⟩
def fndAll (b:Bx):List (List Int):=(pursL b.wh.co.length [] 2).foldl (fndS b) []
theorem pursL_len:∀ (m:Nat) (p:List Int) (lf:Nat),lf ≤ 2 → (pursL m p lf).length ≤ 3 ^ m
 | 0,p,lf,_ => by simp [pursL]
 | m + 1,p,lf,h => by
  have key:∀ k,k ≤ lf + 1 → (pursN m p lf k).length ≤ k * 3 ^ m:=by
   intro k
   induction k with
   | zero => intro _; simp [pursN]
   | succ k ih =>
    intro hk
    have h1:=ih (by omega)
    have h2:=pursL_len m (p ++ [(k:Int)]) (lf - k) (by omega)
    rw [pursN_succ,List.length_append,Nat.add_mul]; omega
  have h1:=key (lf + 1) (Nat.le_refl _)
  have h2:(lf + 1) * 3 ^ m ≤ 3 * 3 ^ m:=Nat.mul_le_mul_right _ (by omega)
  have h3:(pursL (m + 1) p lf).length = (pursN m p lf (lf + 1)).length:=rfl
  rw [h3,Nat.pow_succ]; omega
theorem missing53 {b:Bx} (hwb:whB b.wh = true) (hb:BxOk b):FSpecN Tryz.prog 48 [.c (.pt b.cds)] (fun r os => os = [] ∧ ∃ G,gpur G = fndAll b ∧ r = .c (.sl 2 (gapsC G))):=by
 have hcl:=hb.wh.cl
 have hlen:=pursL_len b.wh.co.length [] 2 (Nat.le_refl _)
 have h81:3 ^ b.wh.co.length ≤ 81:=Nat.pow_le_pow_right (n:=3) (by omega) hcl
 have hgp:=FSpecL_args (args':=[.c (.pt b.cds),.c (.raw (.slice none 0 0)),iv 2,.fn 61 [.bp 1000 0,.bp 1001 0]]) (fun w M loc vs h => by
  simp only [RepAs,RepA,RepC] at h ⊢
  obtain ⟨v,vs,rfl,h1,v2,vs2,rfl,⟨rfl,_⟩,h3⟩:=h
  exact ⟨v,_,rfl,h1,_,vs2,rfl,⟨none,0,rfl,Nat.le_refl _,Nat.zero_le _,.inl rfl⟩,h3⟩) (gaps57 hwb hb b.wh.co.length [] 2 [] (by simp) (by simp) (by simp) (by simp [gpur]) (by simp only [List.length_nil]; omega))
 refine FSpecN_of c48 (Nat.le_refl _) (by decide) fun C hP hN hC hL => ?_; rw [init_st]
 simp only [ir48]
 refine WV_seq_ ?_
 (refine WV_op ?_; simp only [go_sem,hP]; (repeat refine qJ ?_))
 refine WV_seq_ ?_
 (refine WV_op ?_; simp only [go_sem,hP]; (repeat refine qJ ?_))
 refine WV_nilbox 3 0 603 67 2 (by decide) (by decide) (by decide) rfl rfl rfl ?_
 simp only [go_sem]
 (repeat ((first | refine Va ?_ | refine Vb ?_ | refine Vc ?_ | refine Vd ?_ | refine Ve ?_ | refine Vf ?_); (try simp only [go_sem,hP]); (repeat refine qJ ?_)))
 refine AS_lend [3,1,603] hgp rfl rfl rfl (by decide) rfl rfl ?_
 rintro r l' ⟨rfl,G,hG,rfl⟩
 refine ⟨_,_,rfl,rfl,?_⟩
 have n1:=gapsC_len G
 have n2:=gapsC_two G
 simp only [go_sem,hP,ownBack]
 (repeat ((first | refine Va ?_ | refine Vb ?_ | refine Vc ?_ | refine Vd ?_ | refine Ve ?_ | refine Vf ?_); (try simp only [go_sem,hP,n1,n2]); (repeat refine qJ ?_)))
 (refine WV_ret ?_; simp only [thenQ,inQ,RetQN,RetOkN,resAll,resA]; simp only [go_sem,tupA])
 exact ⟨[],_,_,[],by simp,by simp,rfl,AVle.refl _,rfl,rfl,G,hG,rfl⟩
def nilP:AV:=.c (.raw (.pointer none))
def nilS:AV:=.c (.raw (.slice none 0 0))
inductive Settled (b:Bx):AV → Prop
 | bad (h:bxB b = false):Settled b (.tup [nilP,nilS,iv (bxE b)])
 | none (h:bxB b = true) (h2:fndAll b = []):Settled b (.tup [nilP,nilS,iv 3])
 | some (h:bxB b = true) (G:Gaps) (hG:gpur G = fndAll b) (h2:fndAll b ≠ []):Settled b (.tup [.c (.pt b.cds),.c (.sl 2 (gapsC G)),iv 0])
theorem settle40 (b:Bx):FSpecN Tryz.prog 27 [b.av] (fun r os => os = [] ∧ Settled b r):=by
 refine FSpecN_of c27 (Nat.le_refl _) (by decide) fun C hP hN hC hL => ?_; rw [init_st]
 simp only [ir27,Bx.av,Bx.avs,ints]
 have ho:=open24 b
 by_cases h1:bxB b = true
 ·have hb:=bxB_ok h1
  have hwb:whB b.wh = true:=by
   simp only [bxB,Bool.and_eq_true] at h1
   exact h1.1.1.1.1.1.1.1
  rw [bxE_ok h1,bxPt_ok h1] at ho
  (repeat ((first | refine Va ?_ | refine Vb ?_ | refine Vc ?_ | refine Vd ?_ | refine Ve ?_ | refine Vf ?_); (try simp only [go_sem,hP]); (repeat refine qJ ?_)))
  (refine AS_pu (ho) ?_; simp only [go_sem,hP,Bx.av,Bx.avs,ints]; (repeat refine qJ ?_); (repeat ((first | refine Va ?_ | refine Vb ?_ | refine Vc ?_ | refine Vd ?_ | refine Ve ?_ | refine Vf ?_); (try simp only [go_sem,hP,Bx.av,Bx.avs,ints]); (repeat refine qJ ?_))))
  (refine WV_cond rfl (fun h => ?_) (fun h => ?_))
  ·simp at h
  (repeat ((first | refine Va ?_ | refine Vb ?_ | refine Vc ?_ | refine Vd ?_ | refine Ve ?_ | refine Vf ?_); (try simp only [go_sem,hP]); (repeat refine qJ ?_)))
  refine AS_new (missing53 hwb hb) rfl rfl rfl rfl ?_
  rintro _ _ ⟨rfl,G,hG,rfl⟩
  refine ⟨[],_,_,by simp,rfl,rfl,rfl,rfl,?_⟩
  have n1:=gapsC_len G
  simp only [go_sem,hP,ownBack]
  (repeat ((first | refine Va ?_ | refine Vb ?_ | refine Vc ?_ | refine Vd ?_ | refine Ve ?_ | refine Vf ?_); (try simp only [go_sem,hP,n1]); (repeat refine qJ ?_)))
  have hgl:(fndAll b).length = G.length:=by rw [← hG]; simp [gpur]
  (refine WV_cond rfl (fun h => ?_) (fun h => ?_))
  ·have hz:fndAll b = []:=List.eq_nil_of_length_eq_zero (by simp at h; rw [hgl,h]; rfl)
   (repeat ((first | refine Va ?_ | refine Vb ?_ | refine Vc ?_ | refine Vd ?_ | refine Ve ?_ | refine Vf ?_); (try simp only [go_sem,hP]); (repeat refine qJ ?_)))
   (refine WV_ret ?_; simp only [thenQ,inQ,RetQN,RetOkN,resAll,resA]; simp only [go_sem,tupA])
   exact ⟨[],_,_,[],by simp,by simp,rfl,AVle.refl _,rfl,rfl,.none h1 hz⟩
  ·have hz:fndAll b ≠ []:=fun e => by rw [e] at hgl; simp at h; exact h (List.eq_nil_of_length_eq_zero hgl.symm)
   (repeat ((first | refine Va ?_ | refine Vb ?_ | refine Vc ?_ | refine Vd ?_ | refine Ve ?_ | refine Vf ?_); (try simp only [go_sem,hP]); (repeat refine qJ ?_)))
   (refine WV_ret ?_; simp only [thenQ,inQ,RetQN,RetOkN,resAll,resA]; simp only [go_sem,tupA])
   exact ⟨[],_,_,[],by simp,by simp,rfl,AVle.refl _,rfl,rfl,.some h1 G hG hz⟩
 ·have h1:bxB b = false:=by simpa using h1
  have hne:bxE b ≠ 0:=by rw [bxE_no h1]; decide
  rw [bxPt_no h1] at ho
  (repeat ((first | refine Va ?_ | refine Vb ?_ | refine Vc ?_ | refine Vd ?_ | refine Ve ?_ | refine Vf ?_); (try simp only [go_sem,hP]); (repeat refine qJ ?_)))
  (refine AS_pu (ho) ?_; simp only [go_sem,hP,Bx.av,Bx.avs,ints]; (repeat refine qJ ?_); (repeat ((first | refine Va ?_ | refine Vb ?_ | refine Vc ?_ | refine Vd ?_ | refine Ve ?_ | refine Vf ?_); (try simp only [go_sem,hP,Bx.av,Bx.avs,ints]); (repeat refine qJ ?_))))
  (refine WV_cond rfl (fun h => ?_) (fun h => ?_))
  ·(repeat ((first | refine Va ?_ | refine Vb ?_ | refine Vc ?_ | refine Vd ?_ | refine Ve ?_ | refine Vf ?_); (try simp only [go_sem,hP]); (repeat refine qJ ?_)))
   (refine WV_ret ?_; simp only [thenQ,inQ,RetQN,RetOkN,resAll,resA]; simp only [go_sem,tupA])
   exact ⟨[],_,_,[],by simp,by simp,rfl,AVle.refl _,rfl,rfl,.bad h1⟩
  ·simp at h; exact absurd h hne
def missB (b:Bx):Int × Int:=if bxB b then (if fndAll b = [] then (0,3) else (worth b.wh ((fndAll b).getD 0 []),0)) else (0,bxE b)
theorem fndAll_ok {b:Bx}:∀ q ∈ fndAll b,PurOk b q:=fun q hq => by
 rcases fold_mem hq with h | h
 ·cases h
 ·exact pursL_ok b.wh.co.length [] 2 (by simp) (by simp) (by simp) q h
theorem missing29 (b:Bx):FSpec Tryz.prog 12 [b.av] (.tup [iv (missB b).1,iv (missB b).2]):=by
 refine FSpec_of c12 (Nat.le_refl _) (by decide) fun C hP hN hC hL => ?_; rw [init_st]
 simp only [ir12,Bx.av,Bx.avs,ints]
 (repeat ((first | refine Va ?_ | refine Vb ?_ | refine Vc ?_ | refine Vd ?_ | refine Ve ?_ | refine Vf ?_); (try simp only [go_sem,hP]); (repeat refine qJ ?_)))
 refine AS_new (settle40 b) rfl rfl rfl (by simp only [Bx.av,Bx.avs,ints]; rfl) ?_
 rintro r os ⟨rfl,hr⟩
 cases hr with
 | bad h1 =>
  have hne:bxE b ≠ 0:=by rw [bxE_no h1]; decide
  have hm:missB b = (0,bxE b):=by unfold missB; rw [h1]; rfl
  rw [hm]
  refine ⟨[],_,_,by simp,rfl,rfl,rfl,rfl,?_⟩
  simp only [go_sem,hP,ownBack]
  (repeat ((first | refine Va ?_ | refine Vb ?_ | refine Vc ?_ | refine Vd ?_ | refine Ve ?_ | refine Vf ?_); (try simp only [go_sem,hP]); (repeat refine qJ ?_)))
  (refine WV_cond rfl (fun h => ?_) (fun h => ?_))
  ·(repeat ((first | refine Va ?_ | refine Vb ?_ | refine Vc ?_ | refine Vd ?_ | refine Ve ?_ | refine Vf ?_); (try simp only [go_sem,hP]); (repeat refine qJ ?_)))
   (refine WV_ret ?_; simp only [thenQ,inQ,RetQ,RetOk,resAll,resA]; simp only [go_sem,tupA,AV.port,AV.portL,exists_eq_left']; (first | exact AVle.of rfl | refine AVle.of ?_ | skip))
  ·simp at h; exact absurd h hne
 | none h1 h2 =>
  have hm:missB b = (0,3):=by unfold missB; rw [if_pos h1,if_pos h2]
  rw [hm]
  refine ⟨[],_,_,by simp,rfl,rfl,rfl,rfl,?_⟩
  simp only [go_sem,hP,ownBack]
  (repeat ((first | refine Va ?_ | refine Vb ?_ | refine Vc ?_ | refine Vd ?_ | refine Ve ?_ | refine Vf ?_); (try simp only [go_sem,hP]); (repeat refine qJ ?_)))
  (refine WV_cond rfl (fun h => ?_) (fun h => ?_))
  ·(repeat ((first | refine Va ?_ | refine Vb ?_ | refine Vc ?_ | refine Vd ?_ | refine Ve ?_ | refine Vf ?_); (try simp only [go_sem,hP]); (repeat refine qJ ?_)))
   (refine WV_ret ?_; simp only [thenQ,inQ,RetQ,RetOk,resAll,resA]; simp only [go_sem,tupA,AV.port,AV.portL,exists_eq_left']; (first | exact AVle.of rfl | refine AVle.of ?_ | skip))
  ·simp at h
 | some h1 G hG h2 =>
  have hb:=bxB_ok h1
  have hm:missB b = (worth b.wh ((fndAll b).getD 0 []),0):=by unfold missB; rw [if_pos h1,if_neg h2]
  rw [hm]
  have n1:=gapsC_len G
  have hl:0 < G.length:=by
   have:0 < (gpur G).length:=by rw [hG]; exact List.length_pos_iff.2 h2
   simpa [gpur] using this
  obtain ⟨p0,a0,hp0,hg0,hgp⟩ : ∃ p0 a0,PurOk b p0 ∧ (gapsC G).getD 0 [] = [ints p0,ints a0] ∧ (fndAll b).getD 0 [] = p0:=by
   cases G with
   | nil => simp at hl
   | cons g G => exact ⟨g.1,g.2,fndAll_ok _ (by rw [← hG]; simp [gpur]),rfl,by rw [← hG]; rfl⟩
  rw [hgp]
  refine ⟨[],_,_,by simp,rfl,rfl,rfl,rfl,?_⟩
  simp only [go_sem,hP,ownBack]
  (repeat ((first | refine Va ?_ | refine Vb ?_ | refine Vc ?_ | refine Vd ?_ | refine Ve ?_ | refine Vf ?_); (try simp only [go_sem,hP,n1]); (repeat refine qJ ?_)))
  (refine WV_cond rfl (fun h => ?_) (fun h => ?_))
  ·simp at h
  (repeat ((first | refine Va ?_ | refine Vb ?_ | refine Vc ?_ | refine Vd ?_ | refine Ve ?_ | refine Vf ?_); (try simp only [go_sem,hP,n1,hg0,hl,Int.toNat_zero]); (repeat refine qJ ?_)))
  (refine AS_pu (worth25 hb.wh hp0.len (pur14 hp0)) ?_; simp only [go_sem,hP]; (repeat refine qJ ?_); (repeat ((first | refine Va ?_ | refine Vb ?_ | refine Vc ?_ | refine Vd ?_ | refine Ve ?_ | refine Vf ?_); (try simp only [go_sem,hP]); (repeat refine qJ ?_))))
  (refine WV_ret ?_; simp only [thenQ,inQ,RetQ,RetOk,resAll,resA]; simp only [go_sem,tupA,AV.port,AV.portL,exists_eq_left']; (first | exact AVle.of rfl | refine AVle.of ?_ | skip))
end Go.Proofs.YtbclmfjibpppfaaGreat

namespace Go.Proofs.YtbclmfjibpppfaaGreat
open Go Go.V
abbrev o35_0:List Ins:=[JS 6 (JB false)]
abbrev o35_1:List Ins:=[JS 7 (Jm 0),JS 8 (Jm 1),JS 9 (Jb .geq 7 8),JS 10 (Jm 9),JG 11 (Jm 0) 10 true,JG 12 (Jm 2) 10 true,JG 13 (Jb .leq 11 12) 10 true,JS 14 (Jp 10 13),JS 6 (Jm 14)]
abbrev v35_2:VC:=(.seq (.ops o35_1) .ret)
def ir35:FC:=⟨3,15,[.t 6],(.seq (.ops o35_0) v35_2)⟩
abbrev o21_0:List Ins:=[JS 6 (JB false)]
abbrev o21_1:List Ins:=[JS 7 (Jm 0),JS 8 (Jm 1),JS 9 (Jm 2),JS 10 (Jc 35 [.t 7,.t 8,.t 9]),JS 6 (Jm 10)]
abbrev v21_2:VC:=(.seq (.ops o21_1) .ret)
def ir21:FC:=⟨3,11,[.t 6],(.seq (.ops o21_0) v21_2)⟩
abbrev o36_0:List Ins:=[JS 6 (JB false)]
abbrev o36_1:List Ins:=[JS 7 (Ji 0)]
abbrev o36_2:List Ins:=[JS 8 (Jm 7),JS 9 (Jm 0),JS 10 (Jn 9),JS 11 (Jb .lss 8 10)]
abbrev v36_3:VC:=(.cond (.t 11) .skip (.exit 0))
abbrev o36_4:List Ins:=[JF 14 (Jm 0),JF 15 (Jm 7),JF 16 (Ja 1 14 15),JF 17 (Jl 16),JF 18 (Jm 1),JF 19 (Jm 2),JS 20 (Jc 35 [.t 17,.t 18,.t 19]),JS 21 (.un .not (.t 20)),JS 22 (Jm 21),JG 23 (Jm 7) 22 false,JG 24 (Jk .gtr 23 0) 22 false,JG 25 (Jm 24) 22 false,JH 26 (Jm 0) 25 true,JH 27 (Jm 7) 25 true,JH 28 (Ja 1 26 27) 25 true,JH 29 (Jl 28) 25 true,JH 30 (Jm 0) 25 true,JH 31 (Jm 7) 25 true,JH 32 (Jk .sub 31 1) 25 true,JH 33 (Ja 1 30 32) 25 true,JH 34 (Jl 33) 25 true,JG 35 (Jb .leq 29 34) 25 true,JG 36 (Jp 25 35) 22 false,JS 37 (Jo 22 36)]
abbrev o36_5:List Ins:=[JS 6 (JB false)]
abbrev v36_6:VC:=(.seq (.ops o36_5) .ret)
abbrev v36_7:VC:=(.cond (.t 37) v36_6 .skip)
abbrev v36_8:VC:=(.seq (.dops o36_4) v36_7)
abbrev o36_9:List Ins:=[JS 12 (Jm 7),JS 13 (Jk .add 12 1),JS 7 (Jm 13)]
abbrev v36_10:VC:=(.seq (.block 1 v36_8) (.ops o36_9))
abbrev v36_11:VC:=(.seq (.seq (.ops o36_2) v36_3) v36_10)
-- K36_1: changed and kept: [7]
abbrev K36_1:List Nat:=[0,1,2]
abbrev v36_12:VC:=(.loop v36_11)
abbrev v36_13:VC:=(.block 0 v36_12)
abbrev o36_14:List Ins:=[JS 6 (JB true)]
abbrev v36_15:VC:=(.seq (.ops o36_14) .ret)
abbrev v36_16:VC:=(.seq (.seq (.ops o36_1) v36_13) v36_15)
def ir36:FC:=⟨3,38,[.t 6],(.seq (.ops o36_0) v36_16)⟩
abbrev o19_0:List Ins:=[JS 1 (.box 3 (.t 0)),JS 2 (Ji 0)]
abbrev o19_1:List Ins:=[JS 3 (Jf 0 1),JS 4 (Jl 3),JS 5 (Jc 35 [.t 4,(.k (Jz 1)),(.k (Jz 200))]),JS 6 (.un .not (.t 5)),JS 7 (Jm 6),JG 8 (Jf 1 1) 7 false,JG 9 (Jl 8) 7 false,JG 10 (Jn 9) 7 false,JG 11 (Jk .gtr 10 12) 7 false,JS 12 (Jo 7 11),JS 13 (Jm 12),JG 14 (Jf 1 1) 13 false,JG 15 (Jl 14) 13 false,JG 16 (Jf 0 1) 13 false,JG 17 (Jl 16) 13 false,JG 18 (Jc 36 [.t 15,(.k (Jz 1)),.t 17]) 13 false,JG 19 (.un .not (.t 18)) 13 false,JS 20 (Jo 13 19),JS 21 (Jm 20),JG 22 (Jf 2 1) 21 false,JG 23 (Jl 22) 21 false,JG 24 (Jn 23) 21 false,JG 25 (Jk .gtr 24 4) 21 false,JS 26 (Jo 21 25),JS 27 (Jm 26),JG 28 (Jf 2 1) 27 false,JG 29 (Jl 28) 27 false,JG 30 (Jc 36 [.t 29,(.k (Jz 1)),(.k (Jz 100))]) 27 false,JG 31 (.un .not (.t 30)) 27 false,JS 32 (Jo 27 31)]
abbrev o19_2:List Ins:=[JS 2 (Ji 10)]
abbrev v19_3:VC:=(.seq (.ops o19_2) .ret)
abbrev v19_4:VC:=(.cond (.t 32) v19_3 .skip)
abbrev o19_5:List Ins:=[JS 2 (Ji 0)]
abbrev v19_6:VC:=(.seq (.ops o19_5) .ret)
abbrev v19_7:VC:=(.seq (.seq (.ops o19_1) v19_4) v19_6)
def ir19:FC:=⟨1,33,[.t 2],(.seq (.ops o19_0) v19_7)⟩
abbrev o16_0:List Ins:=[JS 2 (Ji 0)]
abbrev o16_1:List Ins:=[JS 3 (Ji 0)]
abbrev o16_2:List Ins:=[JS 4 (Ji 0)]
abbrev o16_3:List Ins:=[JS 5 (Jm 4),JS 6 (Jm 0),JS 7 (Jn 6),JS 8 (Jb .lss 5 7)]
abbrev v16_4:VC:=(.cond (.t 8) .skip (.exit 0))
abbrev o16_5:List Ins:=[JS 11 (Jm 3),JS 12 (Jm 0),JS 13 (Jm 4),JS 14 (Ja 1 12 13),JS 15 (Jl 14),JS 16 (Jb .add 11 15),JS 3 (Jm 16)]
abbrev o16_6:List Ins:=[JS 9 (Jm 4),JS 10 (Jk .add 9 1),JS 4 (Jm 10)]
abbrev v16_7:VC:=(.seq (.block 1 (.ops o16_5)) (.ops o16_6))
abbrev v16_8:VC:=(.seq (.seq (.ops o16_3) v16_4) v16_7)
-- K16_1: changed and kept: [4,3]
abbrev K16_1:List Nat:=[0]
abbrev v16_9:VC:=(.loop v16_8)
abbrev v16_10:VC:=(.block 0 v16_9)
abbrev o16_11:List Ins:=[JS 17 (Jm 3),JS 2 (Jm 17)]
abbrev v16_12:VC:=(.seq (.ops o16_11) .ret)
abbrev v16_13:VC:=(.seq (.seq (.ops o16_2) v16_10) v16_12)
abbrev v16_14:VC:=(.seq (.ops o16_1) v16_13)
def ir16:FC:=⟨1,18,[.t 2],(.seq (.ops o16_0) v16_14)⟩
abbrev o22_0:List Ins:=[JS 4 (.mv (.k J0))]
abbrev o22_1:List Ins:=[JS 5 (.mv (.k J0))]
abbrev o22_2:List Ins:=[JS 6 (Ji 0)]
abbrev o22_3:List Ins:=[JS 7 (Jm 6),JS 8 (Jm 0),JS 9 (Jn 8),JS 10 (Jb .lss 7 9)]
abbrev v22_4:VC:=(.cond (.t 10) .skip (.exit 0))
abbrev o22_5:List Ins:=[JF 13 (Jm 5),JF 14 (Jm 0),JF 15 (Jm 6),JF 16 (Ja 1 14 15),JF 17 (Jl 16),JF 18 (Jm 1),JF 19 (Jm 6),JF 20 (Ja 1 18 19),JF 21 (Jl 20),JF 22 (Jb .add 17 21),JF 23 (.bsl 3 1 [.t 22]),JS 24 (.app 3 1 8 (.t 13) (.t 23)),JS 5 (Jm 24)]
abbrev o22_6:List Ins:=[JS 11 (Jm 6),JS 12 (Jk .add 11 1),JS 6 (Jm 12)]
abbrev v22_7:VC:=(.seq (.block 1 (.dops o22_5)) (.ops o22_6))
abbrev v22_8:VC:=(.seq (.seq (.ops o22_3) v22_4) v22_7)
-- K22_1: changed and kept: [6,5]
abbrev K22_1:List Nat:=[0,1]
abbrev v22_9:VC:=(.loop v22_8)
abbrev v22_10:VC:=(.block 0 v22_9)
abbrev o22_11:List Ins:=[JS 25 (Jm 5),JS 4 (Jm 25)]
abbrev v22_12:VC:=(.seq (.ops o22_11) .ret)
abbrev v22_13:VC:=(.seq (.seq (.ops o22_2) v22_10) v22_12)
abbrev v22_14:VC:=(.seq (.ops o22_1) v22_13)
def ir22:FC:=⟨2,26,[.t 4],(.seq (.ops o22_0) v22_14)⟩
theorem c35:compM Tryz.prog [] 35 = some ir35:=by kernel_rfl
theorem c21:compM Tryz.prog [] 21 = some ir21:=by kernel_rfl
theorem c36:compM Tryz.prog [] 36 = some ir36:=by kernel_rfl
theorem c19:compM Tryz.prog [] 19 = some ir19:=by kernel_rfl
theorem c16:compM Tryz.prog [] 16 = some ir16:=by kernel_rfl
theorem c22:compM Tryz.prog [] 22 = some ir22:=by kernel_rfl
attribute [local go_sem] Nat.reduceEqDiff Nat.reduceAdd Nat.reduceMul reduceIte Nat.reduceLeDiff Nat.reduceLT Nat.reduceBEq reduceCtorEq
theorem within33 (a b c:Int):FSpec Tryz.prog 35 [iv a,iv b,iv c] (.c (.bool (within a b c))):=by
 refine FSpec_of c35 (Nat.le_refl _) (by decide) fun C hP hN hC hL => ?_; rw [init_st]
 simp only [ir35]
 (repeat ((first | refine Va ?_ | refine Vb ?_ | refine Vc ?_ | refine Vd ?_ | refine Ve ?_ | refine Vf ?_); (try simp only [go_sem,hP]); (repeat refine qJ ?_)))
 (refine WV_ret ?_; simp only [thenQ,inQ,RetQ,RetOk,resAll,resA]; simp only [go_sem,tupA,AV.port,AV.portL,exists_eq_left']; (first | exact AVle.of rfl | refine AVle.of ?_ | skip))
theorem within22 (a b c:Int):FSpec Tryz.prog 21 [iv a,iv b,iv c] (.c (.bool (within a b c))):=by
 refine FSpec_of c21 (Nat.le_refl _) (by decide) fun C hP hN hC hL => ?_; rw [init_st]
 simp only [ir21]
 (repeat ((first | refine Va ?_ | refine Vb ?_ | refine Vc ?_ | refine Vd ?_ | refine Ve ?_ | refine Vf ?_); (try simp only [go_sem,hP]); (repeat refine qJ ?_)))
 (refine AS_pu (within33 a b c) ?_; simp only [go_sem,hP]; (repeat refine qJ ?_); (repeat ((first | refine Va ?_ | refine Vb ?_ | refine Vc ?_ | refine Vd ?_ | refine Ve ?_ | refine Vf ?_); (try simp only [go_sem,hP]); (repeat refine qJ ?_))))
 (refine WV_ret ?_; simp only [thenQ,inQ,RetQ,RetOk,resAll,resA]; simp only [go_sem,tupA,AV.port,AV.portL,exists_eq_left']; (first | exact AVle.of rfl | refine AVle.of ?_ | skip))
set_option maxHeartbeats 8000000 in
theorem rising34 (l:List Int) (lo most:Int):FSpec Tryz.prog 36 [.c (ints l),iv lo,iv most] (.c (.bool (risB lo most l))):=by
 refine FSpec_of c36 (Nat.le_refl _) (by decide) fun C hP hN hC hL => ?_; rw [init_st]
 have hl:l.length ≤ 9223372036854775807:=by simp only [AV.lensL,AV.lens] at hL; exact ints_lens hL.1
 simp only [ir36]
 (repeat ((first | refine Va ?_ | refine Vb ?_ | refine Vc ?_ | refine Vd ?_ | refine Ve ?_ | refine Vf ?_); (try simp only [go_sem,hP]); (repeat refine qJ ?_)))
 refine WV_loopK K36_1 [] (fun k:Nat => k ≤ l.length ∧ risK lo most l k = true) (fun k => l.length - k) (fun k => [(7,iv k)]) (fun _ => []) 0 ⟨Nat.zero_le _,rfl⟩ ?_ ?_
 ·(refine Sub_of (by simp only [go_sem]; ((repeat' (first | exact EnvLe_e0 _ _ | refine EnvLe_upd ?_ ?_)) <;> ((try simp only [upd_app,e0_app,o0_app,Nat.reduceEqDiff,reduceIte]); first | exact AWk.refl _ _ | exact AWk.int (by omega) | exact AWk.int (by rw [w64 (by omega) (by omega)]; omega) | exact AWk.grow rfl | exact AWk.nil _ | exact AWk.of (by simp [ints])))) (by simp only [go_sem]; exact ObjLe_au))
 rintro k ⟨hk,hr⟩
 (repeat ((first | refine Va ?_ | refine Vb ?_ | refine Vc ?_ | refine Vd ?_ | refine Ve ?_ | refine Vf ?_); (try simp only [go_sem,hP,ints,List.length_map]); (repeat refine qJ ?_)))
 (refine WV_cond rfl (fun h => ?_) (fun h => ?_))
 ·have hi:k < l.length:=by simpa using h
  have hw:=w64 (n:=(k:Int) + 1) (by omega) (by omega)
  have hgd:=ints_get hi
  have hs:risK lo most l (k + 1) = (within (l.getD k 0) lo most && (decide (k = 0) || decide (l.getD (k - 1) 0 < l.getD k 0))):=by
   conv => lhs; unfold risK
   rw [hr]; rfl
  have hfail:risK lo most l (k + 1) = false → risB lo most l = false:=fun h => risK_false h hi
  generalize l.getD k 0 = a at hgd hs
  have hz0:(Go.IntKind.i64.wrap (((0:Nat):Int) - 1)).toNat = 0:=rfl
  by_cases hz:k = 0
  ·subst hz
   have hd0:decide ((0:Int) < ((0:Nat):Int)) = false:=rfl
   have hs:risK lo most l (0 + 1) = within a lo most:=by rw [hs]; simp
   (repeat ((first | refine Va ?_ | refine Vb ?_ | refine Vc ?_ | refine Vd ?_ | refine Ve ?_ | refine Vf ?_); (try simp only [go_sem,hP,hgd,ints,List.length_map,Int.toNat_natCast,Int.ofNat_lt,hi,Int.natCast_nonneg,hd0,hz0]); (repeat refine qJ ?_)))
   (refine AS_pu (within33 a lo most) ?_; simp only [go_sem,hP,hd0,hz0,hgd,ints,List.length_map,Int.toNat_natCast]; (repeat refine qJ ?_); (repeat ((first | refine Va ?_ | refine Vb ?_ | refine Vc ?_ | refine Vd ?_ | refine Ve ?_ | refine Vf ?_); (try simp only [go_sem,hP,hd0,hz0,hgd,ints,List.length_map,Int.toNat_natCast]); (repeat refine qJ ?_))))
   by_cases hin:within a lo most = true
   ·rw [hin] at hs
    (refine WV_cond rfl (fun h => ?_) (fun h => ?_))
    ·simp [hin] at h
    (repeat ((first | refine Va ?_ | refine Vb ?_ | refine Vc ?_ | refine Vd ?_ | refine Ve ?_ | refine Vf ?_); (try simp only [go_sem,hP,hw]); (repeat refine qJ ?_)))
    refine ⟨0 + 1,⟨by omega,hs⟩,by omega,?_⟩
    (refine Sub_of (by simp only [go_sem]; ((repeat' (first | exact EnvLe_e0 _ _ | refine EnvLe_upd ?_ ?_)) <;> ((try simp only [upd_app,e0_app,o0_app,Nat.reduceEqDiff,reduceIte]); first | exact AWk.refl _ _ | exact AWk.int (by omega) | exact AWk.int (by rw [w64 (by omega) (by omega)]; omega) | exact AWk.grow rfl | exact AWk.nil _ | exact AWk.of (by simp [ints])))) (by simp only [go_sem]; exact ObjLe_au))
   ·have hin:within a lo most = false:=by simpa using hin
    rw [hin] at hs
    rw [hfail hs]
    (refine WV_cond rfl (fun h => ?_) (fun h => ?_))
    ·(repeat ((first | refine Va ?_ | refine Vb ?_ | refine Vc ?_ | refine Vd ?_ | refine Ve ?_ | refine Vf ?_); (try simp only [go_sem,hP]); (repeat refine qJ ?_)))
     (refine WV_ret ?_; simp only [thenQ,inQ,RetQ,RetOk,resAll,resA]; simp only [go_sem,tupA,AV.port,AV.portL,exists_eq_left']; (first | exact AVle.of rfl | refine AVle.of ?_ | skip))
    ·simp [hin] at h
  ·have hgp:=ints_get (l:=l) (i:=k - 1) (by omega)
   generalize l.getD (k - 1) 0 = b at hgp hs
   have hd1:decide ((0:Int) < (k:Int)) = true:=by rw [decide_eq_true_eq]; omega
   have wi:=w64 (n:=(k:Int) - 1) (by omega) (by omega)
   have ei:((k:Int) - 1).toNat = k - 1:=by omega
   have hlt:(k:Int) - 1 < (l.length:Int):=by omega
   have hge:(0:Int) ≤ (k:Int) - 1:=by omega
   have hs:risK lo most l (k + 1) = (within a lo most && decide (b < a)):=by rw [hs]; simp [hz]
   (repeat ((first | refine Va ?_ | refine Vb ?_ | refine Vc ?_ | refine Vd ?_ | refine Ve ?_ | refine Vf ?_); (try simp only [go_sem,hP,hgd,ints,List.length_map,Int.toNat_natCast,Int.ofNat_lt,hi,Int.natCast_nonneg,hd1]); (repeat refine qJ ?_)))
   (refine AS_pu (within33 a lo most) ?_; simp only [go_sem,hP,hd1,hgd,hgp,wi,ei,hlt,hge,ints,List.length_map,Int.toNat_natCast,Int.ofNat_lt,hi,Int.natCast_nonneg]; (repeat refine qJ ?_); (repeat ((first | refine Va ?_ | refine Vb ?_ | refine Vc ?_ | refine Vd ?_ | refine Ve ?_ | refine Vf ?_); (try simp only [go_sem,hP,hd1,hgd,hgp,wi,ei,hlt,hge,ints,List.length_map,Int.toNat_natCast,Int.ofNat_lt,hi,Int.natCast_nonneg]); (repeat refine qJ ?_))))
   by_cases hin:(within a lo most && decide (b < a)) = true
   ·rw [hin] at hs
    rw [Bool.and_eq_true,decide_eq_true_eq] at hin
    (refine WV_cond rfl (fun h => ?_) (fun h => ?_))
    ·rw [hin.1] at h; simp at h; omega
    (repeat ((first | refine Va ?_ | refine Vb ?_ | refine Vc ?_ | refine Vd ?_ | refine Ve ?_ | refine Vf ?_); (try simp only [go_sem,hP,hw]); (repeat refine qJ ?_)))
    refine ⟨k + 1,⟨by omega,hs⟩,by omega,?_⟩
    (refine Sub_of (by simp only [go_sem]; ((repeat' (first | exact EnvLe_e0 _ _ | refine EnvLe_upd ?_ ?_)) <;> ((try simp only [upd_app,e0_app,o0_app,Nat.reduceEqDiff,reduceIte]); first | exact AWk.refl _ _ | exact AWk.int (by omega) | exact AWk.int (by rw [w64 (by omega) (by omega)]; omega) | exact AWk.grow rfl | exact AWk.nil _ | exact AWk.of (by simp [ints])))) (by simp only [go_sem]; exact ObjLe_au))
   ·have hin:(within a lo most && decide (b < a)) = false:=by simpa using hin
    rw [hin] at hs
    rw [hfail hs]
    (refine WV_cond rfl (fun h => ?_) (fun h => ?_))
    ·(repeat ((first | refine Va ?_ | refine Vb ?_ | refine Vc ?_ | refine Vd ?_ | refine Ve ?_ | refine Vf ?_); (try simp only [go_sem,hP]); (repeat refine qJ ?_)))
     (refine WV_ret ?_; simp only [thenQ,inQ,RetQ,RetOk,resAll,resA]; simp only [go_sem,tupA,AV.port,AV.portL,exists_eq_left']; (first | exact AVle.of rfl | refine AVle.of ?_ | skip))
    ·cases h1:within a lo most with
     | false => rw [h1] at h; simp at h
     | true => rw [h1] at h hin; simp at h hin; omega
 ·have hi:k = l.length:=by simp at h; omega
  subst hi
  unfold risB
  rw [hr]
  (repeat ((first | refine Va ?_ | refine Vb ?_ | refine Vc ?_ | refine Vd ?_ | refine Ve ?_ | refine Vf ?_); (try simp only [go_sem,hP,ints,List.length_map]); (repeat refine qJ ?_)))
  (refine WV_ret ?_; simp only [thenQ,inQ,RetQ,RetOk,resAll,resA]; simp only [go_sem,tupA,AV.port,AV.portL,exists_eq_left']; (first | exact AVle.of rfl | refine AVle.of ?_ | skip))
theorem check20 (w:Wh):FSpec Tryz.prog 19 [w.av] (iv (whE w)):=by
 refine FSpec_of c19 (Nat.le_refl _) (by decide) fun C hP hN hC hL => ?_; rw [init_st]
 simp only [ir19,Wh.av,Wh.avs]
 (repeat ((first | refine Va ?_ | refine Vb ?_ | refine Vc ?_ | refine Vd ?_ | refine Ve ?_ | refine Vf ?_); (try simp only [go_sem,hP,Wh.avs,ints]); (repeat refine qJ ?_)))
 (refine AS_pu (within33 w.ro 1 200) ?_; simp only [go_sem,hP,ints,List.length_map]; (repeat refine qJ ?_); (repeat ((first | refine Va ?_ | refine Vb ?_ | refine Vc ?_ | refine Vd ?_ | refine Ve ?_ | refine Vf ?_); (try simp only [go_sem,hP,ints,List.length_map]); (repeat refine qJ ?_))))
 have hbad:whB w = false → whE w = 10:=fun h => by unfold whE; rw [h]; rfl
 by_cases h1:within w.ro 1 200 = true
 case neg =>
  have h1:within w.ro 1 200 = false:=by simpa using h1
  rw [hbad (by unfold whB; rw [h1]; rfl)]
  simp only [go_sem,h1]
  (refine AG_skip ?_; simp only [go_sem,hP,List.length_map]; (repeat refine qJ ?_); (repeat ((first | refine Va ?_ | refine Vb ?_ | refine Vc ?_ | refine Vd ?_ | refine Ve ?_ | refine Vf ?_); (try simp only [go_sem,hP,List.length_map]); (repeat refine qJ ?_))))
  (refine AG_skip ?_; simp only [go_sem,hP,List.length_map]; (repeat refine qJ ?_); (repeat ((first | refine Va ?_ | refine Vb ?_ | refine Vc ?_ | refine Vd ?_ | refine Ve ?_ | refine Vf ?_); (try simp only [go_sem,hP,List.length_map]); (repeat refine qJ ?_))))
  (refine WV_cond rfl (fun h => ?_) (fun h => ?_))
  ·(repeat ((first | refine Va ?_ | refine Vb ?_ | refine Vc ?_ | refine Vd ?_ | refine Ve ?_ | refine Vf ?_); (try simp only [go_sem,hP]); (repeat refine qJ ?_)))
   (refine WV_ret ?_; simp only [thenQ,inQ,RetQ,RetOk,resAll,resA]; simp only [go_sem,tupA,AV.port,AV.portL,exists_eq_left']; (first | exact AVle.of rfl | refine AVle.of ?_ | skip))
  ·simp at h
 by_cases h2:(w.no.length:Int) ≤ 12
 case neg =>
  have d2:decide ((12:Int) < (w.no.length:Int)) = true:=by rw [decide_eq_true_eq]; omega
  rw [hbad (by unfold whB; rw [decide_eq_false h2]; simp)]
  simp only [go_sem,h1,d2]
  (refine AG_skip ?_; simp only [go_sem,hP,d2,List.length_map]; (repeat refine qJ ?_); (repeat ((first | refine Va ?_ | refine Vb ?_ | refine Vc ?_ | refine Vd ?_ | refine Ve ?_ | refine Vf ?_); (try simp only [go_sem,hP,d2,List.length_map]); (repeat refine qJ ?_))))
  (refine AG_skip ?_; simp only [go_sem,hP,d2,List.length_map]; (repeat refine qJ ?_); (repeat ((first | refine Va ?_ | refine Vb ?_ | refine Vc ?_ | refine Vd ?_ | refine Ve ?_ | refine Vf ?_); (try simp only [go_sem,hP,d2,List.length_map]); (repeat refine qJ ?_))))
  (refine WV_cond rfl (fun h => ?_) (fun h => ?_))
  ·(repeat ((first | refine Va ?_ | refine Vb ?_ | refine Vc ?_ | refine Vd ?_ | refine Ve ?_ | refine Vf ?_); (try simp only [go_sem,hP]); (repeat refine qJ ?_)))
   (refine WV_ret ?_; simp only [thenQ,inQ,RetQ,RetOk,resAll,resA]; simp only [go_sem,tupA,AV.port,AV.portL,exists_eq_left']; (first | exact AVle.of rfl | refine AVle.of ?_ | skip))
  ·simp at h
 have d2:decide ((12:Int) < (w.no.length:Int)) = false:=by rw [decide_eq_false_iff_not]; omega
 simp only [go_sem,h1,d2]
 (refine AG_pu (fun hG => rising34 w.no 1 w.ro) ?_; simp only [go_sem,hP,ints,h1,d2,List.length_map]; (repeat refine qJ ?_); (repeat ((first | refine Va ?_ | refine Vb ?_ | refine Vc ?_ | refine Vd ?_ | refine Ve ?_ | refine Vf ?_); (try simp only [go_sem,hP,ints,h1,d2,List.length_map]); (repeat refine qJ ?_))))
 by_cases h3:risB 1 w.ro w.no = true
 case neg =>
  have h3:risB 1 w.ro w.no = false:=by simpa using h3
  rw [hbad (by unfold whB; rw [h3]; simp)]
  simp only [go_sem,h3]
  (refine AG_skip ?_; simp only [go_sem,hP,List.length_map]; (repeat refine qJ ?_); (repeat ((first | refine Va ?_ | refine Vb ?_ | refine Vc ?_ | refine Vd ?_ | refine Ve ?_ | refine Vf ?_); (try simp only [go_sem,hP,List.length_map]); (repeat refine qJ ?_))))
  (refine WV_cond rfl (fun h => ?_) (fun h => ?_))
  ·(repeat ((first | refine Va ?_ | refine Vb ?_ | refine Vc ?_ | refine Vd ?_ | refine Ve ?_ | refine Vf ?_); (try simp only [go_sem,hP]); (repeat refine qJ ?_)))
   (refine WV_ret ?_; simp only [thenQ,inQ,RetQ,RetOk,resAll,resA]; simp only [go_sem,tupA,AV.port,AV.portL,exists_eq_left']; (first | exact AVle.of rfl | refine AVle.of ?_ | skip))
  ·simp at h
 by_cases h4:(w.co.length:Int) ≤ 4
 case neg =>
  have d4:decide ((4:Int) < (w.co.length:Int)) = true:=by rw [decide_eq_true_eq]; omega
  rw [hbad (by unfold whB; rw [decide_eq_false h4]; simp)]
  simp only [go_sem,h3,d4]
  (refine AG_skip ?_; simp only [go_sem,hP,d4,List.length_map]; (repeat refine qJ ?_); (repeat ((first | refine Va ?_ | refine Vb ?_ | refine Vc ?_ | refine Vd ?_ | refine Ve ?_ | refine Vf ?_); (try simp only [go_sem,hP,d4,List.length_map]); (repeat refine qJ ?_))))
  (refine WV_cond rfl (fun h => ?_) (fun h => ?_))
  ·(repeat ((first | refine Va ?_ | refine Vb ?_ | refine Vc ?_ | refine Vd ?_ | refine Ve ?_ | refine Vf ?_); (try simp only [go_sem,hP]); (repeat refine qJ ?_)))
   (refine WV_ret ?_; simp only [thenQ,inQ,RetQ,RetOk,resAll,resA]; simp only [go_sem,tupA,AV.port,AV.portL,exists_eq_left']; (first | exact AVle.of rfl | refine AVle.of ?_ | skip))
  ·simp at h
 have d4:decide ((4:Int) < (w.co.length:Int)) = false:=by rw [decide_eq_false_iff_not]; omega
 simp only [go_sem,h3,d4]
 (refine AG_pu (fun hG => rising34 w.co 1 100) ?_; simp only [go_sem,hP,ints,h3,d4,List.length_map]; (repeat refine qJ ?_); (repeat ((first | refine Va ?_ | refine Vb ?_ | refine Vc ?_ | refine Vd ?_ | refine Ve ?_ | refine Vf ?_); (try simp only [go_sem,hP,ints,h3,d4,List.length_map]); (repeat refine qJ ?_))))
 by_cases h5:risB 1 100 w.co = true
 ·have:whE w = 0:=by unfold whE whB; rw [h1,h3,h5,decide_eq_true h2,decide_eq_true h4]; rfl
  rw [this]
  (refine WV_cond rfl (fun h => ?_) (fun h => ?_))
  ·simp [h5] at h
  ·(repeat ((first | refine Va ?_ | refine Vb ?_ | refine Vc ?_ | refine Vd ?_ | refine Ve ?_ | refine Vf ?_); (try simp only [go_sem,hP]); (repeat refine qJ ?_)))
   (refine WV_ret ?_; simp only [thenQ,inQ,RetQ,RetOk,resAll,resA]; simp only [go_sem,tupA,AV.port,AV.portL,exists_eq_left']; (first | exact AVle.of rfl | refine AVle.of ?_ | skip))
 ·have h5:risB 1 100 w.co = false:=by simpa using h5
  rw [hbad (by unfold whB; rw [h5]; simp)]
  (refine WV_cond rfl (fun h => ?_) (fun h => ?_))
  ·(repeat ((first | refine Va ?_ | refine Vb ?_ | refine Vc ?_ | refine Vd ?_ | refine Ve ?_ | refine Vf ?_); (try simp only [go_sem,hP]); (repeat refine qJ ?_)))
   (refine WV_ret ?_; simp only [thenQ,inQ,RetQ,RetOk,resAll,resA]; simp only [go_sem,tupA,AV.port,AV.portL,exists_eq_left']; (first | exact AVle.of rfl | refine AVle.of ?_ | skip))
  ·simp [h5] at h
theorem total18 {l:List Int} (hl:l.length ≤ 100) (hn:∀ n ∈ l,0 ≤ n ∧ n ≤ 100):FSpec Tryz.prog 16 [.c (ints l)] (iv l.sum):=by
 refine FSpec_of c16 (Nat.le_refl _) (by decide) fun C hP hN hC hL => ?_; rw [init_st]
 simp only [ir16]
 (repeat ((first | refine Va ?_ | refine Vb ?_ | refine Vc ?_ | refine Vd ?_ | refine Ve ?_ | refine Vf ?_); (try simp only [go_sem,hP,ints,List.length_map]); (repeat refine qJ ?_)))
 refine WV_loopK K16_1 [] (fun k:Nat => k ≤ l.length ∧ 0 ≤ (l.take k).sum ∧ (l.take k).sum ≤ 100 * k) (fun k => l.length - k) (fun k => [(4,iv k),(3,iv (l.take k).sum)]) (fun _ => []) 0 ⟨by omega,by simp,by simp⟩ ?_ ?_
 ·exact Sub_au
 ·rintro k ⟨hk,hs1,hs2⟩
  (repeat ((first | refine Va ?_ | refine Vb ?_ | refine Vc ?_ | refine Vd ?_ | refine Ve ?_ | refine Vf ?_); (try simp only [go_sem,hP,ints,List.length_map]); (repeat refine qJ ?_)))
  (refine WV_cond rfl (fun h => ?_) (fun h => ?_))
  ·have hi:k < l.length:=by simpa using h
   have g1:=ints_get hi
   have e1:=getD_in hn hi
   have hs:(l.take (k + 1)).sum = (l.take k).sum + l.getD k 0:=by rw [List.take_succ_eq_append_getElem hi,List.sum_append,getD_at hi]; simp
   generalize l.getD k 0 = x at *
   generalize (l.take k).sum = y at *
   have w1:=w64 (n:=(k:Int) + 1) (by omega) (by omega)
   have w2:=w64 (n:=y + x) (by omega) (by omega)
   (repeat ((first | refine Va ?_ | refine Vb ?_ | refine Vc ?_ | refine Vd ?_ | refine Ve ?_ | refine Vf ?_); (try simp only [go_sem,hP,g1,ints,List.length_map,Int.toNat_natCast,Int.ofNat_lt,hi,Int.natCast_nonneg,w1,w2]); (repeat refine qJ ?_)))
   refine ⟨k + 1,⟨by omega,by omega,by omega⟩,by omega,?_⟩
   rw [hs]
   (refine Sub_of (by simp only [go_sem]; ((repeat' (first | exact EnvLe_e0 _ _ | refine EnvLe_upd ?_ ?_)) <;> ((try simp only [upd_app,e0_app,o0_app,Nat.reduceEqDiff,reduceIte]); first | exact AWk.refl _ _ | exact AWk.int (by omega) | exact AWk.int (by rw [w64 (by omega) (by omega)]; omega) | exact AWk.grow rfl | exact AWk.nil _ | exact AWk.of (by simp [ints])))) (by simp only [go_sem]; exact ObjLe_au))
  ·have hi:k = l.length:=by simp at h; omega
   subst hi
   rw [List.take_length]
   (repeat ((first | refine Va ?_ | refine Vb ?_ | refine Vc ?_ | refine Vd ?_ | refine Ve ?_ | refine Vf ?_); (try simp only [go_sem,hP]); (repeat refine qJ ?_)))
   (refine WV_ret ?_; simp only [thenQ,inQ,RetQ,RetOk,resAll,resA]; simp only [go_sem,tupA,AV.port,AV.portL,exists_eq_left']; (first | exact AVle.of rfl | refine AVle.of ?_ | skip))
theorem both23 {a b:List Int} (hl:a.length = b.length) (h5:a.length ≤ 5) (ha:∀ n ∈ a,0 ≤ n ∧ n ≤ 12) (hb:∀ n ∈ b,0 ≤ n ∧ n ≤ 12):FSpec Tryz.prog 22 [.c (ints a),.c (ints b)] (.c (ints (addL a b))):=by
 have hmax:maxLen = 9223372036854775807:=rfl
 have hal:(addL a b).length = a.length:=by simp [addL]; omega
 refine FSpec_of c22 (Nat.le_refl _) (by decide) fun C hP hN hC hL => ?_; rw [init_st]
 simp only [ir22]
 (repeat ((first | refine Va ?_ | refine Vb ?_ | refine Vc ?_ | refine Vd ?_ | refine Ve ?_ | refine Vf ?_); (try simp only [go_sem,hP,ints,List.length_map]); (repeat refine qJ ?_)))
 refine WV_nilslot 5 24 3 1 (by decide) (by decide) rfl rfl ?_
 simp only [go_sem]
 refine WV_loopK K22_1 [24] (fun k:Nat => k ≤ a.length) (fun k => a.length - k) (fun k => [(6,iv k),(5,.gr 24)]) (fun k => [(24,.grow 3 1 (i1s ((addL a b).take k)))]) 0 (by omega) ?_ ?_
 ·(refine Sub_of (by simp only [go_sem]; ((repeat' (first | exact EnvLe_e0 _ _ | refine EnvLe_upd ?_ ?_)) <;> ((try simp only [upd_app,e0_app,o0_app,Nat.reduceEqDiff,reduceIte]); first | exact AWk.refl _ _ | exact AWk.int (by omega) | exact AWk.int (by rw [w64 (by omega) (by omega)]; omega) | exact AWk.grow rfl | exact AWk.nil _ | exact AWk.of (by simp [i1s])))) (by simp only [go_sem]; exact ObjLe_au))
 ·intro k hk
  (repeat ((first | refine Va ?_ | refine Vb ?_ | refine Vc ?_ | refine Vd ?_ | refine Ve ?_ | refine Vf ?_); (try simp only [go_sem,hP,ints,List.length_map]); (repeat refine qJ ?_)))
  (refine WV_cond rfl (fun h => ?_) (fun h => ?_))
  ·have hi:k < a.length:=by simpa using h
   have hi2:k < b.length:=by omega
   have g1:=ints_get hi
   have g2:=ints_get hi2
   have e1:=getD_in ha hi
   have e2:=getD_in hb hi2
   have hs:i1s ((addL a b).take (k + 1)) = i1s ((addL a b).take k) ++ [[.int .i64 (a.getD k 0 + b.getD k 0)]]:=by
    rw [List.take_succ_eq_append_getElem (by omega)]
    simp only [i1s,List.map_append,List.map_cons,List.map_nil,addL,List.getElem_zipWith,getD_at hi,getD_at hi2]
   have hlk:(i1s ((addL a b).take k)).length = k:=by simp [i1s,hal]; omega
   have hon:((i1s ((addL a b).take k)).all fun e => e.length == 1) = true:=by rw [List.all_eq_true]; intro e he; obtain ⟨n,_,rfl⟩:=List.mem_map.1 he; rfl
   generalize i1s ((addL a b).take k) = L at hs hlk hon
   generalize a.getD k 0 = x at *
   generalize b.getD k 0 = y at *
   have w1:=w64 (n:=(k:Int) + 1) (by omega) (by omega)
   have w2:=w64 (n:=x + y) (by omega) (by omega)
   (repeat ((first | refine Va ?_ | refine Vb ?_ | refine Vc ?_ | refine Vd ?_ | refine Ve ?_ | refine Vf ?_); (try simp only [go_sem,hP,g1,g2,ints,List.length_map,Int.toNat_natCast,Int.ofNat_lt,hi,hi2,Int.natCast_nonneg,w1,w2,hlk,hon]); (repeat refine qJ ?_)))
   refine ⟨k + 1,by omega,by omega,?_⟩
   rw [hs]
   exact Sub_au
  ·have hi:k = a.length:=by simp at h; omega
   subst hi
   rw [List.take_of_length_le (by omega)]
   (repeat ((first | refine Va ?_ | refine Vb ?_ | refine Vc ?_ | refine Vd ?_ | refine Ve ?_ | refine Vf ?_); (try simp only [go_sem,hP]); (repeat refine qJ ?_)))
   (refine WV_ret ?_; simp only [thenQ,inQ,RetQ,RetOk,resAll,resA]; simp only [go_sem,tupA,AV.port,AV.portL,exists_eq_left']; (first | exact AVle.of rfl | refine AVle.of ?_ | skip))
end Go.Proofs.YtbclmfjibpppfaaGreat

namespace Go.Proofs.YtbclmfjibpppfaaGreat
open Go Go.V
abbrev o20_0:List Ins:=[JS 2 (.box 3 (.t 0)),JS 4 (JB false)]
abbrev o20_1:List Ins:=[JS 7 (Jm 1),JS 8 (Jn 7),JS 9 (Jf 2 2),JS 10 (Jl 9),JS 11 (Jn 10),JS 12 (Jb .neq 8 11)]
abbrev o20_2:List Ins:=[JS 4 (JB false)]
abbrev v20_3:VC:=(.seq (.ops o20_2) .ret)
abbrev v20_4:VC:=(.cond (.t 12) v20_3 .skip)
abbrev o20_5:List Ins:=[JS 5 (Ji 0)]
abbrev o20_6:List Ins:=[JS 6 (Ji 0)]
abbrev o20_7:List Ins:=[JS 13 (Jm 6),JS 14 (Jm 1),JS 15 (Jn 14),JS 16 (Jb .lss 13 15)]
abbrev v20_8:VC:=(.cond (.t 16) .skip (.exit 0))
abbrev o20_9:List Ins:=[JS 19 (Jm 1),JS 20 (Jm 6),JS 21 (Ja 1 19 20),JS 22 (Jl 21),JS 23 (Jc 35 [.t 22,(.k (Jz 0)),(.k (Jz 12))]),JS 24 (.un .not (.t 23))]
abbrev o20_10:List Ins:=[JS 4 (JB false)]
abbrev v20_11:VC:=(.seq (.ops o20_10) .ret)
abbrev v20_12:VC:=(.cond (.t 24) v20_11 .skip)
abbrev o20_13:List Ins:=[JS 25 (Jm 5),JS 26 (Jm 1),JS 27 (Jm 6),JS 28 (Ja 1 26 27),JS 29 (Jl 28),JS 30 (Jb .add 25 29),JS 5 (Jm 30)]
abbrev v20_14:VC:=(.seq (.seq (.ops o20_9) v20_12) (.ops o20_13))
abbrev o20_15:List Ins:=[JS 17 (Jm 6),JS 18 (Jk .add 17 1),JS 6 (Jm 18)]
abbrev v20_16:VC:=(.seq (.block 1 v20_14) (.ops o20_15))
abbrev v20_17:VC:=(.seq (.seq (.ops o20_7) v20_8) v20_16)
-- K20_1: changed and kept: [6,5]
abbrev K20_1:List Nat:=[1]
abbrev v20_18:VC:=(.loop v20_17)
abbrev v20_19:VC:=(.block 0 v20_18)
abbrev o20_20:List Ins:=[JS 31 (Jm 5),JS 32 (Jk .leq 31 12),JS 4 (Jm 32)]
abbrev v20_21:VC:=(.seq (.ops o20_20) .ret)
abbrev v20_22:VC:=(.seq (.seq (.ops o20_6) v20_19) v20_21)
abbrev v20_23:VC:=(.seq (.ops o20_5) v20_22)
abbrev v20_24:VC:=(.seq (.seq (.ops o20_1) v20_4) v20_23)
def ir20:FC:=⟨2,33,[.t 4],(.seq (.ops o20_0) v20_24)⟩
abbrev o15_0:List Ins:=[JS 1 (.box 8 (.t 0)),JS 2 (.mv (.k J0))]
abbrev o15_1:List Ins:=[JS 3 (Jf 3 1),JS 4 (Jl 3),JS 5 (Jf 5 1),JS 6 (Jl 5),JS 7 (Jc 22 [.t 4,.t 6]),JS 2 (Jm 7)]
abbrev v15_2:VC:=(.seq (.ops o15_1) .ret)
def ir15:FC:=⟨1,8,[.t 2],(.seq (.ops o15_0) v15_2)⟩
abbrev o24_0:List Ins:=[JS 1 (.box 3 (.t 0)),JS 2 (.alloc [Jz 0,J0,J0])]
abbrev t24_1:OT:=(.cons (JF 3 (Jf 0 1)) (.cons (JF 4 (Jl 3)) (.cons (JF 6 (Jf 1 1)) (.cons (JF 7 (Jl 6)) (.cons (JF 10 (Jf 2 1)) (.cons (JF 11 (Jl 10)) (.br [(.cons (JF 5 (.bsl 3 1 [])) (.br [(.cons (JF 8 (.app 3 1 8 (.t 5) (.t 7))) (.cons (JF 9 (.bsl 3 1 [])) (.cons (JF 12 (.app 3 1 8 (.t 9) (.t 11))) (.cons (JS 13 (.bld [Jz 0,J0,J0] [(0,1,(.t 4)),(1,1,(.t 8)),(2,1,(.t 12))])) (.cons (JN (Js 3 2 13)) .nil))))),(.cons (JF 9 (.bsl 3 1 [])) (.cons (JF 8 (.app 3 1 8 (.t 5) (.t 7))) (.cons (JF 12 (.app 3 1 8 (.t 9) (.t 11))) (.cons (JS 13 (.bld [Jz 0,J0,J0] [(0,1,(.t 4)),(1,1,(.t 8)),(2,1,(.t 12))])) (.cons (JN (Js 3 2 13)) .nil)))))])),(.cons (JF 9 (.bsl 3 1 [])) (.cons (JF 5 (.bsl 3 1 [])) (.cons (JF 8 (.app 3 1 8 (.t 5) (.t 7))) (.cons (JF 12 (.app 3 1 8 (.t 9) (.t 11))) (.cons (JS 13 (.bld [Jz 0,J0,J0] [(0,1,(.t 4)),(1,1,(.t 8)),(2,1,(.t 12))])) (.cons (JN (Js 3 2 13)) .nil))))))])))))))
abbrev v24_2:VC:=(.seq (.drw t24_1) .ret)
def ir24:FC:=⟨1,14,[.cell 2 false 3],(.seq (.ops o24_0) v24_2)⟩
abbrev o9_0:List Ins:=[JS 1 (.box 8 (.t 0)),JS 2 (.alloc [Jz 0,J0,J0,J0,J0,J0,Jz 0,Jz 0])]
abbrev o9_1:List Ins:=[JS 4 (JL 8 1),JS 3 (.alloc [Jz 0,J0,J0,J0,J0,J0,Jz 0,Jz 0]),JN (Js 8 3 4)]
abbrev o9_2:List Ins:=[JS 5 (Jf 0 1),JS 6 (JL 3 5),JS 7 (Jc 24 [.t 6]),JS 8 (Jf 0 3),JN (Js 3 8 7)]
abbrev t9_3:OT:=(.cons (JF 10 (Jf 3 1)) (.cons (JF 11 (Jl 10)) (.cons (JF 14 (Jf 4 1)) (.cons (JF 15 (Jl 14)) (.cons (JF 18 (Jf 5 1)) (.cons (JF 19 (Jl 18)) (.br [(.cons (JF 9 (.bsl 3 1 [])) (.br [(.cons (JF 12 (.app 3 1 8 (.t 9) (.t 11))) (.cons (JF 21 (Jf 3 3)) (.br [(.cons (JF 13 (.bsl 3 1 [])) (.br [(.cons (JF 16 (.app 3 1 8 (.t 13) (.t 15))) (.cons (JF 17 (.bsl 3 1 [])) (.cons (JF 20 (.app 3 1 8 (.t 17) (.t 19))) (.cons (JN (Js 1 21 12)) (.cons (JS 22 (Jf 4 3)) (.cons (JN (Js 1 22 16)) (.cons (JS 23 (Jf 5 3)) (.cons (JN (Js 1 23 20)) .nil)))))))),(.cons (JF 17 (.bsl 3 1 [])) (.cons (JF 16 (.app 3 1 8 (.t 13) (.t 15))) (.cons (JF 20 (.app 3 1 8 (.t 17) (.t 19))) (.cons (JN (Js 1 21 12)) (.cons (JS 22 (Jf 4 3)) (.cons (JN (Js 1 22 16)) (.cons (JS 23 (Jf 5 3)) (.cons (JN (Js 1 23 20)) .nil))))))))])),(.cons (JF 17 (.bsl 3 1 [])) (.cons (JF 13 (.bsl 3 1 [])) (.cons (JF 16 (.app 3 1 8 (.t 13) (.t 15))) (.cons (JF 20 (.app 3 1 8 (.t 17) (.t 19))) (.cons (JN (Js 1 21 12)) (.cons (JS 22 (Jf 4 3)) (.cons (JN (Js 1 22 16)) (.cons (JS 23 (Jf 5 3)) (.cons (JN (Js 1 23 20)) .nil)))))))))]))),(.cons (JF 13 (.bsl 3 1 [])) (.br [(.cons (JF 12 (.app 3 1 8 (.t 9) (.t 11))) (.cons (JF 21 (Jf 3 3)) (.br [(.cons (JF 16 (.app 3 1 8 (.t 13) (.t 15))) (.cons (JF 17 (.bsl 3 1 [])) (.cons (JF 20 (.app 3 1 8 (.t 17) (.t 19))) (.cons (JN (Js 1 21 12)) (.cons (JS 22 (Jf 4 3)) (.cons (JN (Js 1 22 16)) (.cons (JS 23 (Jf 5 3)) (.cons (JN (Js 1 23 20)) .nil)))))))),(.cons (JF 17 (.bsl 3 1 [])) (.cons (JF 16 (.app 3 1 8 (.t 13) (.t 15))) (.cons (JF 20 (.app 3 1 8 (.t 17) (.t 19))) (.cons (JN (Js 1 21 12)) (.cons (JS 22 (Jf 4 3)) (.cons (JN (Js 1 22 16)) (.cons (JS 23 (Jf 5 3)) (.cons (JN (Js 1 23 20)) .nil))))))))]))),(.cons (JF 17 (.bsl 3 1 [])) (.cons (JF 12 (.app 3 1 8 (.t 9) (.t 11))) (.cons (JF 16 (.app 3 1 8 (.t 13) (.t 15))) (.cons (JF 20 (.app 3 1 8 (.t 17) (.t 19))) (.cons (JF 21 (Jf 3 3)) (.cons (JN (Js 1 21 12)) (.cons (JS 22 (Jf 4 3)) (.cons (JN (Js 1 22 16)) (.cons (JS 23 (Jf 5 3)) (.cons (JN (Js 1 23 20)) .nil))))))))))])),(.cons (JF 17 (.bsl 3 1 [])) (.br [(.cons (JF 12 (.app 3 1 8 (.t 9) (.t 11))) (.cons (JF 13 (.bsl 3 1 [])) (.cons (JF 16 (.app 3 1 8 (.t 13) (.t 15))) (.cons (JF 20 (.app 3 1 8 (.t 17) (.t 19))) (.cons (JF 21 (Jf 3 3)) (.cons (JN (Js 1 21 12)) (.cons (JS 22 (Jf 4 3)) (.cons (JN (Js 1 22 16)) (.cons (JS 23 (Jf 5 3)) (.cons (JN (Js 1 23 20)) .nil)))))))))),(.cons (JF 13 (.bsl 3 1 [])) (.cons (JF 12 (.app 3 1 8 (.t 9) (.t 11))) (.cons (JF 16 (.app 3 1 8 (.t 13) (.t 15))) (.cons (JF 20 (.app 3 1 8 (.t 17) (.t 19))) (.cons (JF 21 (Jf 3 3)) (.cons (JN (Js 1 21 12)) (.cons (JS 22 (Jf 4 3)) (.cons (JN (Js 1 22 16)) (.cons (JS 23 (Jf 5 3)) (.cons (JN (Js 1 23 20)) .nil))))))))))]))])),(.cons (JF 13 (.bsl 3 1 [])) (.br [(.cons (JF 9 (.bsl 3 1 [])) (.br [(.cons (JF 12 (.app 3 1 8 (.t 9) (.t 11))) (.cons (JF 21 (Jf 3 3)) (.br [(.cons (JF 16 (.app 3 1 8 (.t 13) (.t 15))) (.cons (JF 17 (.bsl 3 1 [])) (.cons (JF 20 (.app 3 1 8 (.t 17) (.t 19))) (.cons (JN (Js 1 21 12)) (.cons (JS 22 (Jf 4 3)) (.cons (JN (Js 1 22 16)) (.cons (JS 23 (Jf 5 3)) (.cons (JN (Js 1 23 20)) .nil)))))))),(.cons (JF 17 (.bsl 3 1 [])) (.cons (JF 16 (.app 3 1 8 (.t 13) (.t 15))) (.cons (JF 20 (.app 3 1 8 (.t 17) (.t 19))) (.cons (JN (Js 1 21 12)) (.cons (JS 22 (Jf 4 3)) (.cons (JN (Js 1 22 16)) (.cons (JS 23 (Jf 5 3)) (.cons (JN (Js 1 23 20)) .nil))))))))]))),(.cons (JF 17 (.bsl 3 1 [])) (.cons (JF 12 (.app 3 1 8 (.t 9) (.t 11))) (.cons (JF 16 (.app 3 1 8 (.t 13) (.t 15))) (.cons (JF 20 (.app 3 1 8 (.t 17) (.t 19))) (.cons (JF 21 (Jf 3 3)) (.cons (JN (Js 1 21 12)) (.cons (JS 22 (Jf 4 3)) (.cons (JN (Js 1 22 16)) (.cons (JS 23 (Jf 5 3)) (.cons (JN (Js 1 23 20)) .nil))))))))))])),(.cons (JF 17 (.bsl 3 1 [])) (.cons (JF 9 (.bsl 3 1 [])) (.cons (JF 12 (.app 3 1 8 (.t 9) (.t 11))) (.cons (JF 16 (.app 3 1 8 (.t 13) (.t 15))) (.cons (JF 20 (.app 3 1 8 (.t 17) (.t 19))) (.cons (JF 21 (Jf 3 3)) (.cons (JN (Js 1 21 12)) (.cons (JS 22 (Jf 4 3)) (.cons (JN (Js 1 22 16)) (.cons (JS 23 (Jf 5 3)) (.cons (JN (Js 1 23 20)) .nil)))))))))))])),(.cons (JF 17 (.bsl 3 1 [])) (.br [(.cons (JF 9 (.bsl 3 1 [])) (.br [(.cons (JF 12 (.app 3 1 8 (.t 9) (.t 11))) (.cons (JF 13 (.bsl 3 1 [])) (.cons (JF 16 (.app 3 1 8 (.t 13) (.t 15))) (.cons (JF 20 (.app 3 1 8 (.t 17) (.t 19))) (.cons (JF 21 (Jf 3 3)) (.cons (JN (Js 1 21 12)) (.cons (JS 22 (Jf 4 3)) (.cons (JN (Js 1 22 16)) (.cons (JS 23 (Jf 5 3)) (.cons (JN (Js 1 23 20)) .nil)))))))))),(.cons (JF 13 (.bsl 3 1 [])) (.cons (JF 12 (.app 3 1 8 (.t 9) (.t 11))) (.cons (JF 16 (.app 3 1 8 (.t 13) (.t 15))) (.cons (JF 20 (.app 3 1 8 (.t 17) (.t 19))) (.cons (JF 21 (Jf 3 3)) (.cons (JN (Js 1 21 12)) (.cons (JS 22 (Jf 4 3)) (.cons (JN (Js 1 22 16)) (.cons (JS 23 (Jf 5 3)) (.cons (JN (Js 1 23 20)) .nil))))))))))])),(.cons (JF 13 (.bsl 3 1 [])) (.cons (JF 9 (.bsl 3 1 [])) (.cons (JF 12 (.app 3 1 8 (.t 9) (.t 11))) (.cons (JF 16 (.app 3 1 8 (.t 13) (.t 15))) (.cons (JF 20 (.app 3 1 8 (.t 17) (.t 19))) (.cons (JF 21 (Jf 3 3)) (.cons (JN (Js 1 21 12)) (.cons (JS 22 (Jf 4 3)) (.cons (JN (Js 1 22 16)) (.cons (JS 23 (Jf 5 3)) (.cons (JN (Js 1 23 20)) .nil)))))))))))]))])))))))
abbrev o9_4:List Ins:=[JS 24 (JL 8 3),JN (Js 8 2 24)]
abbrev v9_5:VC:=(.seq (.ops o9_4) .ret)
abbrev v9_6:VC:=(.seq (.drw t9_3) v9_5)
abbrev v9_7:VC:=(.seq (.ops o9_2) v9_6)
abbrev v9_8:VC:=(.seq (.ops o9_1) v9_7)
def ir9:FC:=⟨1,25,[.cell 2 false 8],(.seq (.ops o9_0) v9_8)⟩
theorem c20:compM Tryz.prog [] 20 = some ir20:=by kernel_rfl
theorem c15:compM Tryz.prog [] 15 = some ir15:=by kernel_rfl
theorem c24:compM Tryz.prog [] 24 = some ir24:=by kernel_rfl
theorem c9:compM Tryz.prog [] 9 = some ir9:=by kernel_rfl
attribute [local go_sem] Nat.reduceEqDiff Nat.reduceAdd Nat.reduceMul reduceIte Nat.reduceLeDiff Nat.reduceLT Nat.reduceBEq reduceCtorEq
def purB (w:Wh) (l:List Int):Bool:=lstB w l && decide (l.sum ≤ 12)
theorem purse21 {w:Wh} (hw:WhOk w) (l:List Int):FSpec Tryz.prog 20 [w.av,.c (ints l)] (.c (.bool (purB w l))):=by
 have hcl:=hw.cl
 refine FSpec_of c20 (Nat.le_refl _) (by decide) fun C hP hN hC hL => ?_; rw [init_st]
 simp only [ir20,Wh.av,Wh.avs]
 have hne:((l.length:Int) != (w.co.length:Int)) = !(l.length == w.co.length):=ibne _ _
 (repeat ((first | refine Va ?_ | refine Vb ?_ | refine Vc ?_ | refine Vd ?_ | refine Ve ?_ | refine Vf ?_); (try simp only [go_sem,hP,Wh.avs,ints,List.length_map,hne]); (repeat refine qJ ?_)))
 by_cases hlen:l.length = w.co.length
 case neg =>
  have hb2:(l.length == w.co.length) = false:=by simpa using hlen
  have e1:purB w l = false:=by unfold purB lstB; rw [hb2]; rfl
  rw [e1]
  (refine WV_cond rfl (fun h => ?_) (fun h => ?_))
  ·(repeat ((first | refine Va ?_ | refine Vb ?_ | refine Vc ?_ | refine Vd ?_ | refine Ve ?_ | refine Vf ?_); (try simp only [go_sem,hP]); (repeat refine qJ ?_)))
   (refine WV_ret ?_; simp only [thenQ,inQ,RetQ,RetOk,resAll,resA]; simp only [go_sem,tupA,AV.port,AV.portL,exists_eq_left']; (first | exact AVle.of rfl | refine AVle.of ?_ | skip))
  ·simp [hb2] at h
 have hb2:(l.length == w.co.length) = true:=by simpa using hlen
 (refine WV_cond rfl (fun h => ?_) (fun h => ?_))
 ·simp [hb2] at h
 have hlst:lstB w l = l.all fun n => within n 0 12:=by
  unfold lstB
  rw [hb2,Bool.not_true,Bool.false_or,List.not_any_eq_all_not]
  congr 1; funext n; simp [put12]
 (repeat ((first | refine Va ?_ | refine Vb ?_ | refine Vc ?_ | refine Vd ?_ | refine Ve ?_ | refine Vf ?_); (try simp only [go_sem,hP,ints,List.length_map]); (repeat refine qJ ?_)))
 refine WV_loopK K20_1 [] (fun k:Nat => k ≤ l.length ∧ (∀ n ∈ l.take k,within n 0 12 = true) ∧ 0 ≤ (l.take k).sum ∧ (l.take k).sum ≤ 12 * k) (fun k => l.length - k) (fun k => [(6,iv k),(5,iv (l.take k).sum)]) (fun _ => []) 0 ⟨by omega,by simp,by simp,by simp⟩ ?_ ?_
 ·exact Sub_au
 ·rintro k ⟨hk,hin,hs1,hs2⟩
  (repeat ((first | refine Va ?_ | refine Vb ?_ | refine Vc ?_ | refine Vd ?_ | refine Ve ?_ | refine Vf ?_); (try simp only [go_sem,hP,ints,List.length_map]); (repeat refine qJ ?_)))
  (refine WV_cond rfl (fun h => ?_) (fun h => ?_))
  ·have hi:k < l.length:=by simpa using h
   have g1:=ints_get hi
   have hm:l.getD k 0 ∈ l:=by rw [getD_at hi]; exact List.getElem_mem _
   have hs:(l.take (k + 1)).sum = (l.take k).sum + l.getD k 0:=by rw [List.take_succ_eq_append_getElem hi,List.sum_append,getD_at hi]; simp
   have ht:∀ n ∈ l.take (k + 1),n ∈ l.take k ∨ n = l.getD k 0:=fun n hn => by
    rw [List.take_succ_eq_append_getElem hi,List.mem_append,List.mem_singleton] at hn
    rw [getD_at hi]; exact hn
   generalize l.getD k 0 = x at *
   generalize (l.take k).sum = y at *
   (repeat ((first | refine Va ?_ | refine Vb ?_ | refine Vc ?_ | refine Vd ?_ | refine Ve ?_ | refine Vf ?_); (try simp only [go_sem,hP,g1,ints,List.length_map,Int.toNat_natCast,Int.ofNat_lt,hi,Int.natCast_nonneg]); (repeat refine qJ ?_)))
   (refine AS_pu (within33 x 0 12) ?_; simp only [go_sem,hP,ints]; (repeat refine qJ ?_); (repeat ((first | refine Va ?_ | refine Vb ?_ | refine Vc ?_ | refine Vd ?_ | refine Ve ?_ | refine Vf ?_); (try simp only [go_sem,hP,ints]); (repeat refine qJ ?_))))
   by_cases hx:within x 0 12 = true
   ·have hx2:0 ≤ x ∧ x ≤ 12:=by simpa [within] using hx
    have w1:=w64 (n:=(k:Int) + 1) (by omega) (by omega)
    have w2:=w64 (n:=y + x) (by omega) (by omega)
    (refine WV_cond rfl (fun h => ?_) (fun h => ?_))
    ·simp [hx] at h
    (repeat ((first | refine Va ?_ | refine Vb ?_ | refine Vc ?_ | refine Vd ?_ | refine Ve ?_ | refine Vf ?_); (try simp only [go_sem,hP,g1,ints,List.length_map,Int.toNat_natCast,Int.ofNat_lt,hi,Int.natCast_nonneg,w1,w2]); (repeat refine qJ ?_)))
    refine ⟨k + 1,⟨by omega,fun n hn => ?_,by omega,by omega⟩,by omega,?_⟩
    ·rcases ht n hn with h1 | rfl
     ·exact hin n h1
     ·exact hx
    ·rw [hs]
     (refine Sub_of (by simp only [go_sem]; ((repeat' (first | exact EnvLe_e0 _ _ | refine EnvLe_upd ?_ ?_)) <;> ((try simp only [upd_app,e0_app,o0_app,Nat.reduceEqDiff,reduceIte]); first | exact AWk.refl _ _ | exact AWk.int (by omega) | exact AWk.int (by rw [w64 (by omega) (by omega)]; omega) | exact AWk.grow rfl | exact AWk.nil _ | exact AWk.of (by simp [ints])))) (by simp only [go_sem]; exact ObjLe_au))
   ·have hx:within x 0 12 = false:=by simpa using hx
    have e1:purB w l = false:=by
     unfold purB
     rw [hlst,List.all_eq_false.2 ⟨x,hm,by simp [hx]⟩]; rfl
    rw [e1]
    (refine WV_cond rfl (fun h => ?_) (fun h => ?_))
    ·(repeat ((first | refine Va ?_ | refine Vb ?_ | refine Vc ?_ | refine Vd ?_ | refine Ve ?_ | refine Vf ?_); (try simp only [go_sem,hP]); (repeat refine qJ ?_)))
     (refine WV_ret ?_; simp only [thenQ,inQ,RetQ,RetOk,resAll,resA]; simp only [go_sem,tupA,AV.port,AV.portL,exists_eq_left']; (first | exact AVle.of rfl | refine AVle.of ?_ | skip))
    ·simp [hx] at h
  ·have hi:k = l.length:=by simp at h; omega
   subst hi
   rw [List.take_length] at hin ⊢
   have e1:purB w l = decide (l.sum ≤ 12):=by unfold purB; rw [hlst,List.all_eq_true.2 hin]; rfl
   rw [e1]
   (repeat ((first | refine Va ?_ | refine Vb ?_ | refine Vc ?_ | refine Vd ?_ | refine Ve ?_ | refine Vf ?_); (try simp only [go_sem,hP]); (repeat refine qJ ?_)))
   (refine WV_ret ?_; simp only [thenQ,inQ,RetQ,RetOk,resAll,resA]; simp only [go_sem,tupA,AV.port,AV.portL,exists_eq_left']; (first | exact AVle.of rfl | refine AVle.of ?_ | skip))
theorem put19 {b:Bx} (hl:b.fo.length = b.sl.length) (h5:b.fo.length ≤ 5) (ha:∀ n ∈ b.fo,0 ≤ n ∧ n ≤ 12) (hb:∀ n ∈ b.sl,0 ≤ n ∧ n ≤ 12):FSpec Tryz.prog 15 [b.av] (.c (ints (putL b))):=by
 refine FSpec_of c15 (Nat.le_refl _) (by decide) fun C hP hN hC hL => ?_; rw [init_st]
 simp only [ir15,Bx.av,Bx.avs]
 (repeat ((first | refine Va ?_ | refine Vb ?_ | refine Vc ?_ | refine Vd ?_ | refine Ve ?_ | refine Vf ?_); (try simp only [go_sem,hP,Bx.avs,ints]); (repeat refine qJ ?_)))
 (refine AS_pu (both23 hl h5 ha hb) ?_; simp only [go_sem,hP,ints]; (repeat refine qJ ?_); (repeat ((first | refine Va ?_ | refine Vb ?_ | refine Vc ?_ | refine Vd ?_ | refine Ve ?_ | refine Vf ?_); (try simp only [go_sem,hP,ints]); (repeat refine qJ ?_))))
 (refine WV_ret ?_; simp only [thenQ,inQ,RetQ,RetOk,resAll,resA]; simp only [go_sem,tupA,AV.port,AV.portL,exists_eq_left',putL]; (first | exact AVle.of rfl | refine AVle.of ?_ | skip))
theorem ones (l:List Int):((l.map fun n => [CD.int .i64 n]).all fun e => e.length == 1) = true:=by
 rw [List.all_eq_true]; intro e he; obtain ⟨n,_,rfl⟩:=List.mem_map.1 he; rfl
set_option maxHeartbeats 8000000 in
theorem copy26 {w:Wh} (h1:w.no.length ≤ 1000) (h2:w.co.length ≤ 1000):FSpec Tryz.prog 24 [w.av] w.av:=by
 have hmax:maxLen = 9223372036854775807:=rfl
 refine FSpec_of c24 (Nat.le_refl _) (by decide) fun C hP hN hC hL => ?_; rw [init_st]
 simp only [ir24,Wh.av,Wh.avs]
 (repeat ((first | refine Va ?_ | refine Vb ?_ | refine Vc ?_ | refine Vd ?_ | refine Ve ?_ | refine Vf ?_); (try simp only [go_sem,hP,Wh.avs,ints,List.length_map]); (repeat refine qJ ?_)))
 (refine WV_drw ?_; simp only [go_sem,hP,ints,List.length_map,ones]; (repeat' (refine And.intro ?_ ?_)))
 all_goals first | omega | skip
 all_goals ((refine WV_ret ?_; simp only [thenQ,inQ,RetQ,RetOk,resAll,resA]; simp only [go_sem,tupA,AV.port,AV.portL,exists_eq_left',ints]; (first | exact AVle.of rfl | refine AVle.of ?_ | skip)))
set_option maxHeartbeats 16000000 in
set_option maxRecDepth 20000 in
theorem copy10 {b:Bx} (h1:b.wh.no.length ≤ 1000) (h2:b.wh.co.length ≤ 1000) (h3:b.fo.length ≤ 1000) (h4:b.ma.length ≤ 1000) (h5:b.sl.length ≤ 1000):FSpec Tryz.prog 9 [b.av] b.av:=by
 have hmax:maxLen = 9223372036854775807:=rfl
 refine FSpec_of c9 (Nat.le_refl _) (by decide) fun C hP hN hC hL => ?_; rw [init_st]
 simp only [ir9,Bx.av,Bx.avs]
 (repeat ((first | refine Va ?_ | refine Vb ?_ | refine Vc ?_ | refine Vd ?_ | refine Ve ?_ | refine Vf ?_); (try simp only [go_sem,hP,Bx.avs,ints,List.length_map]); (repeat refine qJ ?_)))
 (refine AS_pu (copy26 h1 h2) ?_; simp only [go_sem,hP,Wh.av,Wh.avs,ints,List.length_map]; (repeat refine qJ ?_); (repeat ((first | refine Va ?_ | refine Vb ?_ | refine Vc ?_ | refine Vd ?_ | refine Ve ?_ | refine Vf ?_); (try simp only [go_sem,hP,Wh.av,Wh.avs,ints,List.length_map]); (repeat refine qJ ?_))))
 (refine WV_drw ?_; simp only [go_sem,hP,ints,List.length_map,ones]; (repeat' (refine And.intro ?_ ?_)))
 all_goals first | omega | skip
 all_goals ((repeat ((first | refine Va ?_ | refine Vb ?_ | refine Vc ?_ | refine Vd ?_ | refine Ve ?_ | refine Vf ?_); (try simp only [go_sem,hP]); (repeat refine qJ ?_))))
 all_goals ((refine WV_ret ?_; simp only [thenQ,inQ,RetQ,RetOk,resAll,resA]; simp only [go_sem,tupA,AV.port,AV.portL,exists_eq_left',ints]; (first | exact AVle.of rfl | refine AVle.of ?_ | skip)))
end Go.Proofs.YtbclmfjibpppfaaGreat

namespace Go.Proofs.YtbclmfjibpppfaaGreat
open Go Go.V
abbrev o7_0:List Ins:=[JS 1 (.box 8 (.t 0)),JS 2 (Ji 0)]
abbrev o7_1:List Ins:=[JS 4 (Jf 0 1),JS 5 (JL 3 4),JS 6 (Jc 19 [.t 5]),JS 7 (Jk .neq 6 0),JS 8 (Jm 7),JG 9 (Jf 0 1) 8 false,JG 10 (JL 3 9) 8 false,JG 11 (Jf 3 1) 8 false,JG 12 (Jl 11) 8 false,JG 13 (Jc 20 [.t 10,.t 12]) 8 false,JG 14 (.un .not (.t 13)) 8 false,JS 15 (Jo 8 14),JS 16 (Jm 15),JG 17 (Jf 0 1) 16 false,JG 18 (JL 3 17) 16 false,JG 19 (Jf 5 1) 16 false,JG 20 (Jl 19) 16 false,JG 21 (Jc 20 [.t 18,.t 20]) 16 false,JG 22 (.un .not (.t 21)) 16 false,JS 23 (Jo 16 22),JS 24 (Jm 23),JG 25 (Jf 4 1) 24 false,JG 26 (Jl 25) 24 false,JG 27 (Jn 26) 24 false,JG 28 (Jf 3 1) 24 false,JG 29 (Jl 28) 24 false,JG 30 (Jn 29) 24 false,JG 31 (Jb .neq 27 30) 24 false,JS 32 (Jo 24 31),JS 33 (Jm 32),JG 34 (Jf 6 1) 33 false,JG 35 (Jl 34) 33 false,JG 36 (Jc 21 [.t 35,(.k (Jz 0)),(.k (Jz 9999))]) 33 false,JG 37 (.un .not (.t 36)) 33 false,JS 38 (Jo 33 37),JS 39 (Jm 38),JG 40 (Jf 7 1) 39 false,JG 41 (Jl 40) 39 false,JG 42 (Jc 21 [.t 41,(.k (Jz 0)),(.k (Jz 9))]) 39 false,JG 43 (.un .not (.t 42)) 39 false,JS 44 (Jo 39 43)]
abbrev o7_2:List Ins:=[JS 2 (Ji 50)]
abbrev v7_3:VC:=(.seq (.ops o7_2) .ret)
abbrev v7_4:VC:=(.cond (.t 44) v7_3 .skip)
abbrev o7_5:List Ins:=[JS 3 (Ji 0)]
abbrev o7_6:List Ins:=[JS 45 (Jm 3),JS 46 (Jf 3 1),JS 47 (Jl 46),JS 48 (Jn 47),JS 49 (Jb .lss 45 48)]
abbrev v7_7:VC:=(.cond (.t 49) .skip (.exit 0))
abbrev o7_8:List Ins:=[JF 52 (Jf 4 1),JF 53 (Jl 52),JF 54 (Jm 3),JF 55 (Ja 1 53 54),JF 56 (Jl 55),JF 57 (Jf 3 1),JF 58 (Jl 57),JF 59 (Jm 3),JF 60 (Ja 1 58 59),JF 61 (Jl 60),JS 62 (Jc 21 [.t 56,(.k (Jz 0)),.t 61]),JS 63 (.un .not (.t 62))]
abbrev o7_9:List Ins:=[JS 2 (Ji 50)]
abbrev v7_10:VC:=(.seq (.ops o7_9) .ret)
abbrev v7_11:VC:=(.cond (.t 63) v7_10 .skip)
abbrev v7_12:VC:=(.seq (.dops o7_8) v7_11)
abbrev o7_13:List Ins:=[JS 50 (Jm 3),JS 51 (Jk .add 50 1),JS 3 (Jm 51)]
abbrev v7_14:VC:=(.seq (.block 1 v7_12) (.ops o7_13))
abbrev v7_15:VC:=(.seq (.seq (.ops o7_6) v7_7) v7_14)
-- K7_1: changed and kept: [3]
abbrev K7_1:List Nat:=[1]
abbrev v7_16:VC:=(.loop v7_15)
abbrev v7_17:VC:=(.block 0 v7_16)
abbrev o7_18:List Ins:=[JF 64 (Jf 0 1),JF 65 (JL 3 64),JF 66 (Jf 3 1),JF 67 (Jl 66),JF 68 (Jf 5 1),JF 69 (Jl 68),JF 70 (Jc 22 [.t 67,.t 69]),JS 71 (Jc 20 [.t 65,.t 70]),JS 72 (.un .not (.t 71))]
abbrev o7_19:List Ins:=[JS 2 (Ji 50)]
abbrev v7_20:VC:=(.seq (.ops o7_19) .ret)
abbrev v7_21:VC:=(.cond (.t 72) v7_20 .skip)
abbrev o7_22:List Ins:=[JS 2 (Ji 0)]
abbrev v7_23:VC:=(.seq (.ops o7_22) .ret)
abbrev v7_24:VC:=(.seq (.seq (.dops o7_18) v7_21) v7_23)
abbrev v7_25:VC:=(.seq (.seq (.ops o7_5) v7_17) v7_24)
abbrev v7_26:VC:=(.seq (.seq (.ops o7_1) v7_4) v7_25)
def ir7:FC:=⟨1,73,[.t 2],(.seq (.ops o7_0) v7_26)⟩
abbrev o5_0:List Ins:=[JS 1 (.box 8 (.t 0)),JS 2 (JB false)]
abbrev o5_1:List Ins:=[JS 3 (Jf 0 1),JS 4 (Jf 1 3),JS 5 (Jl 4),JS 6 (Jn 5),JS 7 (Jf 0 1),JS 8 (Jf 2 7),JS 9 (Jl 8),JS 10 (Jn 9),JS 11 (Jf 3 1),JS 12 (Jl 11),JS 13 (Jn 12),JS 14 (Jf 4 1),JS 15 (Jl 14),JS 16 (Jn 15),JS 17 (Jf 5 1),JS 18 (Jl 17),JS 19 (Jn 18),JS 20 (.mmn true [.t 6,.t 10,.t 13,.t 16,.t 19]),JS 21 (Jk .gtr 20 40)]
abbrev o5_2:List Ins:=[JS 2 (JB true)]
abbrev v5_3:VC:=(.seq (.ops o5_2) .ret)
abbrev v5_4:VC:=(.cond (.t 21) v5_3 .skip)
abbrev o5_5:List Ins:=[JS 22 (JL 8 1),JS 23 (Jc 7 [.t 22]),JS 24 (Jk .eql 23 0),JS 25 (Jm 24),JG 26 (JL 8 1) 25 true,JG 27 (Jc 15 [.t 26]) 25 true,JG 28 (Jc 16 [.t 27]) 25 true,JG 29 (Jk .gtr 28 3) 25 true,JG 30 (Jm 29) 25 true,JG 31 (Jf 3 1) 30 false,JG 32 (Jl 31) 30 false,JG 33 (Jn 32) 30 false,JG 34 (Jk .gtr 33 3) 30 false,JG 35 (Jo 30 34) 25 true,JS 36 (Jp 25 35),JS 2 (Jm 36)]
abbrev v5_6:VC:=(.seq (.ops o5_5) .ret)
abbrev v5_7:VC:=(.seq (.seq (.ops o5_1) v5_4) v5_6)
def ir5:FC:=⟨1,37,[.t 2],(.seq (.ops o5_0) v5_7)⟩
theorem c7:compM Tryz.prog [] 7 = some ir7:=by kernel_rfl
theorem c5:compM Tryz.prog [] 5 = some ir5:=by kernel_rfl
attribute [local go_sem] Nat.reduceEqDiff Nat.reduceAdd Nat.reduceMul reduceIte Nat.reduceLeDiff Nat.reduceLT Nat.reduceBEq reduceCtorEq
def marK (b:Bx):Nat → Bool
 | 0 => true
 | k + 1 => marK b k && within (b.ma.getD k 0) 0 (b.fo.getD k 0)
theorem marK_false {b:Bx}:∀ {k m:Nat},marK b k = false → k ≤ m → marK b m = false
 | k,0,h,hm => by rwa [show k = 0 by omega] at h
 | k,m + 1,h,hm => by
  rcases Nat.lt_or_ge m k with h1 | h1
  ·rwa [show k = m + 1 by omega] at h
  ·simp only [marK,marK_false h h1,Bool.false_and]
def refOk (b:Bx):Bool:=whB b.wh && purB b.wh b.fo && purB b.wh b.sl && (b.ma.length == b.fo.length) && within b.pl 0 9999 && within b.sk 0 9 && marK b b.fo.length && purB b.wh (putL b)
def chkB (b:Bx):Int:=if refOk b then 0 else 50
theorem ref_bx {b:Bx} (h:refOk b = true):bxB b = true:=by
 simp only [refOk,purB,Bool.and_eq_true,beq_iff_eq,decide_eq_true_eq] at h
 obtain ⟨⟨⟨⟨⟨⟨⟨h1,h2,h2s⟩,h3,h3s⟩,h4⟩,h5⟩,h6⟩,h7⟩,h8,h8s⟩:=h
 have k2:=lstB_ok h2
 have k3:=lstB_ok h3
 have hm:∀ k,marK b k = true → ∀ i,i < k → 0 ≤ b.ma.getD i 0 ∧ b.ma.getD i 0 ≤ b.fo.getD i 0:=by
  intro k
  induction k with
  | zero => intro _ i hi; omega
  | succ k ih =>
   intro h i hi
   simp only [marK,Bool.and_eq_true,within,decide_eq_true_eq] at h
   rcases Nat.lt_or_ge i k with h9 | h9
   ·exact ih h.1 i h9
   ·obtain rfl:i = k:=by omega
    exact h.2
 have hml:lstB b.wh b.ma = true:=by
  unfold lstB
  have e1:(b.ma.length == b.wh.co.length) = true:=by rw [beq_iff_eq,h4,k2.1]
  have e2:b.ma.any put12 = false:=by
   rw [List.any_eq_false]
   intro n hn
   obtain ⟨i,hi,rfl⟩:=List.mem_iff_getElem.1 hn
   have:=hm _ h7 i (by omega)
   have h9:=getD_in k2.2 (k:=i) (by omega)
   rw [getD_at hi] at this
   simp [put12,within]; omega
  rw [e1,e2]; rfl
 have hmk:∀ k,k ≤ b.fo.length → mkK b.fo b.ma k = true:=by
  intro k
  induction k with
  | zero => intro _; rfl
  | succ k ih =>
   intro hk
   simp only [mkK,ih (by omega),Bool.true_and,decide_eq_true_eq]
   exact (hm _ h7 k (by omega)).2
 have hsum:∀ k,k ≤ b.fo.length → sumK b.fo b.sl k = ((putL b).take k).sum:=by
  intro k
  induction k with
  | zero => intro _; simp [sumK]
  | succ k ih =>
   intro hk
   have hp:k < (putL b).length:=by simp [putL,addL]; omega
   rw [List.take_succ_eq_append_getElem hp,List.sum_append,sumK,ih (by omega)]
   simp only [putL,addL,List.getElem_zipWith,getD_at (l:=b.fo) (k:=k) (by omega),getD_at (l:=b.sl) (k:=k) (by omega)]
   simp
 have hpl:(putL b).length = b.fo.length:=by simp [putL,addL]; omega
 have hs:=hsum b.fo.length (Nat.le_refl _)
 rw [List.take_of_length_le (by omega)] at hs
 unfold bxB
 rw [h1,h5,h6,h2,hml,h3,hmk _ (Nat.le_refl _),hs,decide_eq_true h8s]
 rfl
set_option maxHeartbeats 16000000 in
set_option maxRecDepth 20000 in
theorem check8 (b:Bx):FSpec Tryz.prog 7 [b.av] (iv (chkB b)):=by
 refine FSpec_of c7 (Nat.le_refl _) (by decide) fun C hP hN hC hL => ?_; rw [init_st]
 simp only [ir7,Bx.av,Bx.avs]
 have hbad:refOk b = false → chkB b = 50:=fun h => by unfold chkB; rw [h]; rfl
 have hb0:((0:Int) != 0) = false:=rfl
 have hne:((b.ma.length:Int) != (b.fo.length:Int)) = !(b.ma.length == b.fo.length):=ibne _ _
 (repeat ((first | refine Va ?_ | refine Vb ?_ | refine Vc ?_ | refine Vd ?_ | refine Ve ?_ | refine Vf ?_); (try simp only [go_sem,hP,Bx.avs,ints,List.length_map]); (repeat refine qJ ?_)))
 (refine AS_pu (check20 b.wh) ?_; simp only [go_sem,hP,Wh.av,Wh.avs,ints,List.length_map,hne]; (repeat refine qJ ?_); (repeat ((first | refine Va ?_ | refine Vb ?_ | refine Vc ?_ | refine Vd ?_ | refine Ve ?_ | refine Vf ?_); (try simp only [go_sem,hP,Wh.av,Wh.avs,ints,List.length_map,hne]); (repeat refine qJ ?_))))
 by_cases h1:whB b.wh = true
 case neg =>
  have h1:whB b.wh = false:=by simpa using h1
  have e0:whE b.wh = 10:=by unfold whE; rw [h1]; rfl
  rw [hbad (by unfold refOk; rw [h1]; rfl),e0]
  have hb1:((10:Int) != 0) = true:=rfl
  simp only [go_sem,hb1]
  (refine AG_skip ?_; simp only [go_sem,hP,List.length_map,hne]; (repeat refine qJ ?_); (repeat ((first | refine Va ?_ | refine Vb ?_ | refine Vc ?_ | refine Vd ?_ | refine Ve ?_ | refine Vf ?_); (try simp only [go_sem,hP,List.length_map,hne]); (repeat refine qJ ?_))))
  (refine AG_skip ?_; simp only [go_sem,hP,List.length_map,hne]; (repeat refine qJ ?_); (repeat ((first | refine Va ?_ | refine Vb ?_ | refine Vc ?_ | refine Vd ?_ | refine Ve ?_ | refine Vf ?_); (try simp only [go_sem,hP,List.length_map,hne]); (repeat refine qJ ?_))))
  (refine AG_skip ?_; simp only [go_sem,hP,List.length_map,hne]; (repeat refine qJ ?_); (repeat ((first | refine Va ?_ | refine Vb ?_ | refine Vc ?_ | refine Vd ?_ | refine Ve ?_ | refine Vf ?_); (try simp only [go_sem,hP,List.length_map,hne]); (repeat refine qJ ?_))))
  (refine AG_skip ?_; simp only [go_sem,hP,List.length_map,hne]; (repeat refine qJ ?_); (repeat ((first | refine Va ?_ | refine Vb ?_ | refine Vc ?_ | refine Vd ?_ | refine Ve ?_ | refine Vf ?_); (try simp only [go_sem,hP,List.length_map,hne]); (repeat refine qJ ?_))))
  (refine WV_cond rfl (fun h => ?_) (fun h => ?_))
  ·(repeat ((first | refine Va ?_ | refine Vb ?_ | refine Vc ?_ | refine Vd ?_ | refine Ve ?_ | refine Vf ?_); (try simp only [go_sem,hP]); (repeat refine qJ ?_)))
   (refine WV_ret ?_; simp only [thenQ,inQ,RetQ,RetOk,resAll,resA]; simp only [go_sem,tupA,AV.port,AV.portL,exists_eq_left']; (first | exact AVle.of rfl | refine AVle.of ?_ | skip))
  ·simp at h
 have e0:whE b.wh = 0:=by unfold whE; rw [if_pos h1]
 have hw:=whB_ok h1
 rw [e0]
 simp only [go_sem,hb0]
 (refine AG_pu (fun hG => purse21 hw b.fo) ?_; simp only [go_sem,hP,Wh.av,Wh.avs,ints,hb0,List.length_map,hne]; (repeat refine qJ ?_); (repeat ((first | refine Va ?_ | refine Vb ?_ | refine Vc ?_ | refine Vd ?_ | refine Ve ?_ | refine Vf ?_); (try simp only [go_sem,hP,Wh.av,Wh.avs,ints,hb0,List.length_map,hne]); (repeat refine qJ ?_))))
 by_cases h2:purB b.wh b.fo = true
 case neg =>
  have h2:purB b.wh b.fo = false:=by simpa using h2
  rw [hbad (by unfold refOk; rw [h2]; simp)]
  simp only [go_sem,h2]
  (refine AG_skip ?_; simp only [go_sem,hP,List.length_map,hne]; (repeat refine qJ ?_); (repeat ((first | refine Va ?_ | refine Vb ?_ | refine Vc ?_ | refine Vd ?_ | refine Ve ?_ | refine Vf ?_); (try simp only [go_sem,hP,List.length_map,hne]); (repeat refine qJ ?_))))
  (refine AG_skip ?_; simp only [go_sem,hP,List.length_map,hne]; (repeat refine qJ ?_); (repeat ((first | refine Va ?_ | refine Vb ?_ | refine Vc ?_ | refine Vd ?_ | refine Ve ?_ | refine Vf ?_); (try simp only [go_sem,hP,List.length_map,hne]); (repeat refine qJ ?_))))
  (refine AG_skip ?_; simp only [go_sem,hP,List.length_map,hne]; (repeat refine qJ ?_); (repeat ((first | refine Va ?_ | refine Vb ?_ | refine Vc ?_ | refine Vd ?_ | refine Ve ?_ | refine Vf ?_); (try simp only [go_sem,hP,List.length_map,hne]); (repeat refine qJ ?_))))
  (refine WV_cond rfl (fun h => ?_) (fun h => ?_))
  ·(repeat ((first | refine Va ?_ | refine Vb ?_ | refine Vc ?_ | refine Vd ?_ | refine Ve ?_ | refine Vf ?_); (try simp only [go_sem,hP]); (repeat refine qJ ?_)))
   (refine WV_ret ?_; simp only [thenQ,inQ,RetQ,RetOk,resAll,resA]; simp only [go_sem,tupA,AV.port,AV.portL,exists_eq_left']; (first | exact AVle.of rfl | refine AVle.of ?_ | skip))
  ·simp at h
 simp only [go_sem,h2]
 (refine AG_pu (fun hG => purse21 hw b.sl) ?_; simp only [go_sem,hP,Wh.av,Wh.avs,ints,hb0,h2,List.length_map,hne]; (repeat refine qJ ?_); (repeat ((first | refine Va ?_ | refine Vb ?_ | refine Vc ?_ | refine Vd ?_ | refine Ve ?_ | refine Vf ?_); (try simp only [go_sem,hP,Wh.av,Wh.avs,ints,hb0,h2,List.length_map,hne]); (repeat refine qJ ?_))))
 by_cases h3:purB b.wh b.sl = true
 case neg =>
  have h3:purB b.wh b.sl = false:=by simpa using h3
  rw [hbad (by unfold refOk; rw [h3]; simp)]
  simp only [go_sem,h3]
  (refine AG_skip ?_; simp only [go_sem,hP,List.length_map,hne]; (repeat refine qJ ?_); (repeat ((first | refine Va ?_ | refine Vb ?_ | refine Vc ?_ | refine Vd ?_ | refine Ve ?_ | refine Vf ?_); (try simp only [go_sem,hP,List.length_map,hne]); (repeat refine qJ ?_))))
  (refine AG_skip ?_; simp only [go_sem,hP,List.length_map,hne]; (repeat refine qJ ?_); (repeat ((first | refine Va ?_ | refine Vb ?_ | refine Vc ?_ | refine Vd ?_ | refine Ve ?_ | refine Vf ?_); (try simp only [go_sem,hP,List.length_map,hne]); (repeat refine qJ ?_))))
  (refine WV_cond rfl (fun h => ?_) (fun h => ?_))
  ·(repeat ((first | refine Va ?_ | refine Vb ?_ | refine Vc ?_ | refine Vd ?_ | refine Ve ?_ | refine Vf ?_); (try simp only [go_sem,hP]); (repeat refine qJ ?_)))
   (refine WV_ret ?_; simp only [thenQ,inQ,RetQ,RetOk,resAll,resA]; simp only [go_sem,tupA,AV.port,AV.portL,exists_eq_left']; (first | exact AVle.of rfl | refine AVle.of ?_ | skip))
  ·simp at h
 by_cases h4:b.ma.length = b.fo.length
 case neg =>
  have hb4:(b.ma.length == b.fo.length) = false:=by simpa using h4
  rw [hbad (by unfold refOk; rw [hb4]; simp)]
  simp only [go_sem,h3,hb4]
  (refine AG_skip ?_; simp only [go_sem,hP,List.length_map,hne]; (repeat refine qJ ?_); (repeat ((first | refine Va ?_ | refine Vb ?_ | refine Vc ?_ | refine Vd ?_ | refine Ve ?_ | refine Vf ?_); (try simp only [go_sem,hP,List.length_map,hne]); (repeat refine qJ ?_))))
  (refine AG_skip ?_; simp only [go_sem,hP,List.length_map,hne]; (repeat refine qJ ?_); (repeat ((first | refine Va ?_ | refine Vb ?_ | refine Vc ?_ | refine Vd ?_ | refine Ve ?_ | refine Vf ?_); (try simp only [go_sem,hP,List.length_map,hne]); (repeat refine qJ ?_))))
  (refine WV_cond rfl (fun h => ?_) (fun h => ?_))
  ·(repeat ((first | refine Va ?_ | refine Vb ?_ | refine Vc ?_ | refine Vd ?_ | refine Ve ?_ | refine Vf ?_); (try simp only [go_sem,hP]); (repeat refine qJ ?_)))
   (refine WV_ret ?_; simp only [thenQ,inQ,RetQ,RetOk,resAll,resA]; simp only [go_sem,tupA,AV.port,AV.portL,exists_eq_left']; (first | exact AVle.of rfl | refine AVle.of ?_ | skip))
  ·simp at h
 have hb4:(b.ma.length == b.fo.length) = true:=by simpa using h4
 simp only [go_sem,h3,hb4]
 (refine AG_pu (fun hG => within22 b.pl 0 9999) ?_; simp only [go_sem,hP,ints,hb0,h3,hb4,List.length_map,hne]; (repeat refine qJ ?_); (repeat ((first | refine Va ?_ | refine Vb ?_ | refine Vc ?_ | refine Vd ?_ | refine Ve ?_ | refine Vf ?_); (try simp only [go_sem,hP,ints,hb0,h3,hb4,List.length_map,hne]); (repeat refine qJ ?_))))
 by_cases h5:within b.pl 0 9999 = true
 case neg =>
  have h5:within b.pl 0 9999 = false:=by simpa using h5
  rw [hbad (by unfold refOk; rw [h5]; simp)]
  simp only [go_sem,h5]
  (refine AG_skip ?_; simp only [go_sem,hP,List.length_map,hne]; (repeat refine qJ ?_); (repeat ((first | refine Va ?_ | refine Vb ?_ | refine Vc ?_ | refine Vd ?_ | refine Ve ?_ | refine Vf ?_); (try simp only [go_sem,hP,List.length_map,hne]); (repeat refine qJ ?_))))
  (refine WV_cond rfl (fun h => ?_) (fun h => ?_))
  ·(repeat ((first | refine Va ?_ | refine Vb ?_ | refine Vc ?_ | refine Vd ?_ | refine Ve ?_ | refine Vf ?_); (try simp only [go_sem,hP]); (repeat refine qJ ?_)))
   (refine WV_ret ?_; simp only [thenQ,inQ,RetQ,RetOk,resAll,resA]; simp only [go_sem,tupA,AV.port,AV.portL,exists_eq_left']; (first | exact AVle.of rfl | refine AVle.of ?_ | skip))
  ·simp at h
 simp only [go_sem,h5]
 (refine AG_pu (fun hG => within22 b.sk 0 9) ?_; simp only [go_sem,hP,ints,hb0,h5,List.length_map,hne]; (repeat refine qJ ?_); (repeat ((first | refine Va ?_ | refine Vb ?_ | refine Vc ?_ | refine Vd ?_ | refine Ve ?_ | refine Vf ?_); (try simp only [go_sem,hP,ints,hb0,h5,List.length_map,hne]); (repeat refine qJ ?_))))
 by_cases h6:within b.sk 0 9 = true
 case neg =>
  have h6:within b.sk 0 9 = false:=by simpa using h6
  rw [hbad (by unfold refOk; rw [h6]; simp)]
  (refine WV_cond rfl (fun h => ?_) (fun h => ?_))
  ·(repeat ((first | refine Va ?_ | refine Vb ?_ | refine Vc ?_ | refine Vd ?_ | refine Ve ?_ | refine Vf ?_); (try simp only [go_sem,hP]); (repeat refine qJ ?_)))
   (refine WV_ret ?_; simp only [thenQ,inQ,RetQ,RetOk,resAll,resA]; simp only [go_sem,tupA,AV.port,AV.portL,exists_eq_left']; (first | exact AVle.of rfl | refine AVle.of ?_ | skip))
  ·simp [h6] at h
 (refine WV_cond rfl (fun h => ?_) (fun h => ?_))
 ·simp [h6] at h
 clear h
 have hfl:b.fo.length = b.wh.co.length:=by
  simp only [purB,Bool.and_eq_true] at h2
  exact (lstB_ok h2.1).1
 have hcl:=hw.cl
 have hmb:marK b b.fo.length = false → chkB b = 50:=fun h => hbad (by unfold refOk; rw [h]; simp)
 have hrest:marK b b.fo.length = true → chkB b = if purB b.wh (putL b) then 0 else 50:=fun h => by
  have:refOk b = purB b.wh (putL b):=by unfold refOk; rw [h1,h2,h3,hb4,h5,h6,h]; rfl
  unfold chkB; rw [this]
 (repeat ((first | refine Va ?_ | refine Vb ?_ | refine Vc ?_ | refine Vd ?_ | refine Ve ?_ | refine Vf ?_); (try simp only [go_sem,hP,ints,List.length_map]); (repeat refine qJ ?_)))
 refine WV_loopK K7_1 [] (fun k:Nat => k ≤ b.fo.length ∧ marK b k = true) (fun k => b.fo.length - k) (fun k => [(3,iv k)]) (fun _ => []) 0 ⟨by omega,rfl⟩ ?_ ?_
 ·exact Sub_au
 ·rintro k ⟨hk,hr⟩
  (repeat ((first | refine Va ?_ | refine Vb ?_ | refine Vc ?_ | refine Vd ?_ | refine Ve ?_ | refine Vf ?_); (try simp only [go_sem,hP,ints,List.length_map]); (repeat refine qJ ?_)))
  (refine WV_cond rfl (fun h => ?_) (fun h => ?_))
  ·have hi:k < b.fo.length:=by simpa using h
   have hi2:k < b.ma.length:=by omega
   have gf:=ints_get hi
   have gm:=ints_get hi2
   have w1:=w64 (n:=(k:Int) + 1) (by omega) (by omega)
   have hs:marK b (k + 1) = within (b.ma.getD k 0) 0 (b.fo.getD k 0):=by simp only [marK,hr,Bool.true_and]
   generalize b.fo.getD k 0 = x at *
   generalize b.ma.getD k 0 = y at *
   (repeat ((first | refine Va ?_ | refine Vb ?_ | refine Vc ?_ | refine Vd ?_ | refine Ve ?_ | refine Vf ?_); (try simp only [go_sem,hP,gf,gm,ints,List.length_map,Int.toNat_natCast,Int.ofNat_lt,hi,hi2,Int.natCast_nonneg]); (repeat refine qJ ?_)))
   (refine AS_pu (within22 y 0 x) ?_; simp only [go_sem,hP,ints]; (repeat refine qJ ?_); (repeat ((first | refine Va ?_ | refine Vb ?_ | refine Vc ?_ | refine Vd ?_ | refine Ve ?_ | refine Vf ?_); (try simp only [go_sem,hP,ints]); (repeat refine qJ ?_))))
   by_cases hx:within y 0 x = true
   ·(refine WV_cond rfl (fun h => ?_) (fun h => ?_))
    ·simp [hx] at h
    (repeat ((first | refine Va ?_ | refine Vb ?_ | refine Vc ?_ | refine Vd ?_ | refine Ve ?_ | refine Vf ?_); (try simp only [go_sem,hP,w1]); (repeat refine qJ ?_)))
    refine ⟨k + 1,⟨by omega,by rw [hs]; exact hx⟩,by omega,?_⟩
    (refine Sub_of (by simp only [go_sem]; ((repeat' (first | exact EnvLe_e0 _ _ | refine EnvLe_upd ?_ ?_)) <;> ((try simp only [upd_app,e0_app,o0_app,Nat.reduceEqDiff,reduceIte]); first | exact AWk.refl _ _ | exact AWk.int (by omega) | exact AWk.int (by rw [w64 (by omega) (by omega)]; omega) | exact AWk.grow rfl | exact AWk.nil _ | exact AWk.of (by simp [ints])))) (by simp only [go_sem]; exact ObjLe_au))
   ·have hx:within y 0 x = false:=by simpa using hx
    rw [hmb (marK_false (k:=k + 1) (by rw [hs]; exact hx) (by omega))]
    (refine WV_cond rfl (fun h => ?_) (fun h => ?_))
    ·(repeat ((first | refine Va ?_ | refine Vb ?_ | refine Vc ?_ | refine Vd ?_ | refine Ve ?_ | refine Vf ?_); (try simp only [go_sem,hP]); (repeat refine qJ ?_)))
     (refine WV_ret ?_; simp only [thenQ,inQ,RetQ,RetOk,resAll,resA]; simp only [go_sem,tupA,AV.port,AV.portL,exists_eq_left']; (first | exact AVle.of rfl | refine AVle.of ?_ | skip))
    ·simp [hx] at h
  ·have hi:k = b.fo.length:=by simp at h; omega
   subst hi
   have hfo:∀ n ∈ b.fo,0 ≤ n ∧ n ≤ 12:=by
    simp only [purB,Bool.and_eq_true] at h2
    exact (lstB_ok h2.1).2
   have hslo:b.sl.length = b.wh.co.length ∧ ∀ n ∈ b.sl,0 ≤ n ∧ n ≤ 12:=by
    simp only [purB,Bool.and_eq_true] at h3
    exact lstB_ok h3.1
   clear h hk
   by_cases h9:purB b.wh (putL b) = true
   ·have e1:chkB b = 0:=by rw [hrest hr,if_pos h9]
    rw [e1]
    (repeat ((first | refine Va ?_ | refine Vb ?_ | refine Vc ?_ | refine Vd ?_ | refine Ve ?_ | refine Vf ?_); (try simp only [go_sem,hP,ints,List.length_map]); (repeat refine qJ ?_)))
    (refine ACall_of (both23 (by omega) (by omega) hfo hslo.2) rfl rfl rfl rfl rfl ?_; simp only [go_sem,hP,ints]; (repeat refine qJ ?_); (repeat ((first | refine Va ?_ | refine Vb ?_ | refine Vc ?_ | refine Vd ?_ | refine Ve ?_ | refine Vf ?_); (try simp only [go_sem,hP,ints]); (repeat refine qJ ?_))))
    (refine AS_pu (purse21 hw (putL b)) ?_; simp only [go_sem,hP,Wh.av,Wh.avs,ints,putL]; (repeat refine qJ ?_); (repeat ((first | refine Va ?_ | refine Vb ?_ | refine Vc ?_ | refine Vd ?_ | refine Ve ?_ | refine Vf ?_); (try simp only [go_sem,hP,Wh.av,Wh.avs,ints,putL]); (repeat refine qJ ?_))))
    simp only [putL] at h9
    (refine WV_cond rfl (fun h => ?_) (fun h => ?_))
    ·simp [h9] at h
    ·(repeat ((first | refine Va ?_ | refine Vb ?_ | refine Vc ?_ | refine Vd ?_ | refine Ve ?_ | refine Vf ?_); (try simp only [go_sem,hP]); (repeat refine qJ ?_)))
     (refine WV_ret ?_; simp only [thenQ,inQ,RetQ,RetOk,resAll,resA]; simp only [go_sem,tupA,AV.port,AV.portL,exists_eq_left']; (first | exact AVle.of rfl | refine AVle.of ?_ | skip))
   ·have e1:chkB b = 50:=by rw [hrest hr,if_neg h9]
    have h9:purB b.wh (putL b) = false:=by simpa using h9
    rw [e1]
    (repeat ((first | refine Va ?_ | refine Vb ?_ | refine Vc ?_ | refine Vd ?_ | refine Ve ?_ | refine Vf ?_); (try simp only [go_sem,hP,ints,List.length_map]); (repeat refine qJ ?_)))
    (refine ACall_of (both23 (by omega) (by omega) hfo hslo.2) rfl rfl rfl rfl rfl ?_; simp only [go_sem,hP,ints]; (repeat refine qJ ?_); (repeat ((first | refine Va ?_ | refine Vb ?_ | refine Vc ?_ | refine Vd ?_ | refine Ve ?_ | refine Vf ?_); (try simp only [go_sem,hP,ints]); (repeat refine qJ ?_))))
    (refine AS_pu (purse21 hw (putL b)) ?_; simp only [go_sem,hP,Wh.av,Wh.avs,ints,putL]; (repeat refine qJ ?_); (repeat ((first | refine Va ?_ | refine Vb ?_ | refine Vc ?_ | refine Vd ?_ | refine Ve ?_ | refine Vf ?_); (try simp only [go_sem,hP,Wh.av,Wh.avs,ints,putL]); (repeat refine qJ ?_))))
    simp only [putL] at h9
    (refine WV_cond rfl (fun h => ?_) (fun h => ?_))
    ·(repeat ((first | refine Va ?_ | refine Vb ?_ | refine Vc ?_ | refine Vd ?_ | refine Ve ?_ | refine Vf ?_); (try simp only [go_sem,hP]); (repeat refine qJ ?_)))
     (refine WV_ret ?_; simp only [thenQ,inQ,RetQ,RetOk,resAll,resA]; simp only [go_sem,tupA,AV.port,AV.portL,exists_eq_left']; (first | exact AVle.of rfl | refine AVle.of ?_ | skip))
    ·simp [h9] at h
def farBx (b:Bx):Bool:=decide ((40:Int) < max (max (max (max (b.wh.no.length:Int) b.wh.co.length) b.fo.length) b.ma.length) b.sl.length) || (refOk b && (decide (3 < (putL b).sum) || decide ((3:Int) < b.fo.length)))
theorem far7 (b:Bx):FSpec Tryz.prog 5 [b.av] (.c (.bool (farBx b))):=by
 refine FSpec_of c5 (Nat.le_refl _) (by decide) fun C hP hN hC hL => ?_; rw [init_st]
 simp only [ir5,Bx.av,Bx.avs]
 (repeat ((first | refine Va ?_ | refine Vb ?_ | refine Vc ?_ | refine Vd ?_ | refine Ve ?_ | refine Vf ?_); (try simp only [go_sem,hP,Bx.avs,ints,List.length_map,mmGo]); (repeat refine qJ ?_)))
 generalize hM:max (max (max (max (b.wh.no.length:Int) b.wh.co.length) b.fo.length) b.ma.length) b.sl.length = M
 have hf:farBx b = (decide (40 < M) || (refOk b && (decide (3 < (putL b).sum) || decide ((3:Int) < b.fo.length)))):=by unfold farBx; rw [hM]
 by_cases h1:40 < M
 ·rw [hf,decide_eq_true h1,Bool.true_or]
  (refine WV_cond rfl (fun h => ?_) (fun h => ?_))
  ·(repeat ((first | refine Va ?_ | refine Vb ?_ | refine Vc ?_ | refine Vd ?_ | refine Ve ?_ | refine Vf ?_); (try simp only [go_sem,hP]); (repeat refine qJ ?_)))
   (refine WV_ret ?_; simp only [thenQ,inQ,RetQ,RetOk,resAll,resA]; simp only [go_sem,tupA,AV.port,AV.portL,exists_eq_left']; (first | exact AVle.of rfl | refine AVle.of ?_ | skip))
  ·simp [h1] at h
 rw [hf,decide_eq_false h1,Bool.false_or]
 (refine WV_cond rfl (fun h => ?_) (fun h => ?_))
 ·simp [h1] at h
 (repeat ((first | refine Va ?_ | refine Vb ?_ | refine Vc ?_ | refine Vd ?_ | refine Ve ?_ | refine Vf ?_); (try simp only [go_sem,hP,ints]); (repeat refine qJ ?_)))
 (refine AS_pu (check8 b) ?_; simp only [go_sem,hP,Bx.av,Bx.avs,ints,List.length_map]; (repeat refine qJ ?_); (repeat ((first | refine Va ?_ | refine Vb ?_ | refine Vc ?_ | refine Vd ?_ | refine Ve ?_ | refine Vf ?_); (try simp only [go_sem,hP,Bx.av,Bx.avs,ints,List.length_map]); (repeat refine qJ ?_))))
 have hz:((50:Int) == 0) = false:=rfl
 have hz0:((0:Int) == 0) = true:=rfl
 by_cases h2:refOk b = true
 ·have e1:chkB b = 0:=by unfold chkB; rw [if_pos h2]
  have hb:=bxB_ok (ref_bx h2)
  have hcl:=hb.wh.cl
  have hfl:=hb.fl
  have hsl:=hb.sl
  have hpl:(putL b).length ≤ 100:=by simp [putL,addL]; omega
  have hpn:∀ n ∈ putL b,0 ≤ n ∧ n ≤ 100:=fun n hn => by
   obtain ⟨i,hi,rfl⟩:=List.mem_iff_getElem.1 hn
   have hil:i < b.fo.length ∧ i < b.sl.length:=by simp [putL,addL] at hi; omega
   have e3:=getD_in hb.fo hil.1
   have e4:=getD_in hb.sn hil.2
   rw [getD_at hil.1] at e3
   rw [getD_at hil.2] at e4
   simp only [putL,addL,List.getElem_zipWith]; omega
  rw [e1,h2,Bool.true_and]
  simp only [go_sem,hz0]
  (refine AG_pu (fun hG => put19 (hfl.trans hsl.symm) (by omega) hb.fo hb.sn) ?_; simp only [go_sem,hP,Bx.av,Bx.avs,ints,hz0,List.length_map]; (repeat refine qJ ?_); (repeat ((first | refine Va ?_ | refine Vb ?_ | refine Vc ?_ | refine Vd ?_ | refine Ve ?_ | refine Vf ?_); (try simp only [go_sem,hP,Bx.av,Bx.avs,ints,hz0,List.length_map]); (repeat refine qJ ?_))))
  (refine AG_pu (fun hG => total18 hpl hpn) ?_; simp only [go_sem,hP,ints,hz0,List.length_map]; (repeat refine qJ ?_); (repeat ((first | refine Va ?_ | refine Vb ?_ | refine Vc ?_ | refine Vd ?_ | refine Ve ?_ | refine Vf ?_); (try simp only [go_sem,hP,ints,hz0,List.length_map]); (repeat refine qJ ?_))))
  by_cases h3:3 < (putL b).sum
  ·rw [decide_eq_true h3,Bool.true_or]
   (refine WV_ret ?_; simp only [thenQ,inQ,RetQ,RetOk,resAll,resA]; simp only [go_sem,tupA,AV.port,AV.portL,exists_eq_left']; (first | exact AVle.of rfl | refine AVle.of ?_ | skip))
  ·rw [decide_eq_false h3,Bool.false_or]
   (refine WV_ret ?_; simp only [thenQ,inQ,RetQ,RetOk,resAll,resA]; simp only [go_sem,tupA,AV.port,AV.portL,exists_eq_left']; (first | exact AVle.of rfl | refine AVle.of ?_ | skip))
 ·have h2:refOk b = false:=by simpa using h2
  have e1:chkB b = 50:=by unfold chkB; rw [h2]; rfl
  rw [e1,h2,Bool.false_and]
  simp only [go_sem,hz]
  refine .inl (ACallG_skip (.c (ints [])) rfl ?_)
  simp only [go_sem,hP,hz]
  (repeat ((first | refine Va ?_ | refine Vb ?_ | refine Vc ?_ | refine Vd ?_ | refine Ve ?_ | refine Vf ?_); (try simp only [go_sem,hP,hz,List.length_map]); (repeat refine qJ ?_)))
  refine .inl (ACallG_skip (iv 0) rfl ?_)
  simp only [go_sem,hP,hz]
  (repeat ((first | refine Va ?_ | refine Vb ?_ | refine Vc ?_ | refine Vd ?_ | refine Ve ?_ | refine Vf ?_); (try simp only [go_sem,hP,hz,List.length_map]); (repeat refine qJ ?_)))
  (refine WV_ret ?_; simp only [thenQ,inQ,RetQ,RetOk,resAll,resA]; simp only [go_sem,tupA,AV.port,AV.portL,exists_eq_left']; (first | exact AVle.of rfl | refine AVle.of ?_ | skip))
end Go.Proofs.YtbclmfjibpppfaaGreat

namespace Go.Proofs.YtbclmfjibpppfaaGreat
open Go Go.V
abbrev o14_0:List Ins:=[JS 2 (.box 3 (.t 0)),JS 4 (Ji 0)]
abbrev o14_1:List Ins:=[JS 5 (Ji 0)]
abbrev o14_2:List Ins:=[JS 6 (Ji 0)]
abbrev o14_3:List Ins:=[JS 7 (Jm 6),JS 8 (Jm 1),JS 9 (Jn 8),JS 10 (Jb .lss 7 9)]
abbrev v14_4:VC:=(.cond (.t 10) .skip (.exit 0))
abbrev o14_5:List Ins:=[JF 13 (Jm 5),JF 14 (Jm 1),JF 15 (Jm 6),JF 16 (Ja 1 14 15),JF 17 (Jl 16),JF 18 (Jf 2 2),JF 19 (Jl 18),JF 20 (Jm 6),JF 21 (Ja 1 19 20),JF 22 (Jl 21),JF 23 (Jb .mul 17 22),JS 24 (Jb .add 13 23),JS 5 (Jm 24)]
abbrev o14_6:List Ins:=[JS 11 (Jm 6),JS 12 (Jk .add 11 1),JS 6 (Jm 12)]
abbrev v14_7:VC:=(.seq (.block 1 (.dops o14_5)) (.ops o14_6))
abbrev v14_8:VC:=(.seq (.seq (.ops o14_3) v14_4) v14_7)
-- K14_1: changed and kept: [6,5]
abbrev v14_9:VC:=(.loop v14_8)
abbrev v14_10:VC:=(.block 0 v14_9)
abbrev o14_11:List Ins:=[JS 25 (Jm 5),JS 4 (Jm 25)]
abbrev v14_12:VC:=(.seq (.ops o14_11) .ret)
abbrev v14_13:VC:=(.seq (.seq (.ops o14_2) v14_10) v14_12)
abbrev v14_14:VC:=(.seq (.ops o14_1) v14_13)
def ir14:FC:=⟨2,26,[.t 4],(.seq (.ops o14_0) v14_14)⟩
abbrev o8_0:List Ins:=[JS 0 (JB false)]
abbrev o8_1:List Ins:=[JS 7 (.bsl 3 1 [(.k (Jz 10)),(.k (Jz 20)),(.k (Jz 25))]),JS 8 (.bsl 3 1 [(.k (Jz 5)),(.k (Jz 10)),(.k (Jz 25))]),JS 9 (.bld [Jz 0,J0,J0] [(0,1,(.k (Jz 50))),(1,1,(.t 7)),(2,1,(.t 8))]),JS 1 (.alloc [Jz 0,J0,J0]),JN (Js 3 1 9)]
abbrev o8_2:List Ins:=[JS 11 (JL 3 1),JS 12 (.bsl 3 1 [(.k (Jz 0)),(.k (Jz 0)),(.k (Jz 2))]),JS 13 (Jc 23 [.t 11,.t 12]),JS 10 (Jm 13),JS 14 (Je 10 0),JS 15 (Je 10 1),JS 2 (Jm 14),JS 3 (Jm 15)]
abbrev o8_3:List Ins:=[JS 16 (.bsl 3 1 [(.k (Jz 0)),(.k (Jz 0)),(.k (Jz 0))]),JS 4 (Jm 16)]
abbrev o8_4:List Ins:=[JS 18 (JL 3 1),JS 19 (Jm 4),JS 20 (Jm 4),JS 21 (Jm 4),JS 22 (.bld [Jz 0,J0,J0,J0,J0,J0,Jz 0,Jz 0] [(0,3,(.t 18)),(3,1,(.t 19)),(4,1,(.t 20)),(5,1,(.t 21)),(6,1,(.k (Jz 3)))]),JS 23 (Jc 12 [.t 22]),JS 17 (Jm 23),JS 24 (Je 17 0),JS 25 (Je 17 1),JS 5 (Jm 24),JS 6 (Jm 25)]
abbrev o8_5:List Ins:=[JS 26 (Jm 3),JS 27 (Jk .eql 26 0),JS 28 (Jm 27),JG 29 (Jm 6) 28 true,JG 30 (Jk .eql 29 0) 28 true,JS 31 (Jp 28 30),JS 32 (Jm 31),JG 33 (Jm 2) 32 true,JG 34 (Jk .eql 33 6) 32 true,JS 35 (Jp 32 34),JS 36 (Jm 35),JG 37 (Jm 5) 36 true,JG 38 (Jk .eql 37 25) 36 true,JS 39 (Jp 36 38),JS 0 (Jm 39)]
abbrev v8_6:VC:=(.seq (.ops o8_5) .ret)
abbrev v8_7:VC:=(.seq (.ops o8_4) v8_6)
abbrev v8_8:VC:=(.seq (.ops o8_3) v8_7)
abbrev v8_9:VC:=(.seq (.ops o8_2) v8_8)
abbrev v8_10:VC:=(.seq (.ops o8_1) v8_9)
def ir8:FC:=⟨0,40,[.t 0],(.seq (.ops o8_0) v8_10)⟩
theorem c14:compM Tryz.prog [] 14 = some ir14:=by kernel_rfl
theorem c8:compM Tryz.prog [] 8 = some ir8:=by kernel_rfl
attribute [local go_sem] Nat.reduceEqDiff Nat.reduceAdd Nat.reduceMul reduceIte Nat.reduceLeDiff Nat.reduceLT Nat.reduceBEq reduceCtorEq
set_option maxHeartbeats 8000000 in
theorem purse14 {w:Wh} (hw:WhOk w) {l:List Int} (hl:l.length ≤ w.co.length) (hn:∀ n ∈ l,0 ≤ n ∧ n ≤ 14):FSpec Tryz.prog 14 [w.av,.c (ints l)] (iv (worth w l)):=by
 have hcl:=hw.cl
 refine FSpec_of c14 (Nat.le_refl _) (by decide) fun C hP hN hC hL => ?_; rw [init_st]
 simp only [ir14,Wh.av,Wh.avs]
 (repeat ((first | refine Va ?_ | refine Vb ?_ | refine Vc ?_ | refine Vd ?_ | refine Ve ?_ | refine Vf ?_); (try simp only [go_sem,hP]); (repeat refine qJ ?_)))
 refine WV_loopK [1,2] [] (fun k:Nat => k ≤ l.length) (fun k => l.length - k) (fun k => [(6,iv k),(5,iv (worthK w l k))]) (fun _ => []) 0 (Nat.zero_le _) ?_ ?_
 ·(refine Sub_of (by simp only [go_sem]; ((repeat' (first | exact EnvLe_e0 _ _ | refine EnvLe_upd ?_ ?_)) <;> ((try simp only [upd_app,e0_app,o0_app,Nat.reduceEqDiff,reduceIte]); first | exact AWk.refl _ _ | exact AWk.int (by omega) | exact AWk.int (by rw [w64 (by omega) (by omega)]; omega) | exact AWk.grow rfl | exact AWk.nil _ | exact AWk.of (by simp [worthK])))) (by simp only [go_sem]; exact ObjLe_au))
 intro k hk
 (repeat ((first | refine Va ?_ | refine Vb ?_ | refine Vc ?_ | refine Vd ?_ | refine Ve ?_ | refine Vf ?_); (try simp only [go_sem,hP,ints,List.length_map]); (repeat refine qJ ?_)))
 (refine WV_cond rfl (fun h => ?_) (fun h => ?_))
 ·have hi:k < l.length:=by simpa using h
  clear h
  have hi2:k < w.co.length:=by omega
  have g1:=ints_get hi
  have g2:=ints_get hi2
  have e1:=getD_in hn hi
  have e2:=getD_in hw.co hi2
  have hb:=worthK_ok hw hl hn k (by omega)
  have hs:worthK w l (k + 1) = worthK w l k + l.getD k 0 * w.co.getD k 0:=rfl
  generalize l.getD k 0 = x at *
  generalize w.co.getD k 0 = y at *
  have h1:0 ≤ x * y:=Int.mul_nonneg (by omega) (by omega)
  have h2:x * y ≤ 14 * 100:=Int.mul_le_mul e1.2 e2.2 (by omega) (by omega)
  have w1:=w64 (n:=(k:Int) + 1) (by omega) (by omega)
  have w2:=w64 (n:=x * y) (by omega) (by omega)
  have w3:=w64 (n:=worthK w l k + x * y) (by omega) (by omega)
  (repeat ((first | refine Va ?_ | refine Vb ?_ | refine Vc ?_ | refine Vd ?_ | refine Ve ?_ | refine Vf ?_); (try simp only [go_sem,hP,g1,g2,ints,List.length_map,Int.toNat_natCast,Int.ofNat_lt,hi,hi2,Int.natCast_nonneg,w1,w2,w3]); (repeat refine qJ ?_)))
  refine ⟨k + 1,by omega,by omega,?_⟩
  rw [hs]
  (refine Sub_of (by simp only [go_sem]; ((repeat' (first | exact EnvLe_e0 _ _ | refine EnvLe_upd ?_ ?_)) <;> ((try simp only [upd_app,e0_app,o0_app,Nat.reduceEqDiff,reduceIte]); first | exact AWk.refl _ _ | exact AWk.int (by omega) | exact AWk.int (by rw [w64 (by omega) (by omega)]; omega) | exact AWk.grow rfl | exact AWk.nil _ | exact AWk.of (by simp [ints])))) (by simp only [go_sem]; exact ObjLe_au))
 ·have hi:k = l.length:=by simp at h; omega
  subst hi
  (repeat ((first | refine Va ?_ | refine Vb ?_ | refine Vc ?_ | refine Vd ?_ | refine Ve ?_ | refine Vf ?_); (try simp only [go_sem,hP]); (repeat refine qJ ?_)))
  (refine WV_ret ?_; simp only [thenQ,inQ,RetQ,RetOk,resAll,resA]; simp only [go_sem,tupA,AV.port,AV.portL,exists_eq_left',worth]; (first | exact AVle.of rfl | refine AVle.of ?_ | skip))
def exW:Wh:=⟨50,[10,20,25],[5,10,25]⟩
def exB:Bx:=⟨exW,[0,0,0],[0,0,0],[0,0,0],3,0⟩
theorem ex_most2:mostS exW [0,0,2] = 6:=by kernel_rfl
set_option maxRecDepth 100000 in
theorem ex_miss:missB exB = (25,0):=by kernel_rfl
theorem exW_ok:whB exW = true:=by kernel_rfl
theorem exP_ok:PurseOk exW [0,0,2]:=⟨rfl,(fun n hn => by simp at hn; omega),by decide⟩
set_option maxHeartbeats 8000000 in
theorem bought8:FSpec Tryz.prog 8 [] (.c (.bool true)):=by
 have hm:=most23 exW_ok exP_ok
 have hs:=missing29 exB
 rw [ex_most2] at hm
 rw [ex_miss] at hs
 refine FSpec_of c8 (Nat.le_refl _) (by decide) fun C hP hN hC hL => ?_; rw [init_st]
 simp only [ir8]
 (repeat ((first | refine Va ?_ | refine Vb ?_ | refine Vc ?_ | refine Vd ?_ | refine Ve ?_ | refine Vf ?_); (try simp only [go_sem,hP]); (repeat refine qJ ?_)))
 (refine AS_pu (hm) ?_; simp only [go_sem,hP]; (repeat refine qJ ?_); (repeat ((first | refine Va ?_ | refine Vb ?_ | refine Vc ?_ | refine Vd ?_ | refine Ve ?_ | refine Vf ?_); (try simp only [go_sem,hP]); (repeat refine qJ ?_))))
 (refine AS_pu (hs) ?_; simp only [go_sem,hP]; (repeat refine qJ ?_); (repeat ((first | refine Va ?_ | refine Vb ?_ | refine Vc ?_ | refine Vd ?_ | refine Ve ?_ | refine Vf ?_); (try simp only [go_sem,hP]); (repeat refine qJ ?_))))
 (refine WV_ret ?_; simp only [thenQ,inQ,RetQ,RetOk,resAll,resA]; simp only [go_sem,tupA,AV.port,AV.portL,exists_eq_left']; (first | exact AVle.of rfl | refine AVle.of ?_ | skip))
end Go.Proofs.YtbclmfjibpppfaaGreat

/-
 Trays as data: plain.
-/
namespace Go.Proofs.YtbclmfjibpppfaaGreat
open Go Go.V
abbrev bv (b:Bool):AV:=.c (.bool b)
structure Rec where
 front:Int
 back:Int
 deriving DecidableEq,Inhabited
structure Pr where
 side:Int
 time:Int
 deriving DecidableEq,Inhabited
structure Tray where
 recs:List Rec
 at_:Int
 way:Int
 step:Int
 pres:List Pr
 deriving DecidableEq,Inhabited
def Rec.cds (s:Rec):List CD:=[.int .i64 s.front,.int .i64 s.back]
def recsC (l:List Rec):CD:=.sl 2 (l.map Rec.cds)
def Pr.cds (p:Pr):List CD:=[.int .i64 p.side,.int .i64 p.time]
def prsC (l:List Pr):CD:=.sl 2 (l.map Pr.cds)
def Tray.cds (t:Tray):List CD:=[recsC t.recs,.int .i64 t.at_,.int .i64 t.way,.int .i64 t.step,prsC t.pres]
def Tray.av (t:Tray):AV:=.agg [.c (recsC t.recs),iv t.at_,iv t.way,iv t.step,.c (prsC t.pres)]
def Tray.n (t:Tray):Nat:=t.recs.length
def okRec (r:Rec):Bool:=within r.front 1 999 && within r.back 1 999
def isSide (n:Nat) (s:Int):Bool:=within s 0 (2 * (n:Int) - 1)
def isTime (x:Int):Bool:=within x 0 9999
def okPr (n:Nat) (p:Pr):Bool:=isSide n p.side && isTime p.time
def Tray.okHead (t:Tray):Bool:=within t.n 1 6 && within t.at_ 0 ((t.n:Int) - 1) && (t.way == 1 || t.way == -1) && within t.step 0 60
def Tray.ok (t:Tray):Bool:=t.okHead && t.recs.all okRec && decide (t.pres.length ≤ 12) && t.pres.all (okPr t.n)
theorem recsC_lens {l:List Rec} (h:(recsC l).lens):l.length ≤ 9223372036854775807:=by
 simp only [recsC,CD.lens,List.length_map,maxLen] at h; omega
theorem prsC_lens {l:List Pr} (h:(prsC l).lens):l.length ≤ 9223372036854775807:=by
 simp only [prsC,CD.lens,List.length_map,maxLen] at h; omega
theorem Tray.lens {t:Tray} {xs:List AV} (h:AV.lensL (t.av :: xs)):t.recs.length ≤ 9223372036854775807 ∧ t.pres.length ≤ 9223372036854775807:=by
 simp only [AV.lensL,Tray.av,AV.lens] at h
 exact ⟨recsC_lens h.1.1,prsC_lens h.1.2.2.2.2.1⟩
theorem pr_two (r:Pr):r.cds.length = 2:=rfl
theorem recs_two (l:List Rec):((l.map Rec.cds).all fun e => e.length == 2) = true:=by
 rw [List.all_eq_true]; intro e he; obtain ⟨n,_,rfl⟩:=List.mem_map.1 he; rfl
theorem prs_two (l:List Pr):((l.map Pr.cds).all fun e => e.length == 2) = true:=by
 rw [List.all_eq_true]; intro e he; obtain ⟨n,_,rfl⟩:=List.mem_map.1 he; rfl
attribute [go_sem] Int.toNat_natCast List.length_map List.length_set Nat.mul_one Nat.zero_add Int.natCast_nonneg
structure TrayOk (t:Tray):Prop where
 n1:1 ≤ t.n
 n6:t.n ≤ 6
 at_:0 ≤ t.at_ ∧ t.at_ < (t.n:Int)
 way:t.way = 1 ∨ t.way = -1
 step:0 ≤ t.step ∧ t.step ≤ 60
 recs:∀ r ∈ t.recs,(1 ≤ r.front ∧ r.front ≤ 999) ∧ (1 ≤ r.back ∧ r.back ≤ 999)
 pres:∀ p ∈ t.pres,(0 ≤ p.side ∧ p.side < 2 * (t.n:Int)) ∧ (0 ≤ p.time ∧ p.time ≤ 9999)
 p13:t.pres.length ≤ 13
theorem Tray.ok_spec {t:Tray} (h:t.ok = true):TrayOk t ∧ t.pres.length ≤ 12:=by
 simp only [Tray.ok,Tray.okHead,Bool.and_eq_true,Bool.or_eq_true,beq_iff_eq,decide_eq_true_eq,List.all_eq_true,okRec,okPr,isSide,isTime,within] at h
 obtain ⟨⟨⟨⟨⟨⟨h1,h2⟩,h3⟩,h4⟩,h5⟩,h6⟩,h7⟩:=h
 exact ⟨⟨by omega,by omega,by omega,h3,h4,h5,fun p hp => by have:=h7 p hp; omega,by omega⟩,h6⟩
end Go.Proofs.YtbclmfjibpppfaaGreat
