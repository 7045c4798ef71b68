/-
  Contracts of the layer's functions, of the laws' helpers and of the law; conditions: as each theorem states.
-/
import Derived.Test.YtbclmfjibpppfaaGreatU6
import Derived.Test.YtbclmfjibpppfaaGreatU7
set_option linter.unusedVariables false
set_option linter.unusedSimpArgs false
/-
 What was pressed and paid,plain.
-/
namespace Go.Proofs.YtbclmfjibpppfaaGreat
open Go Go.V
theorem plays_le {t:Tray} (ht:TrayOk t):(playsS t).length ≤ t.pres.length:=by
 have h:∀ i,∃ k,i < (playsS t).length → k < t.pres.length ∧ servesI (playsS t) (t.pr (k:Int)) 0 = (i:Int):=fun i => by
  by_cases hi:i < (playsS t).length
  ·obtain ⟨k,h1,h2⟩:=play_serves ht hi
   exact ⟨k,fun _ => ⟨h1,h2⟩⟩
  ·exact ⟨0,fun h => absurd h hi⟩
 obtain ⟨f,hf⟩:=Classical.axiomOfChoice h
 have h1:((List.range (playsS t).length).map f).Nodup:=by
  refine (List.pairwise_map.2 ?_:List.Pairwise (· ≠ ·) _)
  refine (List.nodup_range (n:=(playsS t).length)).imp_of_mem fun {a b} ha hb hab he => hab ?_
  have h2:=(hf a (List.mem_range.1 ha)).2
  have h3:=(hf b (List.mem_range.1 hb)).2
  rw [he,h3] at h2
  omega
 have h2:=nodup_lt t.pres.length _ h1 fun x hx => by
  obtain ⟨i,hi,rfl⟩:=List.mem_map.1 hx
  exact (hf i (List.mem_range.1 hi)).1
 simpa using h2
inductive WR (w:Wh) (A:Bag):Pt → Prop
 | st:WR w A p00
 | sel {x:Pt} {a:Int} {y:Pt}:WR w A x → (a,y) ∈ selN x → WR w A (trim A y)
 | coin {x:Pt} {a:Int} {y:Pt} {k:Nat}:WR w A x → k < w.co.length → (a,y) ∈ coinN w A x k → WR w A (trim A y)
def AllR (w:Wh) (A:Bag) (s:Seen × List Pt):Prop:=(∀ e ∈ s.1,WR w A e.1) ∧ ∀ x ∈ s.2,WR w A x
theorem AllR.add {w:Wh} {A:Bag} {s:Seen × List Pt} (h:AllR w A s) {act:Int} {x y:Pt} (hy:WR w A (trim A y)):AllR w A (addS A act x s y):=by
 unfold addS
 split
 ·exact h
 ·refine ⟨fun e he => ?_,fun z hz => ?_⟩
  ·rcases List.mem_append.1 he with he | he
   ·exact h.1 e he
   ·simp only [List.mem_singleton] at he; subst he; exact hy
  ·rcases List.mem_append.1 hz with hz | hz
   ·exact h.2 z hz
   ·simp only [List.mem_singleton] at hz; subst hz; exact hy
theorem AllR.addAll {w:Wh} {A:Bag} {x:Pt}:∀ {l:List (Int × Pt)} {s:Seen × List Pt},AllR w A s → (∀ e ∈ l,WR w A (trim A e.2)) → AllR w A (addAll A x l s)
 | [],s,h,_ => h
 | e :: l,s,h,hl => AllR.addAll (l:=l) (s:=addS A e.1 x s e.2) (h.add (hl e (by simp))) fun e' he' => hl e' (by simp [he'])
theorem AllR.expand {w:Wh} {A:Bag} {x:Pt} {s:Seen × List Pt} (h:AllR w A s) (hx:WR w A x):AllR w A (expand w A x s):=by
 refine AllR.addAll (AllR.addAll h fun e he => .sel hx he) fun e he => ?_
 obtain ⟨k,hk,h2⟩:=List.mem_flatMap.1 he
 exact .coin hx (List.mem_range.1 hk) h2
theorem bfs_R {w:Wh} {A:Bag}:∀ (n:Nat) (s:Seen × List Pt),AllR w A s → ∀ e ∈ bfs w A n s,WR w A e.1
 | 0,s,h,e,he => h.1 e he
 | n + 1,(S,[]),h,e,he => h.1 e he
 | n + 1,(S,x :: q),h,e,he => bfs_R n _ (AllR.expand (s:=(S,q)) ⟨h.1,fun z hz => h.2 z (by simp [hz])⟩ (h.2 x (by simp))) e he
theorem walk_R {w:Wh} {A:Bag}:∀ e ∈ walkS w A,WR w A e.1:=by
 refine bfs_R _ _ ⟨fun e he => ?_,fun x hx => ?_⟩
 ·simp only [List.mem_singleton] at he; subst he; exact .st
 ·simp only [List.mem_singleton] at hx; subst hx; exact .st
def wB (w:Wh) (x:Bag):Int:=x.a * w.co.getD 0 0 + x.b * w.co.getD 1 0 + x.c * w.co.getD 2 0 + x.d * w.co.getD 3 0
theorem wB_inc {w:Wh} (x:Bag) {k:Nat} (hk:k < 4):wB w (x.inc k) = wB w x + w.co.getD k 0:=by
 have:k = 0 ∨ k = 1 ∨ k = 2 ∨ k = 3:=by omega
 rcases this with rfl | rfl | rfl | rfl <;> simp only [wB,Bag.inc,Int.add_mul,Int.one_mul] <;> omega
def Sim (w:Wh) (n:Int) (p:Pt):Prop :=
 (∃ t:Nat,(t:Int) ≤ wB w p.bag ∧ HitC w n t) ∨ ∃ (t:Nat) (x:Cp),(t:Int) = wB w p.bag ∧ Rch w n t x ∧ x.bo = p.bo ∧ x.bo < n ∧ x.cr ≤ x.bo ∧ ∃ s ∈ stds x,s.1 = p.pl ∧ p.cr ≤ s.2
theorem sim {w:Wh} (hw:WhOk w) {n:Int} (hn:1 ≤ n ∧ n ≤ 20) {A:Bag} {p:Pt} (h:WR w A p):Sim w n p:=by
 have hcl:=hw.cl
 induction h with
 | st =>
  exact .inr ⟨0,⟨0,0,0⟩,by simp [wB,p00,Pt.bag],.st,rfl,by simp only; omega,by simp,(0,0),by simp [stds],rfl,by simp [p00]⟩
 | sel hx ha ih =>
  rename_i x a y
  unfold selN at ha
  split at ha
  ·rename_i hc
   simp only [List.mem_singleton,Prod.mk.injEq] at ha
   obtain ⟨_,rfl⟩:=ha
   rcases ih with ⟨t,h1,h2⟩ | ⟨t,z,h1,h2,h3,h4,h5,s,h6,h7,h8⟩
   ·exact .inl ⟨t,h1,h2⟩
   ·refine .inr ⟨t,z,h1,h2,h3,h4,h5,(0,z.cr - 1),?_,rfl,?_⟩
    ·have hs:s = (z.pl,z.cr):=by
      unfold stds at h6
      rcases List.mem_cons.1 h6 with h6 | h6
      ·exact h6
      ·split at h6
       ·simp only [List.mem_singleton] at h6
        subst h6
        simp only at h7
        omega
       ·cases h6
     subst hs
     simp only at h7 h8
     unfold stds
     rw [if_pos ⟨by omega,by omega⟩]
     simp
    ·have hs2:s.2 ≤ z.cr:=by
      unfold stds at h6
      rcases List.mem_cons.1 h6 with h6 | h6
      ·subst h6; exact Int.le_refl _
      ·split at h6
       ·simp only [List.mem_singleton] at h6
        subst h6
        simp only; omega
       ·cases h6
     show min (x.cr - 1) _ ≤ z.cr - 1
     omega
  ·cases ha
 | coin hx hk ha ih =>
  rename_i x a y k
  unfold coinN at ha
  split at ha
  ·cases ha
  ·simp only [List.mem_singleton,Prod.mk.injEq] at ha
   obtain ⟨_,rfl⟩:=ha
   have hco:=coK_in hw hk
   have hbag:(trim A (x.with ((x.pl + w.co.getD k 0) % w.ro) (x.cr + plays w x.pl (w.co.getD k 0)) (x.bag.inc k) (x.bo + plays w x.pl (w.co.getD k 0)))).bag = x.bag.inc k:=rfl
   have hin:=wB_inc (w:=w) x.bag (k:=k) (by omega)
   rcases ih with ⟨t,h1,h2⟩ | ⟨t,z,h1,h2,h3,h4,h5,s,h6,h7,h8⟩
   ·exact .inl ⟨t,by rw [hbag,hin]; omega,h2⟩
   ·have hg:=Rch.go h2 h4 h6 hk
    have ht:((t + coK w k:Nat):Int) = wB w (x.bag.inc k):=by rw [hin,Int.natCast_add,h1,hco.2.2.1]
    have hp:=plays_ok hw (p:=s.1) (c:=w.co.getD k 0) (by omega)
    by_cases hb:n ≤ (nxt w n z s k).bo
    ·exact .inl ⟨_,by rw [hbag,ht]; exact Int.le_refl _,_,hg,hb⟩
    ·have hs2:s.2 ≤ z.cr:=by
      unfold stds at h6
      rcases List.mem_cons.1 h6 with h6 | h6
      ·subst h6; exact Int.le_refl _
      ·split at h6
       ·simp only [List.mem_singleton] at h6
        subst h6
        simp only; omega
       ·cases h6
     have hbo:(nxt w n z s k).bo = z.bo + plays w s.1 (w.co.getD k 0):=rfl
     have hcr:(nxt w n z s k).cr = min (s.2 + plays w s.1 (w.co.getD k 0)) n:=rfl
     refine .inr ⟨_,_,by rw [hbag]; exact ht,hg,?_,by omega,by omega,((nxt w n z s k).pl,(nxt w n z s k).cr),by simp [stds],?_,?_⟩
     ·rw [hbo,h3,h7]; rfl
     ·show (s.1 + w.co.getD k 0) % w.ro = (x.pl + w.co.getD k 0) % w.ro
      rw [h7]
     ·show min (x.cr + plays w x.pl (w.co.getD k 0)) _ ≤ (nxt w n z s k).cr
      rw [hcr,h7]
      rw [hbo,h7] at hb
      rw [h7] at hp
      omega
theorem nobuy {w:Wh} {n:Int} (h0:w.no = []) {t:Nat} {y:Cp} (h:Rch w n t y):y.bo = 0:=by
 induction h with
 | st => rfl
 | go h1 h2 h3 h4 ih => simp only [nxt,ih,plays,h0,List.map_nil,List.sum_nil]; rfl
theorem nocoin {w:Wh} {n:Int} (h0:w.co = []) {t:Nat} {y:Cp} (h:Rch w n t y):y.bo = 0:=by
 cases h with
 | st => rfl
 | go h1 h2 h3 h4 => rw [h0] at h4; simp at h4
theorem least {p:Nat → Prop} {t:Nat} (h:p t):∃ u,u ≤ t ∧ p u ∧ ∀ v,v < u → ¬ p v:=by
 induction t using Nat.strongRecOn with
 | ind t ih =>
  by_cases he:∃ u,u < t ∧ p u
  ·obtain ⟨u,hu,hpu⟩:=he
   obtain ⟨v,h1,h2,h3⟩:=ih u hu hpu
   exact ⟨v,by omega,h2,h3⟩
  ·exact ⟨t,Nat.le_refl _,h,fun v hv hp => he ⟨v,hv,hp⟩⟩
theorem worth_wB {w:Wh} (hw:WhOk w) {l:List Int} (hl:l.length ≤ w.co.length):worth w l = wB w ⟨l.getD 0 0,l.getD 1 0,l.getD 2 0,l.getD 3 0⟩:=by
 have hcl:=hw.cl
 match l,hl with
 | [],_ => simp [worth,worthK,wB]
 | [a],_ => simp [worth,worthK,wB]
 | [a,b],_ => simp [worth,worthK,wB]
 | [a,b,c],_ => simp [worth,worthK,wB]
 | [a,b,c,d],_ => simp [worth,worthK,wB]
 | a :: b :: c :: d :: e :: l,h => simp at h; omega
theorem fold_hit {b:Bx}:∀ {l:List (List Int)} {F:List (List Int)},(∀ q ∈ F,hitB b (pur b q) = true) → ∀ q ∈ l.foldl (fndS b) F,hitB b (pur b q) = true
 | [],F,h,q,hq => h q hq
 | p :: l,F,h,q,hq => by
  refine fold_hit (l:=l) (F:=fndS b F p) (fun r hr => ?_) q hq
  unfold fndS at hr
  split at hr
  ·exact h r hr
  ·split at hr
   ·rename_i hp
    split at hr
    ·simp only [List.mem_singleton] at hr; subst hr; exact hp
    ·rcases List.mem_append.1 hr with hr | hr
     ·exact h r hr
     ·simp only [List.mem_singleton] at hr; subst hr; exact hp
   ·exact h r hr
theorem fndAll_hit {b:Bx}:∀ q ∈ fndAll b,hitB b (pur b q) = true:=fold_hit fun q hq => by cases hq
theorem paid {b:Bx} (hwb:whB b.wh = true) (hb:BxOk b) {n:Int} (hn:1 ≤ n ∧ n ≤ 12) (hpl:b.pl = n) (hsk:b.sk = 0) (hf:fndAll b ≠ []) :
  ∃ c:Int,cheapP b.wh n = (c,0) ∧ c ≤ worth b.wh ((fndAll b).getD 0 []) + worth b.wh (putL b):=by
 have hw:=whB_ok hwb
 obtain ⟨p,ps,hps⟩ : ∃ p ps,fndAll b = p :: ps:=by
  cases h:fndAll b with
  | nil => exact absurd h hf
  | cons p ps => exact ⟨p,ps,rfl⟩
 have hp:=fndAll_ok p (by rw [hps]; simp)
 have hhit:hitB b (pur b p) = true:=fndAll_hit p (by rw [hps]; simp)
 rw [hps,List.getD_cons_zero]
 unfold hitB at hhit
 rw [List.any_eq_true] at hhit
 obtain ⟨e,he,h2⟩:=hhit
 simp only [Bool.and_eq_true,decide_eq_true_eq,within] at h2
 obtain ⟨h3,h4,h5⟩:=h2
 have hsim:=sim hw (n:=n) ⟨hn.1,by omega⟩ (walk_R e he)
 have hsim:∃ t:Nat,(t:Int) ≤ wB b.wh e.1.bag ∧ HitC b.wh n t:=by
  rcases hsim with h | ⟨t,x,_,_,h6,h7,_⟩
  ·exact h
  ·omega
 obtain ⟨t,h6,h7⟩:=hsim
 obtain ⟨u,hu,h8,h9⟩:=least h7
 have hcn:=cheapN_eq h8 h9
 have hne:¬ (b.wh.co = [] ∨ b.wh.no = []):=by
  obtain ⟨y,hy,hyb⟩:=h7
  rintro (h | h)
  ·rw [nocoin h hy] at hyb; omega
  ·rw [nobuy h hy] at hyb; omega
 have hop:openE b.wh (within n 1 20) = 0:=by
  unfold openE
  rw [hwb,if_pos rfl,if_pos]
  simp only [within,Bool.and_eq_true,decide_eq_true_eq]; omega
 refine ⟨(u:Int),by unfold cheapP; rw [if_pos hop,if_neg hne,hcn],?_⟩
 rw [h3] at h6
 have e1:=worth_wB hw (l:=p) hp.len
 have e2:=worth_wB hw (l:=putL b) (by simp [putL,addL]; have:=hb.fl; omega)
 have e3:wB b.wh (pur b p) = worth b.wh p + worth b.wh (putL b):=by
  rw [e1,e2]
  simp only [wB,pur,Int.add_mul]; omega
 omega
end Go.Proofs.YtbclmfjibpppfaaGreat

namespace Go.Proofs.YtbclmfjibpppfaaGreat
open Go Go.V
abbrev o3_0:List Ins:=[JS 2 (.box 5 (.t 0)),JS 3 (.box 8 (.t 1)),JS 4 (JB false)]
abbrev o3_1:List Ins:=[JS 12 (JL 5 2),JS 13 (Jc 4 [.t 12]),JS 14 (Jm 13),JG 15 (JL 8 3) 14 false,JG 16 (Jc 5 [.t 15]) 14 false,JS 17 (Jo 14 16),JS 18 (Jm 17),JG 19 (JL 5 2) 18 false,JG 20 (Jc 6 [.t 19]) 18 false,JG 21 (Jk .neq 20 0) 18 false,JS 22 (Jo 18 21),JS 23 (Jm 22),JG 24 (JL 8 3) 23 false,JG 25 (Jc 7 [.t 24]) 23 false,JG 26 (Jk .neq 25 0) 23 false,JS 27 (Jo 23 26),JS 28 (Jm 27),JG 29 (Jf 4 2) 28 false,JG 30 (Jl 29) 28 false,JG 31 (Jn 30) 28 false,JG 32 (Jk .eql 31 0) 28 false,JS 33 (Jo 28 32)]
abbrev o3_2:List Ins:=[JS 34 (Jc 8 []),JS 4 (Jm 34)]
abbrev v3_3:VC:=(.seq (.ops o3_2) .ret)
abbrev v3_4:VC:=(.cond (.t 33) v3_3 .skip)
abbrev o3_5:List Ins:=[JS 35 (JL 8 3),JS 36 (Jc 9 [.t 35]),JS 5 (.alloc [Jz 0,J0,J0,J0,J0,J0,Jz 0,Jz 0]),JN (Js 8 5 36)]
abbrev o3_6:List Ins:=[JS 37 (Jf 4 2),JS 38 (Jl 37),JS 39 (Jn 38),JS 40 (Jf 6 5),JN (Js 1 40 39),JS 41 (Jf 7 5),JN (.st 1 (.t 41) (.k (Jz 0)))]
abbrev o3_7:List Ins:=[JS 43 (JL 5 2),JS 44 (Jc 11 [.t 43]),JS 45 (Jc 10 [.t 44]),JS 42 (Jm 45),JS 46 (Je 42 0),JS 47 (Je 42 1),JS 6 (Jm 46),JS 7 (Jm 47)]
abbrev o3_8:List Ins:=[JS 49 (JL 8 5),JS 50 (Jc 12 [.t 49]),JS 48 (Jm 50),JS 51 (Je 48 0),JS 52 (Je 48 1),JS 8 (Jm 51),JS 9 (Jm 52)]
abbrev o3_9:List Ins:=[JS 53 (Jm 7),JS 54 (Jk .neq 53 0),JS 55 (Jm 54),JG 56 (Jm 6) 55 false,JG 57 (Jn 56) 55 false,JG 58 (Jk .lss 57 1) 55 false,JS 59 (Jo 55 58),JS 60 (Jm 59),JG 61 (Jm 6) 60 false,JG 62 (Jn 61) 60 false,JG 63 (Jf 6 5) 60 false,JG 64 (Jl 63) 60 false,JG 65 (Jb .gtr 62 64) 60 false,JS 66 (Jo 60 65),JS 67 (Jm 66),JG 68 (Jm 9) 67 false,JG 69 (Jk .neq 68 0) 67 false,JG 70 (Jm 69) 67 false,JG 71 (Jm 9) 70 true,JG 72 (Jk .neq 71 3) 70 true,JG 73 (Jp 70 72) 67 false,JS 74 (Jo 67 73)]
abbrev o3_10:List Ins:=[JS 4 (JB false)]
abbrev v3_11:VC:=(.seq (.ops o3_10) .ret)
abbrev v3_12:VC:=(.cond (.t 74) v3_11 .skip)
abbrev o3_13:List Ins:=[JS 75 (Jm 9),JS 76 (Jk .neq 75 0)]
abbrev o3_14:List Ins:=[JS 77 (Jc 8 []),JS 4 (Jm 77)]
abbrev v3_15:VC:=(.seq (.ops o3_14) .ret)
abbrev v3_16:VC:=(.cond (.t 76) v3_15 .skip)
abbrev o3_17:List Ins:=[JS 79 (Jf 0 5),JS 80 (JL 3 79),JS 81 (Jf 6 5),JS 82 (Jl 81),JS 83 (Jc 13 [.t 80,.t 82]),JS 78 (Jm 83),JS 84 (Je 78 0),JS 85 (Je 78 1),JS 10 (Jm 84),JS 11 (Jm 85)]
abbrev o3_18:List Ins:=[JS 86 (Jm 11),JS 87 (Jk .eql 86 0),JS 88 (Jm 87),JG 89 (Jm 8) 88 true,JG 90 (Jk .geq 89 0) 88 true,JS 91 (Jp 88 90),JS 92 (Jm 91),JH 93 (Jm 10) 92 true,JH 94 (Jm 8) 92 true,JH 95 (Jf 0 5) 92 true,JH 96 (JL 3 95) 92 true,JH 97 (JL 8 5) 92 true,JH 98 (Jc 15 [.t 97]) 92 true,JH 99 (Jc 14 [.t 96,.t 98]) 92 true,JH 100 (Jb .add 94 99) 92 true,JG 101 (Jb .leq 93 100) 92 true,JS 102 (Jp 92 101),JS 103 (Jm 102),JG 104 (Jc 8 []) 103 true,JS 105 (Jp 103 104),JS 4 (Jm 105)]
abbrev v3_19:VC:=(.seq (.dops o3_18) .ret)
abbrev v3_20:VC:=(.seq (.ops o3_17) v3_19)
abbrev v3_21:VC:=(.seq (.seq (.ops o3_13) v3_16) v3_20)
abbrev v3_22:VC:=(.seq (.seq (.ops o3_9) v3_12) v3_21)
abbrev v3_23:VC:=(.seq (.ops o3_8) v3_22)
abbrev v3_24:VC:=(.seq (.ops o3_7) v3_23)
abbrev v3_25:VC:=(.seq (.ops o3_6) v3_24)
abbrev v3_26:VC:=(.seq (.ops o3_5) v3_25)
abbrev v3_27:VC:=(.seq (.seq (.ops o3_1) v3_4) v3_26)
def ir3:FC:=⟨2,106,[.t 4],(.seq (.ops o3_0) v3_27)⟩
theorem c3:compM Tryz.prog [] 3 = some ir3:=by kernel_rfl
attribute [local go_sem] Nat.reduceEqDiff Nat.reduceAdd Nat.reduceMul reduceIte Nat.reduceLeDiff Nat.reduceLT Nat.reduceBEq reduceCtorEq
theorem bx_with {b:Bx} (h:bxB b = true) {n:Int} (hn:0 ≤ n ∧ n ≤ 9999):bxB { b with pl:=n,sk:=0 } = true:=by
 simp only [bxB,Bool.and_eq_true,decide_eq_true_eq,within] at h ⊢
 obtain ⟨⟨⟨⟨⟨⟨⟨h1,h2⟩,h3⟩,h4⟩,h5⟩,h6⟩,h7⟩,h8⟩:=h
 exact ⟨⟨⟨⟨⟨⟨⟨h1,hn⟩,by omega⟩,h4⟩,h5⟩,h6⟩,h7⟩,h8⟩
set_option maxHeartbeats 8000000 in
set_option maxRecDepth 20000 in
theorem bought3 (t:Tray) (b:Bx):FSpec Tryz.prog 3 [t.av,b.av] (.c (.bool true)):=by
 refine FSpec_of c3 (Nat.le_refl _) (by decide) fun C hP hN hC hL => ?_; rw [init_st]
 simp only [ir3,Tray.av,Bx.av,Bx.avs]
 (repeat ((first | refine Va ?_ | refine Vb ?_ | refine Vc ?_ | refine Vd ?_ | refine Ve ?_ | refine Vf ?_); (try simp only [go_sem,hP]); (repeat refine qJ ?_)))
 (refine AS_pu (far28 t) ?_; simp only [go_sem,hP,Tray.av]; (repeat refine qJ ?_); (repeat ((first | refine Va ?_ | refine Vb ?_ | refine Vc ?_ | refine Vd ?_ | refine Ve ?_ | refine Vf ?_); (try simp only [go_sem,hP,Tray.av]); (repeat refine qJ ?_))))
 (refine AG_pu (fun hG => far7 b) ?_; simp only [go_sem,hP,Bx.av,Bx.avs]; (repeat refine qJ ?_); (repeat ((first | refine Va ?_ | refine Vb ?_ | refine Vc ?_ | refine Vd ?_ | refine Ve ?_ | refine Vf ?_); (try simp only [go_sem,hP,Bx.av,Bx.avs]); (repeat refine qJ ?_))))
 (refine AG_pu (fun hG => rcheck41 t) ?_; simp only [go_sem,hP,Tray.av]; (repeat refine qJ ?_); (repeat ((first | refine Va ?_ | refine Vb ?_ | refine Vc ?_ | refine Vd ?_ | refine Ve ?_ | refine Vf ?_); (try simp only [go_sem,hP,Tray.av]); (repeat refine qJ ?_))))
 (refine AG_pu (fun hG => check8 b) ?_; simp only [go_sem,hP,Bx.av,Bx.avs,prsC,List.length_map]; (repeat refine qJ ?_); (repeat ((first | refine Va ?_ | refine Vb ?_ | refine Vc ?_ | refine Vd ?_ | refine Ve ?_ | refine Vf ?_); (try simp only [go_sem,hP,Bx.av,Bx.avs,prsC,List.length_map]); (repeat refine qJ ?_))))
 (refine WV_cond rfl (fun h => ?_) (fun h => ?_))
 ·(repeat ((first | refine Va ?_ | refine Vb ?_ | refine Vc ?_ | refine Vd ?_ | refine Ve ?_ | refine Vf ?_); (try simp only [go_sem,hP]); (repeat refine qJ ?_)))
  (refine AS_pu (bought8) ?_; simp only [go_sem,hP]; (repeat refine qJ ?_); (repeat ((first | refine Va ?_ | refine Vb ?_ | refine Vc ?_ | refine Vd ?_ | refine Ve ?_ | refine Vf ?_); (try simp only [go_sem,hP]); (repeat refine qJ ?_))))
  (refine WV_ret ?_; simp only [thenQ,inQ,RetQ,RetOk,resAll,resA]; simp only [go_sem,tupA,AV.port,AV.portL,exists_eq_left']; (first | exact AVle.of rfl | refine AVle.of ?_ | skip))
 simp only [Bool.or_eq_false_iff] at h
 obtain ⟨⟨⟨⟨hf1,hf2⟩,hk1⟩,hk2⟩,hk3⟩:=h
 have htok:t.ok = true:=by
  cases h:t.ok with
  | true => rfl
  | false => rw [h] at hk1; simp at hk1
 have hbok:refOk b = true:=by
  unfold chkB at hk2
  cases h:refOk b with
  | true => rfl
  | false => rw [h] at hk2; simp at hk2
 have hpr:1 ≤ t.pres.length:=by
  cases h:t.pres with
  | nil => rw [h] at hk3; simp at hk3
  | cons a l => simp
 clear hf1 hf2 hk1 hk2 hk3
 obtain ⟨hto,hp12⟩:=Tray.ok_spec htok
 have hbx:=ref_bx hbok
 have hbo:=bxB_ok hbx
 have hcl:=hbo.wh.cl
 have hnl:=hbo.wh.nl
 have hfl:=hbo.fl
 have hml:=hbo.ml
 have hsl:=hbo.sl
 have hn6:=hto.n6
 have hrl:t.recs.length ≤ 1000:=by unfold Tray.n at hn6; omega
 obtain ⟨b2,hb2⟩ : ∃ b2:Bx,b2 = { b with pl:=(t.pres.length:Int),sk:=0 }:=⟨_,rfl⟩
 have hbx2:bxB b2 = true:=by rw [hb2]; exact bx_with hbx (by omega)
 have hbo2:=bxB_ok hbx2
 have hwh2:b2.wh = b.wh:=by rw [hb2]
 have hput2:putL b2 = putL b:=by rw [hb2]; rfl
 have hpl2:b2.pl = (t.pres.length:Int):=by rw [hb2]
 have hsk2:b2.sk = 0:=by rw [hb2]
 have hwb:whB b.wh = true:=by
  have:=hbx
  simp only [bxB,Bool.and_eq_true] at this
  exact this.1.1.1.1.1.1.1
 have hpl:=plays22 t
 unfold playsR at hpl
 rw [if_pos htok] at hpl
 simp only at hpl
 have hple:=plays_le hto
 have hple1:1 ≤ (playsS t).length:=by
  obtain ⟨p,hp⟩ : ∃ p,p ∈ t.pres:=by
   cases h:t.pres with
   | nil => rw [h] at hpr; simp at hpr
   | cons a l => exact ⟨a,by simp⟩
  obtain ⟨j,hj,_⟩:=served_ok (goes_ok hto) hp
  unfold playsS
  omega
 have hm:=missing29 b2
 have hch:=cheapest13 b.wh (t.pres.length:Int)
 have hput:=put19 (b:=b2) (by rw [hb2]; simp only; omega) (by rw [hb2]; simp only; omega) hbo2.fo hbo2.sn
 have hav:b2.av = .agg [iv b.wh.ro,.c (ints b.wh.no),.c (ints b.wh.co),.c (ints b.fo),.c (ints b.ma),.c (ints b.sl),iv (t.pres.length:Int),iv 0]:=by rw [hb2]; rfl
 rw [hav] at hm hput
 have hwo:=purse14 (w:=b.wh) hbo.wh (l:=putL b) (by simp [putL,addL]; omega) (fun n hn => by
  have h1:=hbok
  simp only [refOk,purB,Bool.and_eq_true] at h1
  have h2:=(lstB_ok h1.2.1).2 n hn
  omega)
 rw [hput2] at hput
 (repeat ((first | refine Va ?_ | refine Vb ?_ | refine Vc ?_ | refine Vd ?_ | refine Ve ?_ | refine Vf ?_); (try simp only [go_sem,hP]); (repeat refine qJ ?_)))
 (refine AS_pu (copy10 (b:=b) (by omega) (by omega) (by omega) (by omega) (by omega)) ?_; simp only [go_sem,hP,Bx.av,Bx.avs]; (repeat refine qJ ?_); (repeat ((first | refine Va ?_ | refine Vb ?_ | refine Vc ?_ | refine Vd ?_ | refine Ve ?_ | refine Vf ?_); (try simp only [go_sem,hP,Bx.av,Bx.avs]); (repeat refine qJ ?_))))
 (refine AS_pu (copy20 t hrl (by omega)) ?_; simp only [go_sem,hP,Tray.av]; (repeat refine qJ ?_); (repeat ((first | refine Va ?_ | refine Vb ?_ | refine Vc ?_ | refine Vd ?_ | refine Ve ?_ | refine Vf ?_); (try simp only [go_sem,hP,Tray.av]); (repeat refine qJ ?_))))
 (refine AS_pu (hpl) ?_; simp only [go_sem,hP,Tray.av,prsC,List.length_map]; (repeat refine qJ ?_); (repeat ((first | refine Va ?_ | refine Vb ?_ | refine Vc ?_ | refine Vd ?_ | refine Ve ?_ | refine Vf ?_); (try simp only [go_sem,hP,Tray.av,prsC,List.length_map]); (repeat refine qJ ?_))))
 (refine AS_pu (hm) ?_; simp only [go_sem,hP]; (repeat refine qJ ?_); (repeat ((first | refine Va ?_ | refine Vb ?_ | refine Vc ?_ | refine Vd ?_ | refine Ve ?_ | refine Vf ?_); (try simp only [go_sem,hP]); (repeat refine qJ ?_))))
 have hlt1:decide (((playsS t).length:Int) < 1) = false:=by simp; omega
 have hlt2:decide ((t.pres.length:Int) < ((playsS t).length:Int)) = false:=by simp; omega
 rw [hlt1,hlt2]
 by_cases hfe:fndAll b2 = []
 ·have hmb:missB b2 = (0,3):=by unfold missB; rw [if_pos hbx2,if_pos hfe]
  rw [hmb]
  (refine WV_cond rfl (fun h => ?_) (fun h => ?_))
  ·cases h
  (repeat ((first | refine Va ?_ | refine Vb ?_ | refine Vc ?_ | refine Vd ?_ | refine Ve ?_ | refine Vf ?_); (try simp only [go_sem,hP]); (repeat refine qJ ?_)))
  (refine WV_cond rfl (fun h => ?_) (fun h => ?_))
  ·(repeat ((first | refine Va ?_ | refine Vb ?_ | refine Vc ?_ | refine Vd ?_ | refine Ve ?_ | refine Vf ?_); (try simp only [go_sem,hP]); (repeat refine qJ ?_)))
   (refine AS_pu (bought8) ?_; simp only [go_sem,hP]; (repeat refine qJ ?_); (repeat ((first | refine Va ?_ | refine Vb ?_ | refine Vc ?_ | refine Vd ?_ | refine Ve ?_ | refine Vf ?_); (try simp only [go_sem,hP]); (repeat refine qJ ?_))))
   (refine WV_ret ?_; simp only [thenQ,inQ,RetQ,RetOk,resAll,resA]; simp only [go_sem,tupA,AV.port,AV.portL,exists_eq_left']; (first | exact AVle.of rfl | refine AVle.of ?_ | skip))
  ·cases h
 have hmb:missB b2 = (worth b2.wh ((fndAll b2).getD 0 []),0):=by unfold missB; rw [if_pos hbx2,if_neg hfe]
 rw [hmb]
 (refine WV_cond rfl (fun h => ?_) (fun h => ?_))
 ·cases h
 (repeat ((first | refine Va ?_ | refine Vb ?_ | refine Vc ?_ | refine Vd ?_ | refine Ve ?_ | refine Vf ?_); (try simp only [go_sem,hP]); (repeat refine qJ ?_)))
 (refine WV_cond rfl (fun h => ?_) (fun h => ?_))
 ·cases h
 obtain ⟨cst,hc1,hc2⟩:=paid (n:=(t.pres.length:Int)) (by rw [hwh2]; exact hwb) hbo2 (by omega) hpl2 hsk2 hfe
 rw [hwh2] at hc1 hc2
 rw [hput2] at hc2
 rw [hc1] at hch
 simp only at hch
 have hmge:0 ≤ worth b2.wh ((fndAll b2).getD 0 []) ∧ worth b2.wh ((fndAll b2).getD 0 []) ≤ 5600:=by
  have hq:(fndAll b2).getD 0 [] ∈ fndAll b2:=by
   cases h:fndAll b2 with
   | nil => exact absurd h hfe
   | cons p ps => simp
  have hpo:=fndAll_ok _ hq
  exact worth_ok hbo2.wh hpo.len (pur14 hpo)
 rw [hwh2] at hmge ⊢
 generalize worth b.wh ((fndAll b2).getD 0 []) = mi at *
 have hwp:0 ≤ worth b.wh (putL b) ∧ worth b.wh (putL b) ≤ 5600:=by
  refine worth_ok hbo.wh (by simp [putL,addL]; omega) fun n hn => ?_
  have h1:=hbok
  simp only [refOk,purB,Bool.and_eq_true] at h1
  have h2:=(lstB_ok h1.2.1).2 n hn
  omega
 generalize worth b.wh (putL b) = wp at *
 have hd1:decide (0 ≤ mi) = true:=by simp; omega
 have hd2:decide (cst ≤ mi + wp) = true:=by simp; omega
 have w1:=w64 (n:=mi + wp) (by omega) (by omega)
 (repeat ((first | refine Va ?_ | refine Vb ?_ | refine Vc ?_ | refine Vd ?_ | refine Ve ?_ | refine Vf ?_); (try simp only [go_sem,hP]); (repeat refine qJ ?_)))
 (refine AS_pu (hch) ?_; simp only [go_sem,hP,Wh.av,Wh.avs,hd1,beq_self_eq_true,Bool.and_self]; (repeat refine qJ ?_); (repeat ((first | refine Va ?_ | refine Vb ?_ | refine Vc ?_ | refine Vd ?_ | refine Ve ?_ | refine Vf ?_); (try simp only [go_sem,hP,Wh.av,Wh.avs,hd1,beq_self_eq_true,Bool.and_self]); (repeat refine qJ ?_))))
 (refine ACallG_of (fun hG => hput) rfl (fun hG => by simp only [go_sem,hG]) rfl rfl rfl ?_; simp only [go_sem,hP,Bx.av,Bx.avs,hd1,beq_self_eq_true,Bool.and_self]; (repeat refine qJ ?_); (repeat ((first | refine Va ?_ | refine Vb ?_ | refine Vc ?_ | refine Vd ?_ | refine Ve ?_ | refine Vf ?_); (try simp only [go_sem,hP,Bx.av,Bx.avs,hd1,beq_self_eq_true,Bool.and_self]); (repeat refine qJ ?_))))
 (refine ACallG_of (fun hG => hwo) rfl (fun hG => by simp only [go_sem,hG]) rfl rfl rfl ?_; simp only [go_sem,hP,Wh.av,Wh.avs,hd1,hd2,w1,beq_self_eq_true,Bool.and_self]; (repeat refine qJ ?_); (repeat ((first | refine Va ?_ | refine Vb ?_ | refine Vc ?_ | refine Vd ?_ | refine Ve ?_ | refine Vf ?_); (try simp only [go_sem,hP,Wh.av,Wh.avs,hd1,hd2,w1,beq_self_eq_true,Bool.and_self]); (repeat refine qJ ?_))))
 (refine AG_pu (fun hG => bought8) ?_; simp only [go_sem,hP,Bool.and_self]; (repeat refine qJ ?_); (repeat ((first | refine Va ?_ | refine Vb ?_ | refine Vc ?_ | refine Vd ?_ | refine Ve ?_ | refine Vf ?_); (try simp only [go_sem,hP,Bool.and_self]); (repeat refine qJ ?_))))
 (refine WV_ret ?_; simp only [thenQ,inQ,RetQ,RetOk,resAll,resA]; simp only [go_sem,tupA,AV.port,AV.portL,exists_eq_left']; (first | exact AVle.of rfl | refine AVle.of ?_ | skip))
end Go.Proofs.YtbclmfjibpppfaaGreat
