/-
  Contracts of the layer's functions, of the laws' helpers and of the law; conditions: as each theorem states.
-/
import Derived.Test.YtefoconkepmmgaaGreatDoorU4
import Derived.Test.YtefoconkepmmgaaGreatDoorV2
import Derived.Shelf.Strconv.Itoa3
import Derived.Shelf.Strings.OnBuilder
import Derived.Lib.AppendIntMem
import Derived.Lib.ItoaLen
import Derived.Test.YtefoconkepmmgaaGreatDoorChecked
set_option linter.unusedVariables false
set_option linter.unusedSimpArgs false
namespace Go.Proofs.YtefoconkepmmgaaGreatDoor
open Go Go.V
abbrev o53_0:List Ins:=[JS 2 (.alloc [Jz 0,(.c (.raw .nilIface))]),JS 3 (.mv (.k J0)),JS 4 (JB false)]
abbrev o53_1:List Ins:=[JS 10 (Jm 0),JS 11 (Jc 66 [.t 10,(.k (.c (.str [32])))]),JS 5 (Jm 11)]
abbrev t53_2:OT:=(.br [(.cons (JS 13 (Jc 67 [])) (.cons (JF 14 (Jm 5)) (.cons (JF 15 (.ia 1 (.t 14) (.k (Jz 0)))) (.cons (JF 16 (Jl 15)) (.cons (JS 17 (.raw (.lookup 111 (.tmp 13) (.tmp 16) true))) (.cons (JS 12 (Jm 17)) (.cons (JF 18 (Je 12 0)) (.cons (JF 19 (Je 12 1)) (.cons (JE (Js 2 2 18)) (.cons (JS 4 (Jm 19)) .nil)))))))))),(.cons (JF 14 (Jm 5)) (.br [(.cons (JS 13 (Jc 67 [])) (.cons (JF 15 (.ia 1 (.t 14) (.k (Jz 0)))) (.cons (JF 16 (Jl 15)) (.cons (JS 17 (.raw (.lookup 111 (.tmp 13) (.tmp 16) true))) (.cons (JS 12 (Jm 17)) (.cons (JF 18 (Je 12 0)) (.cons (JF 19 (Je 12 1)) (.cons (JE (Js 2 2 18)) (.cons (JS 4 (Jm 19)) .nil))))))))),(.cons (JF 15 (.ia 1 (.t 14) (.k (Jz 0)))) (.br [(.cons (JS 13 (Jc 67 [])) (.cons (JF 16 (Jl 15)) (.cons (JS 17 (.raw (.lookup 111 (.tmp 13) (.tmp 16) true))) (.cons (JS 12 (Jm 17)) (.cons (JF 18 (Je 12 0)) (.cons (JF 19 (Je 12 1)) (.cons (JE (Js 2 2 18)) (.cons (JS 4 (Jm 19)) .nil)))))))),(.cons (JF 16 (Jl 15)) (.cons (JS 13 (Jc 67 [])) (.cons (JS 17 (.raw (.lookup 111 (.tmp 13) (.tmp 16) true))) (.cons (JS 12 (Jm 17)) (.cons (JF 18 (Je 12 0)) (.cons (JF 19 (Je 12 1)) (.cons (JE (Js 2 2 18)) (.cons (JS 4 (Jm 19)) .nil))))))))]))]))])
abbrev o53_3:List Ins:=[JS 20 (Jm 4),JS 21 (.un .not (.t 20)),JS 22 (Jm 21),JG 23 (Jm 5) 22 false,JG 24 (Jn 23) 22 false,JG 25 (Jf 0 2) 22 false,JG 26 (Jl 25) 22 false,JG 27 (Jk .add 26 1) 22 false,JG 28 (Jb .neq 24 27) 22 false,JS 29 (Jo 22 28)]
abbrev o53_4:List Ins:=[JS 30 (JL 2 2),JN (Js 2 2 30),JS 3 (.mv (.k J0)),JS 4 (JB false)]
abbrev v53_5:VC:=(.seq (.ops o53_4) .ret)
abbrev v53_6:VC:=(.cond (.t 29) v53_5 .skip)
abbrev o53_7:List Ins:=[JS 31 (Jm 5),JS 32 (.slc 1 (.t 31) (some (.k (Jz 1))) none),JS 33 (Jn 32),JS 34 (Ji 0)]
abbrev o53_8:List Ins:=[JS 35 (Jb .lss 34 33)]
abbrev o53_9:List Ins:=[JS 36 (Ja 1 32 34),JS 37 (Jl 36),JS 7 (Jm 37)]
abbrev o53_10:List Ins:=[JS 39 (Jm 7),JS 40 (Jc 68 [.t 39]),JS 38 (Jm 40),JS 41 (Je 38 0),JS 42 (Je 38 1),JS 8 (Jm 41),JS 9 (Jm 42)]
abbrev o53_11:List Ins:=[JS 43 (Jm 9),JS 44 (.un .not (.t 43))]
abbrev o53_12:List Ins:=[JS 45 (JL 2 2),JN (Js 2 2 45),JS 3 (.mv (.k J0)),JS 4 (JB false)]
abbrev v53_13:VC:=(.seq (.ops o53_12) .ret)
abbrev v53_14:VC:=(.cond (.t 44) v53_13 .skip)
abbrev o53_15:List Ins:=[JS 46 (Jm 3),JS 47 (Jm 8),JS 48 (.bsl 3 1 [.t 47]),JS 49 (.app 3 1 8 (.t 46) (.t 48)),JS 3 (Jm 49)]
abbrev v53_16:VC:=(.seq (.seq (.ops o53_11) v53_14) (.ops o53_15))
abbrev v53_17:VC:=(.seq (.ops o53_10) v53_16)
abbrev v53_18:VC:=(.seq (.ops o53_9) v53_17)
abbrev o53_19:List Ins:=[JS 50 (Jk .add 34 1),JS 34 (Jm 50)]
abbrev v53_20:VC:=(.seq (.block 1 v53_18) (.ops o53_19))
abbrev v53_21:VC:=(.seq (.cond (.t 35) .skip (.exit 0)) v53_20)
abbrev v53_22:VC:=(.seq (.ops o53_8) v53_21)
-- K53_1: changed and kept: [34,3]
abbrev v53_23:VC:=(.loop v53_22)
abbrev v53_24:VC:=(.block 0 v53_23)
abbrev o53_25:List Ins:=[JS 51 (JL 2 2),JS 52 (Jm 3),JN (Js 2 2 51),JS 3 (Jm 52),JS 4 (JB true)]
abbrev v53_26:VC:=(.seq (.ops o53_25) .ret)
abbrev v53_27:VC:=(.seq (.seq (.ops o53_7) v53_24) v53_26)
abbrev v53_28:VC:=(.seq (.seq (.ops o53_3) v53_6) v53_27)
abbrev v53_29:VC:=(.seq (.drw t53_2) v53_28)
abbrev v53_30:VC:=(.seq (.ops o53_1) v53_29)
def ir53:FC:=⟨1,53,[.cell 2 false 2,.t 3,.t 4],(.seq (.ops o53_0) v53_30)⟩
theorem c53:compM Tryz.prog [13] 53 = some ir53:=by kernel_rfl
attribute [local go_sem] Nat.reduceEqDiff Nat.reduceAdd Nat.reduceMul reduceIte Nat.reduceLeDiff Nat.reduceLT Nat.reduceBEq reduceCtorEq
structure Wd where
 many:Int
 t:Nat
 f:Nat
 cap:Option Nat
def Wd.caps (e:Wd) (q:Nat → Nat):List Value:=match e.cap with | none => [] | some i => [ptrV (q i) 0]
def Wd.v (e:Wd) (q:Nat → Nat):Value:=.iface e.t (fnV e.f (e.caps q))
def wTab0:List (List UInt8 × Wd):=[
 ([99,111,105,110],⟨1,103,74,none⟩),
 ([109,97,114,107],⟨1,103,76,none⟩),
 ([115,108,117,103],⟨1,103,77,none⟩),
 ([112,114,101,115,115],⟨2,103,78,none⟩),
 ([108,111,115,101],⟨1,103,79,none⟩),
 ([115,107,105,112,115],⟨1,103,80,none⟩),
 ([101,109,112,116,121],⟨0,103,81,none⟩),
 ([115,116,97,110,100],⟨0,99,82,none⟩),
 ([103,105,118,101,115],⟨1,99,83,none⟩),
 ([99,104,101,97,112,101,115,116],⟨1,99,84,none⟩),
 ([119,97,105,116],⟨1,99,85,none⟩),
 ([108,111,110,103,101,115,116],⟨0,99,113,some 0⟩),
 ([101,110,100],⟨0,99,113,some 1⟩),
 ([97,116],⟨1,99,89,none⟩),
 ([108,97,116,101,115,116],⟨2,99,90,none⟩),
 ([115,111,111,110,101,115,116],⟨0,99,113,some 2⟩),
 ([99,97,115,104],⟨0,99,92,none⟩),
 ([99,97,110],⟨0,99,121,some 3⟩),
 ([109,105,115,115,105,110,103],⟨0,99,124,some 4⟩),
 ([119,104,105,99,104],⟨0,99,121,some 5⟩),
 ([115,107,105,112,112,101,100],⟨0,99,124,some 6⟩),
 ([115,104,111,114,116],⟨0,99,124,some 7⟩)]
def wLook (k:List UInt8):Option Wd:=(wTab0.find? fun p => p.1 == k).map (·.2)
theorem wTab_eq (q:Nat → Nat):wTab q = wTab0.map fun p => (p.1,.agg #[.int .i64 p.2.many,p.2.v q]):=rfl
theorem slook_map (g:Wd → Value) (k:List UInt8):∀ l:List (List UInt8 × Wd),slook (l.map fun p => (p.1,g p.2)) k = ((l.find? fun p => p.1 == k).map (·.2)).map g
 | [] => rfl
 | p :: l => by
  have ih:=slook_map g k l
  unfold slook at ih ⊢
  simp only [List.map_cons,List.find?_cons]
  cases h:(p.1 == k) with
  | true => rfl
  | false => exact ih
theorem slook_w (q:Nat → Nat) (k:List UInt8):slook (wTab q) k = (wLook k).map fun e => .agg #[.int .i64 e.many,e.v q]:=by
 rw [wTab_eq]; exact slook_map (fun e => .agg #[.int .i64 e.many,e.v q]) k wTab0
def wM (k:List UInt8):Int:=match wLook k with | some e => e.many | none => 0
def wV (q:Nat → Nat) (k:List UInt8):Value:=match wLook k with | some e => e.v q | none => .nilIface
theorem wV_one (q:Nat → Nat) (k:List UInt8):(wV q k).oneCell' = true:=by unfold wV; split <;> rfl
theorem wRep (q:Nat → Nat) (k:List UInt8) (w:World) (M:Cells) (loc:Nat → Value):RepA w M loc (.agg [iv (wM k),.c (.raw (wV q k))]) ((slook (wTab q) k).getD (.agg #[.int .i64 0,.nilIface])):=by
 have h1:=wV_one q k
 rw [slook_w]
 simp only [RepA,RepAs,RepC]
 refine ⟨[.int .i64 (wM k),wV q k],?_,_,_,rfl,rfl,_,_,rfl,⟨rfl,h1⟩,rfl⟩
 unfold wM wV
 cases wLook k <;> rfl
def vObs (q:Nat → Nat):List Ob:=[vbox (fnV 87 []) (q 0),vbox (fnV 88 []) (q 1),vbox (fnV 91 []) (q 2),vbox (fnV 94 []) (q 3),vbox (fnV 96 []) (q 4),vbox (fnV 97 []) (q 5),vbox (fnV 98 []) (q 6),vbox (fnV 99 []) (q 7)]
theorem wTab_len (q:Nat → Nat):∀ p ∈ wTab q,p.1.length ≤ maxLen:=by
 intro p hp
 rw [wTab_eq] at hp
 obtain ⟨x,hx,rfl⟩:=List.mem_map.1 hp
 have h:(wTab0.all fun p => decide (p.1.length ≤ 100)) = true:=rfl
 have:=of_decide_eq_true (List.all_eq_true.1 h x hx)
 exact Nat.le_trans this (by decide)
theorem splitK_len (sep:List UInt8):∀ (k:Nat) (s w:List UInt8),w ∈ Lib.splitK sep 0 k s → w.length ≤ s.length
 | 0,s,w,h => by simp only [Lib.splitK,List.mem_singleton] at h; rw [h]; exact Nat.le_refl _
 | k + 1,s,w,h => by
  unfold Lib.splitK at h
  split at h
  ·simp only [List.mem_singleton] at h; rw [h]; exact Nat.le_refl _
  ·rcases List.mem_cons.1 h with h | h
   ·rw [h,List.length_take]; omega
   ·have:=splitK_len sep k _ w h
    rw [List.length_drop] at this; omega
theorem cut_len {s w:List UInt8} (h:w ∈ cutL s):w.length ≤ s.length:=splitK_len _ _ _ _ h
theorem cut_cons (s:List UInt8):∃ w args,cutL s = w :: args:=by
 unfold cutL Lib.split
 cases Lib.count s [32] with
 | zero => exact ⟨_,_,rfl⟩
 | succ k =>
  unfold Lib.splitK
  split
  ·exact ⟨_,_,rfl⟩
  ·exact ⟨_,_,rfl⟩
theorem wM_in (w:List UInt8):0 ≤ wM w ∧ wM w ≤ 2:=by
 unfold wM wLook
 cases h:wTab0.find? fun p => p.1 == w with
 | none => simp
 | some p =>
  have h2:(wTab0.all fun p => decide (0 ≤ p.2.many) && decide (p.2.many ≤ 2)) = true:=rfl
  have:=List.all_eq_true.1 h2 p (List.mem_of_find?_eq_some h)
  simpa using this
def vOwn (q:Nat → Nat) (o:Nat → Ob):Nat → Ob:=upd (upd (upd (upd (upd (upd (upd (upd o 101 (vbox (fnV 87 []) (q 0))) 102 (vbox (fnV 88 []) (q 1))) 103 (vbox (fnV 91 []) (q 2))) 104 (vbox (fnV 94 []) (q 3))) 105 (vbox (fnV 96 []) (q 4))) 106 (vbox (fnV 97 []) (q 5))) 107 (vbox (fnV 98 []) (q 6))) 108 (vbox (fnV 99 []) (q 7))
theorem strs_get {l:List (List UInt8)} {k:Nat} {d:List CD} (h:k < l.length):(l.map fun x => [CD.str x]).getD k d = [CD.str (l.getD k [])]:=by
 rw [List.getD_eq_getElem?_getD,List.getElem?_map,List.getElem?_eq_getElem h,List.getD_eq_getElem?_getD,List.getElem?_eq_getElem h]; rfl
def parseS (s:List UInt8):Option (List UInt8 × List Int):=match cutL s with
 | [] => none
 | w :: args => match wLook w with
  | none => none
  | some e => if (args.length:Int) = e.many ∧ args.all numOk = true then some (w,args.map numV) else none
def parsePost (s:List UInt8) (r:AV) (os:List Ob):Prop:=match parseS s with
 | some (w,ns) => ∃ (q:Nat → Nat) (e:Wd),wLook w = some e ∧ r = .tup [.agg [iv e.many,.c (.raw (e.v q))],.c (ints ns),.c (.bool true)] ∧ os = vObs q
 | none => ∃ (m:Int) (v:Value),r = .tup [.agg [iv m,.c (.raw v)],.c (.raw (.slice none 0 0)),.c (.bool false)] ∧ os = []
theorem parse_none {s w:List UInt8} {args:List (List UInt8)} (hc:cutL s = w :: args) (h:wLook w = none ∨ (args.length:Int) ≠ wM w ∨ args.all numOk = false):parseS s = none:=by
 unfold parseS
 rw [hc]
 simp only
 unfold wM at h
 cases hw:wLook w with
 | none => rfl
 | some e =>
  rw [hw] at h
  simp only at h ⊢
  rw [if_neg]
  rintro ⟨h1,h2⟩
  rcases h with h | h | h
  ·cases h
  ·exact h h1
  ·rw [h2] at h; cases h
set_option maxRecDepth 100000 in
theorem parse53 {s:List UInt8} (hs:s.length ≤ 1000):FSpecN Tryz.prog 53 [.c (.str s)] (parsePost s):=by
 obtain ⟨w,args,hc⟩:=cut_cons s
 have hm:maxLen = 9223372036854775807:=rfl
 have hwl:w.length ≤ maxLen:=by have:=cut_len (s:=s) (w:=w) (by rw [hc]; exact List.mem_cons_self ..); omega
 have hsp:=split66 (s:=s) (by omega)
 rw [hc] at hsp
 refine FSpecN_of c53 (Nat.le_refl _) (by decide) fun C hP hN hC hL => ?_; rw [init_st]
 simp only [ir53]
 (repeat ((first | refine Va ?_ | refine Vb ?_ | refine Vc ?_ | refine Vd ?_ | refine Ve ?_ | refine Vf ?_); (try simp only [go_sem,hP]); (repeat refine qJ ?_)))
 (refine AS_pu (hsp) ?_; simp only [go_sem,hP,strsC]; (repeat refine qJ ?_); (repeat ((first | refine Va ?_ | refine Vb ?_ | refine Vc ?_ | refine Vd ?_ | refine Ve ?_ | refine Vf ?_); (try simp only [go_sem,hP,strsC]); (repeat refine qJ ?_))))
 refine WV_thn (fun σ' => ∃ q:Nat → Nat,Sub σ' ⟨upd (upd (upd (upd e0 2 (.bp 2 0)) 3 (.c (.raw (.slice none 0 0)))) 4 (.c (.bool (wLook w).isSome))) 5 (.c (strsC (w :: args))),upd (vOwn q o0) 2 (.box [iv (wM w),.c (.raw (wV q w))])⟩) ?_ ?_
 ·refine WV_drw ?_
  simp only [go_sem,hP]
  (repeat' (refine And.intro ?_ ?_))
  all_goals (first | exact Int.le_refl 0 | exact Nat.one_pos | exact Int.natCast_pos.2 (Nat.succ_pos _) | skip)
  all_goals (
   refine AS_new words67 rfl rfl rfl rfl ?_
   rintro r os ⟨b,q,rfl,rfl⟩
   refine ⟨[100,101,102,103,104,105,106,107,108],_,_,by simp,rfl,rfl,rfl,rfl,?_⟩
   simp only [go_sem,hP,ownBack]
   (repeat' (refine And.intro ?_ ?_))
   all_goals (first | exact Int.le_refl 0 | exact Nat.one_pos | exact Int.natCast_pos.2 (Nat.succ_pos _) | skip)
   refine raw_getS (n:=100) (k:=9) (e:=95) (key:=w) (l:=wTab q) (z:=.agg #[.int .i64 0,.nilIface]) (vr:=.agg [iv (wM w),.c (.raw (wV q w))]) (by kernel_rfl) (by kernel_rfl) (by kernel_rfl) rfl rfl rfl rfl rfl rfl rfl hwl (wTab_len q) (wRep q w) ?_
   rw [slook_w,Option.isSome_map]
   simp only [go_sem,hP]
   refine ⟨q,Sub_of ?_ ?_⟩
   ·unfold strsC
    simp only [go_sem]
    exact EnvLe_au
   ·unfold vOwn
    simp only [go_sem]
    exact ObjLe_au)
 ·rintro σ' ⟨q,hsub⟩
  refine WV_sub hsub ?_
  unfold vOwn
  have hM:=wM_in w
  have hw1:=w64 (n:=wM w + 1) (by omega) (by omega)
  (repeat ((first | refine Va ?_ | refine Vb ?_ | refine Vc ?_ | refine Vd ?_ | refine Ve ?_ | refine Vf ?_); (try simp only [go_sem,hP,strsC,List.length_map,hw1]); (repeat refine qJ ?_)))
  refine WV_sub (σ':=⟨upd (upd (upd (upd e0 2 (.bp 2 0)) 3 (.c (.raw (.slice none 0 0)))) 5 (.c (strsC (w :: args)))) 29 (.c (.bool (!(wLook w).isSome || (((args.length + 1:Nat):Int) != wM w + 1)))),upd (vOwn q o0) 2 (.box [iv (wM w),.c (.raw (wV q w))])⟩) (Sub_of (by unfold strsC; simp only [go_sem]; exact EnvLe_au) (by unfold vOwn; simp only [go_sem]; exact ObjLe_au)) ?_
  by_cases hbad:wLook w = none ∨ (args.length:Int) ≠ wM w
  ·have hpn:parseS s = none:=parse_none hc (hbad.imp id .inl)
   have hv:(!(wLook w).isSome || (((args.length + 1:Nat):Int) != wM w + 1)) = true:=by
    rcases hbad with h | h
    ·rw [h]; rfl
    ·simp only [Bool.or_eq_true,bne_iff_ne,ne_eq]; right; omega
   rw [hv]
   (refine WV_cond rfl (fun h => ?_) (fun h => ?_))
   ·(repeat ((first | refine Va ?_ | refine Vb ?_ | refine Vc ?_ | refine Vd ?_ | refine Ve ?_ | refine Vf ?_); (try simp only [go_sem,hP]); (repeat refine qJ ?_)))
    (refine WV_ret ?_; simp only [thenQ,inQ,RetQN,RetOkN,resAll,resA]; simp only [go_sem,tupA])
    refine ⟨[],_,_,_,by simp,by simp,rfl,AVle.refl _,rfl,?_⟩
    unfold parsePost
    rw [hpn]
    exact ⟨_,_,rfl,rfl⟩
   ·cases h
  ·obtain ⟨hn1,hn2⟩:=not_or.1 hbad
   have hn2:(args.length:Int) = wM w:=by omega
   obtain ⟨e,he⟩:=Option.ne_none_iff_exists'.1 hn1
   have hv:(!(wLook w).isSome || (((args.length + 1:Nat):Int) != wM w + 1)) = false:=by
    rw [he,← hn2]; simp
   rw [hv]
   (refine WV_cond rfl (fun h => ?_) (fun h => ?_))
   ·cases h
   ·(repeat ((first | refine Va ?_ | refine Vb ?_ | refine Vc ?_ | refine Vd ?_ | refine Ve ?_ | refine Vf ?_); (try simp only [go_sem,hP,strsC,List.length_map,List.map_cons]); (repeat refine qJ ?_)))
    have hdr:List.drop (Int.toNat 1) (List.take (((args.length + 1:Nat):Int)).toNat ([CD.str w] :: args.map fun x => [CD.str x])) = args.map fun x => [CD.str x]:=by
     rw [Int.toNat_natCast,List.take_succ_cons,show Int.toNat 1 = 1 from rfl,List.drop_succ_cons,List.drop_zero,List.take_of_length_le (by simp)]
    rw [hdr,List.length_map]
    refine WV_sub (σ':=⟨upd (upd (upd (upd (upd e0 2 (.bp 2 0)) 3 (.c (.raw (.slice none 0 0)))) 32 (.c (strsC args))) 33 (iv args.length)) 34 (iv 0),upd (vOwn q o0) 2 (.box [iv (wM w),.c (.raw (wV q w))])⟩) (Sub_of (by unfold strsC; simp only [go_sem]; exact EnvLe_au) (by simp only [go_sem]; exact ObjLe_au)) ?_
    refine WV_nilslot 3 49 3 1 (by decide) (by decide) rfl rfl ?_
    unfold vOwn
    simp only [go_sem]
    refine WV_loopS (fun k:Nat => ⟨upd (upd (upd (upd (upd e0 2 (.bp 2 0)) 32 (.c (strsC args))) 33 (iv args.length)) 34 (iv k)) 3 (.gr 49),upd (upd (vOwn q o0) 2 (.box [iv (wM w),.c (.raw (wV q w))])) 49 (.grow 3 1 (((args.take k).map numV).map fun n => [CD.int .i64 n]))⟩) (fun k => k ≤ args.length ∧ (args.take k).all numOk = true) (fun k => args.length - k) 0 ⟨Nat.zero_le _,rfl⟩ ?_ ?_
    ·refine Sub_of (by simp only [go_sem]; exact EnvLe_au) (by unfold vOwn; simp only [List.take_zero,List.map_nil]; simp only [go_sem]; exact ObjLe_au)
    rintro k ⟨hk,hr⟩
    unfold vOwn
    (repeat ((first | refine Va ?_ | refine Vb ?_ | refine Vc ?_ | refine Vd ?_ | refine Ve ?_ | refine Vf ?_); (try simp only [go_sem,hP]); (repeat refine qJ ?_)))
    (refine WV_cond rfl (fun h => ?_) (fun h => ?_))
    ·have hi:k < args.length:=by simpa using h
     have hwk:=w64 (n:=(k:Int) + 1) (by omega) (by omega)
     have hg:=strs_get (l:=args) (k:=k) (d:=[]) hi
     have hxm:args.getD k [] ∈ args:=by rw [List.getD_eq_getElem?_getD,List.getElem?_eq_getElem hi]; exact List.getElem_mem hi
     have hxl:(args.getD k []).length ≤ 1000:=by have:=cut_len (s:=s) (w:=args.getD k []) (by rw [hc]; exact List.mem_cons_of_mem _ hxm); omega
     have htk:args.take (k + 1) = args.take k ++ [args.getD k []]:=by rw [List.take_succ_eq_append_getElem hi,List.getD_eq_getElem?_getD,List.getElem?_eq_getElem hi]; rfl
     have htl:(args.take k).length = k:=by rw [List.length_take]; omega
     generalize args.getD k [] = x at hg hxm hxl htk
     (repeat ((first | refine Va ?_ | refine Vb ?_ | refine Vc ?_ | refine Vd ?_ | refine Ve ?_ | refine Vf ?_); (try simp only [go_sem,hP,strsC,hg,List.length_map,Int.toNat_natCast]); (repeat refine qJ ?_)))
     (refine AS_pu (number68 hxl) ?_; simp only [go_sem,hP,hwk,htl,List.length_map]; (repeat refine qJ ?_); (repeat ((first | refine Va ?_ | refine Vb ?_ | refine Vc ?_ | refine Vd ?_ | refine Ve ?_ | refine Vf ?_); (try simp only [go_sem,hP,hwk,htl,List.length_map]); (repeat refine qJ ?_))))
     by_cases hok:numOk x = true
     ·(refine WV_cond rfl (fun h => ?_) (fun h => ?_))
      ·rw [hok] at h; cases h
      ·(repeat ((first | refine Va ?_ | refine Vb ?_ | refine Vc ?_ | refine Vd ?_ | refine Ve ?_ | refine Vf ?_); (try simp only [go_sem,hP,hwk,htl,List.length_map]); (repeat refine qJ ?_)))
       refine ⟨k + 1,⟨by omega,by rw [htk,List.all_append,hr]; simp [hok]⟩,by omega,?_⟩
       rw [htk,List.map_append,List.map_append]
       refine Sub_of (by simp only [go_sem]; exact EnvLe_au) (by simp only [go_sem]; exact ObjLe_au)
     ·have hok:numOk x = false:=by simpa using hok
      have hall:args.all numOk = false:=by
       cases hx:args.all numOk with
       | false => rfl
       | true => have:=List.all_eq_true.1 hx x hxm; rw [hok] at this; cases this
      have hpn:parseS s = none:=parse_none hc (.inr (.inr hall))
      (refine WV_cond rfl (fun h => ?_) (fun h => ?_))
      ·(repeat ((first | refine Va ?_ | refine Vb ?_ | refine Vc ?_ | refine Vd ?_ | refine Ve ?_ | refine Vf ?_); (try simp only [go_sem,hP]); (repeat refine qJ ?_)))
       (refine WV_ret ?_; simp only [thenQ,inQ,RetQN,RetOkN,resAll,resA]; simp only [go_sem,tupA])
       refine ⟨[],_,_,_,by simp,by simp,rfl,AVle.refl _,rfl,?_⟩
       unfold parsePost
       rw [hpn]
       exact ⟨_,_,rfl,rfl⟩
      ·rw [hok] at h; simp at h
    ·have hkl:k = args.length:=by
      have:¬ (k < args.length):=by simpa using h
      omega
     subst hkl
     rw [List.take_length] at hr
     have hps:parseS s = some (w,args.map numV):=by
      unfold parseS
      rw [hc]
      simp only
      rw [he]
      simp only
      rw [if_pos ⟨by rw [hn2]; unfold wM; rw [he],hr⟩]
     (repeat ((first | refine Va ?_ | refine Vb ?_ | refine Vc ?_ | refine Vd ?_ | refine Ve ?_ | refine Vf ?_); (try simp only [go_sem,hP,List.take_length]); (repeat refine qJ ?_)))
     (refine WV_ret ?_; simp only [thenQ,inQ,RetQN,RetOkN,resAll,resA]; simp only [go_sem,tupA,List.take_length])
     refine ⟨[101,102,103,104,105,106,107,108],_,_,_,by simp,by simp,rfl,AVle.refl _,rfl,?_⟩
     unfold parsePost
     rw [hps]
     refine ⟨q,e,he,?_,rfl⟩
     have hm1:wM w = e.many:=by unfold wM; rw [he]
     have hv1:wV q w = e.v q:=by unfold wV; rw [he]
     rw [hm1,hv1]
     rfl
end Go.Proofs.YtefoconkepmmgaaGreatDoor

namespace Go.Proofs.YtefoconkepmmgaaGreatDoor
open Go Go.V Go.RowKit Go.Shelf
variable {tb:Obj}
def renItoa:Ren:=⟨fun | 171 => 69 | 243 => 102 | 246 => 133 | 283 => 165 | 284 => 166 | 285 => 167 | 286 => 168 | 129 => 195 | 317 => 194 | 318 => 196 | 319 => 197 | 320 => 198 | 337 => 210 | 338 => 211 | n => n,
 fun | 171 => 222 | 53 => 223 | 37 => 63 | 173 => 226 | 212 => 253 | 51 => 254 | 213 => 255 | 46 => 232 | 232 => 280 | 233 => 281 | n => n,
 fun | 17 => 3 | 18 => 6 | 19 => 7 | n => n⟩
def renJoin:Ren:=⟨fun | 156 => 70 | 165 => 103 | 166 => 104 | 169 => 105 | 240 => 134 | 241 => 135 | 276 => 169 | 277 => 170 | n => n,
 fun | 31 => 40 | 72 => 132 | 76 => 128 | 70 => 130 | 37 => 63 | 75 => 127 | 127 => 173 | 164 => 228 | 80 => 134 | n => n,
 fun x => x⟩
theorem layItoa:LaysM.n171 Tryz.prog renItoa:=by
 constructor <;> first | kernel_rfl | (intro w; kernel_rfl) | (constructor <;> first | kernel_rfl | (intro w; kernel_rfl))
theorem layJoin:Lays.n156 Tryz.prog renJoin:=by
 constructor <;> first | kernel_rfl | (intro w; kernel_rfl)
def tabJ (tb:Obj) (rem:List Ent) (L:List Nat) (_:Nat → Nat → Prop) (w:World):Prop :=
 rem = [] ∧ L = [3] ∧ w.heap[3]? = some tb ∧ ∃ ty fr,tb = .cells (Lib.pow10Tab.map (Value.int .u64)).toArray ty fr
def tabG (tb:Obj):Gst:=⟨.bool false,tabJ tb⟩
def tabO (tb:Obj):Ob:=.guest (tabG tb) []
theorem tabG_ok (P:Program) (tb:Obj):(tabG tb).Ok P:=by
 refine ⟨rfl,?_,?_⟩
 ·rintro rem L M w M' w' ⟨h1,h2,h3⟩ hk hb hs
  exact ⟨h1,h2,by rw [hb 3 (by rw [h2]; simp)]; exact h3⟩
 ·rintro args wins r rem L M w loc vs ⟨h1,_⟩
  cases h1
attribute [go_sem] tabO
theorem itoa69 {n:Int} (h0:-9223372036854775808 ≤ n) (h1:n ≤ 9223372036854775807):FSpecL Tryz.prog 69 [iv n] [(tabO tb)] [] (fun r l' => r = .c (.str (Lib.itoa n)) ∧ l' = [(tabO tb)]):=by
 refine FSpecL_keep (callable_of layItoa.f171 (by kernel_rfl) (by kernel_rfl)) (Nat.le_of_ble_eq_true rfl) fun w M loc vs hLO hrep => ?_
 have h2:ObOk Tryz.prog (fun _ => True) w (AddM M _ loc) loc (loc 1000) (tabO tb):=hLO.objs 1000
 obtain ⟨_,L,_,⟨_,_,hb,ty,fr,rfl⟩,_⟩:=h2
 simp only [RepAs,RepA,RepC] at hrep
 obtain ⟨_,_,rfl,rfl,rfl⟩:=hrep
 have htab:Lib.TabIs Tryz.prog w "internal/strconv.uint64pow10" .u64 Lib.pow10Tab:=by
  unfold Lib.TabIs World.var?
  rw [show Tryz.prog.globalNamed "internal/strconv.uint64pow10" = some 3 by kernel_rfl]
  simp [hb]
 refine (show Calls Tryz.prog 69 _ w _ from Any.strconv_Itoa layItoa n h0 h1 w htab).mono ?_
 rintro e w' ⟨rfl,k,os,rfl⟩
 exact ⟨_,_,rfl,rfl,Lib.below_grow _ _ (Nat.le_refl _) _ _,fun M' _ => by simp only [RepA,RepC]⟩
end Go.Proofs.YtefoconkepmmgaaGreatDoor

namespace Go.Proofs.YtefoconkepmmgaaGreatDoor
open Go Go.V Go.RowKit Go.Shelf
theorem layX:Builder.Extra Tryz.prog renJoin:=by
 constructor <;> first | kernel_rfl | (intro w; kernel_rfl) | decide | (constructor <;> first | kernel_rfl | (intro w; kernel_rfl))
theorem reps_strs_eq {w:World} {M:Cells} {loc:Nat → Value}:∀ (l:List (List UInt8)) (vs:List Value),RepAs w M loc (l.map fun s => .c (.str s)) vs → vs = l.map sv
 | [],vs,h => by simpa [RepAs] using h
 | s :: l,vs,h => by
  simp only [List.map_cons,RepAs,RepA,RepC] at h
  obtain ⟨v,vs',rfl,rfl,h⟩:=h
  rw [reps_strs_eq l vs' h]; rfl
theorem join70 {xs:List (List UInt8)} (hN:xs.length ≤ 1000000) (hlen:(Lib.join xs [32]).length ≤ 140737488355328):FSpec Tryz.prog 70 [.c (strsC xs),.c (.str [32])] (.c (.str (Lib.join xs [32]))):=by
 refine ⟨callable_of layJoin.f156 (by kernel_rfl) (by kernel_rfl),fun w M vs hM hr => ?_⟩
 simp only [RepAs,RepA,RepC,strsC] at hr
 obtain ⟨_,_,rfl,⟨A,cap,rfl,hcap,hmax,hA⟩,_,_,rfl,rfl,rfl⟩:=hr
 rw [List.length_map] at hcap ⊢
 cases hx:xs with
 | nil =>
  refine (show Calls Tryz.prog 70 _ w _ from Any.strings_Join_none layJoin layX A cap ⟨#[32]⟩ w).mono ?_
  rintro e w' ⟨rfl,rfl⟩
  exact ⟨_,rfl,by simp only [RepA,RepC]; rfl,Below.refl _ _⟩
 | cons x0 r =>
  rw [← hx]
  rcases hA with h | ⟨ad,rfl,hE⟩
  ·rw [hx] at h; cases h
  obtain ⟨l,k1,k2,k3,k4⟩:=RepE.vals (loc:=fun _ => undef) _ _ hE
  rw [flat_strs] at k3
  have hl:=reps_strs_eq _ _ k3
  subst hl
  have h0:=k2 0 (sv x0) (by rw [hx]; rfl)
  have hsp:ad.spot = none:=by
   unfold World.cell? at h0
   split at h0
   ·split at h0
    ·cases h0
    ·rename_i h
     cases hs:(ad.add 0).spot with
     | none => exact hs
     | some q => rw [hs] at h; exact absurd rfl h
   ·cases h0
  obtain ⟨bk,o,sp⟩:=ad
  simp only at hsp
  subst hsp
  have hm:(xs.map fun s => (⟨s.toArray⟩ : ByteArray)).map (·.data.toList) = xs:=by
   rw [List.map_map]
   exact (List.map_congr_left fun s _ => rfl).trans (List.map_id xs)
  have c:=Any.strings_Join layJoin layX bk o cap (xs.map fun s => (⟨s.toArray⟩ : ByteArray)) ⟨#[32]⟩ w (fun j x hj => by
   rw [List.getElem?_map] at hj
   cases hxj:xs[j]? with
   | none => rw [hxj] at hj; cases hj
   | some s =>
    rw [hxj] at hj
    simp only [Option.map_some,Option.some.injEq] at hj
    subst hj
    have:=k2 j (sv s) (by rw [List.getElem?_map,hxj]; rfl)
    rw [add_at] at this
    exact this) (cell_lt (p:=⟨bk,o,none⟩) (by rw [show w.cell? ⟨bk,o,none⟩ = some (sv x0) from h0]; rfl)) (by rw [List.length_map]; omega) (by rw [List.length_map]; exact hcap) (by rw [hm]; exact hlen)
  rw [hm,List.length_map] at c
  refine (show Calls Tryz.prog 70 _ w _ from c).mono ?_
  rintro e w' ⟨rfl,hb⟩
  exact ⟨_,rfl,by simp only [RepA,RepC],hb⟩
end Go.Proofs.YtefoconkepmmgaaGreatDoor

namespace Go.Proofs.YtefoconkepmmgaaGreatDoor
open Go Go.V Go.RowKit
variable {tb:Obj}
abbrev o54_0:List Ins:=[JS 4 (.mv (.k (.c (.str []))))]
abbrev o54_1:List Ins:=[JS 9 (Jm 1),JS 10 (Jk .eql 9 3),JS 11 (Jm 10),JG 12 (Jm 1) 11 false,JG 13 (Jk .eql 12 0) 11 false,JG 14 (Jm 13) 11 false,JG 15 (Jm 0) 14 true,JG 16 (Jn 15) 14 true,JG 17 (Jk .eql 16 0) 14 true,JG 18 (Jp 14 17) 11 false,JS 19 (Jo 11 18),JS 8 (Jm 19)]
abbrev o54_2:List Ins:=[JS 4 (.mv (.k (.c (.str [110,111,110,101]))))]
abbrev v54_3:VC:=(.seq (.ops o54_2) .ret)
abbrev o54_4:List Ins:=[JS 21 (Jm 1),JS 22 (Jk .neq 21 0),JS 20 (Jm 22)]
abbrev o54_5:List Ins:=[JS 4 (.mv (.k (.c (.str [110,111]))))]
abbrev v54_6:VC:=(.seq (.ops o54_5) .ret)
abbrev v54_7:VC:=(.cond (.t 20) v54_6 .skip)
abbrev v54_8:VC:=(.seq (.ops o54_4) v54_7)
abbrev v54_9:VC:=(.cond (.t 8) v54_3 v54_8)
abbrev v54_10:VC:=(.seq (.ops o54_1) v54_9)
abbrev o54_11:List Ins:=[JS 5 (.mv (.k J0))]
abbrev o54_12:List Ins:=[JS 23 (Jm 0),JS 24 (Jn 23),JS 25 (Ji 0)]
abbrev o54_13:List Ins:=[JS 26 (Jb .lss 25 24)]
abbrev o54_14:List Ins:=[JS 27 (Ja 1 23 25),JS 28 (Jl 27),JS 7 (Jm 28)]
abbrev o54_15:List Ins:=[JS 29 (Jm 5),JS 30 (Jm 7),JS 31 (Jc 69 [.t 30]),JS 32 (.bsl 9 1 [.t 31]),JS 33 (.app 9 1 16 (.t 29) (.t 32)),JS 5 (Jm 33)]
abbrev v54_16:VC:=(.seq (.ops o54_14) (.ops o54_15))
abbrev o54_17:List Ins:=[JS 34 (Jk .add 25 1),JS 25 (Jm 34)]
abbrev v54_18:VC:=(.seq (.block 2 v54_16) (.ops o54_17))
abbrev v54_19:VC:=(.seq (.cond (.t 26) .skip (.exit 1)) v54_18)
abbrev v54_20:VC:=(.seq (.ops o54_13) v54_19)
-- K54_1: changed and kept: [25,5]
abbrev v54_21:VC:=(.loop v54_20)
abbrev v54_22:VC:=(.block 1 v54_21)
abbrev o54_23:List Ins:=[JS 35 (Jm 5),JS 36 (Jc 70 [.t 35,(.k (.c (.str [32])))]),JS 4 (Jm 36)]
abbrev v54_24:VC:=(.seq (.ops o54_23) .ret)
abbrev v54_25:VC:=(.seq (.seq (.ops o54_12) v54_22) v54_24)
abbrev v54_26:VC:=(.seq (.ops o54_11) v54_25)
abbrev v54_27:VC:=(.seq (.block 0 v54_10) v54_26)
def ir54:FC:=⟨2,37,[.t 4],(.seq (.ops o54_0) v54_27)⟩
theorem c54:compM Tryz.prog [] 54 = some ir54:=by kernel_rfl
attribute [local go_sem] Nat.reduceEqDiff Nat.reduceAdd Nat.reduceMul reduceIte Nat.reduceLeDiff Nat.reduceLT Nat.reduceBEq reduceCtorEq
def yesS:List UInt8:=[121,101,115]
def noS:List UInt8:=[110,111]
def noneS:List UInt8:=[110,111,110,101]
def whatS:List UInt8:=[119,104,97,116]
def ansS (l:List Int) (e:Int):List UInt8:=if e = 3 ∨ (e = 0 ∧ l = []) then noneS else if e ≠ 0 then noS else Lib.join (l.map Lib.itoa) [32]
def i64 (n:Int):Prop:=-9223372036854775808 ≤ n ∧ n ≤ 9223372036854775807
theorem join_bound:∀ (l:List Int),(∀ n ∈ l,i64 n) → (Lib.join (l.map Lib.itoa) [32]).length ≤ 22 * l.length
 | [],_ => by simp [Lib.join_nil]
 | n :: l,h => by
  rw [List.map_cons,Lib.join_length]
  have hl:∀ l:List Int,(∀ n ∈ l,i64 n) → Lib.lens (l.map Lib.itoa) ≤ 21 * l.length:=by
   intro l h
   induction l with
   | nil => simp [Lib.lens]
   | cons n l ih =>
    have h1:=Lib.itoa_length_le n (h n (by simp)).1 (h n (by simp)).2
    have h2:=ih fun m hm => h m (by simp [hm])
    simp only [Lib.lens,List.map_cons,List.sum_cons,List.length_cons] at h2 ⊢
    omega
  have:=hl (n :: l) h
  simp only [List.map_cons,List.length_cons,List.length_nil,List.length_map] at this ⊢
  omega
theorem answer54 {l:List Int} (hl:l.length ≤ 10000) (hr:∀ n ∈ l,i64 n) (e:Int):FSpecL Tryz.prog 54 [.c (ints l),iv e] [(tabO tb)] [] (fun r l' => r = .c (.str (ansS l e)) ∧ l' = [(tabO tb)]):=by
 have hm:maxLen = 9223372036854775807:=rfl
 refine FSpecL_of c54 (by first | simp | exact Nat.le_of_ble_eq_true rfl) (Nat.le_refl _) (by decide) (by decide) fun C hP hN hC hL => ?_; rw [init_env',ownW_upd (by first | simp | exact Nat.le_of_ble_eq_true rfl)]; simp only [ir54,updL,updLo,List.map_nil,List.map_cons,Nat.reduceAdd,]
 (repeat ((first | refine Va ?_ | refine Vb ?_ | refine Vc ?_ | refine Vd ?_ | refine Ve ?_ | refine Vf ?_); (try simp only [go_sem,hP,ints,List.length_map]); (repeat refine qJ ?_)))
 refine WV_sub (σ':=⟨upd (upd (upd (upd e0 0 (.c (ints l))) 1 (iv e)) 4 (.c (.str []))) 8 (.c (.bool (e == 3 || e == 0 && (l.length:Int) == 0))),upd o0 1000 (tabO tb)⟩) (Sub_of (by unfold ints; simp only [go_sem]; exact EnvLe_au) (by simp only [go_sem]; exact ObjLe_au)) ?_
 by_cases h1:e = 3 ∨ (e = 0 ∧ l = [])
 ·have ha:ansS l e = noneS:=if_pos h1
  have hv:(e == 3 || e == 0 && (l.length:Int) == 0) = true:=by
   rcases h1 with h | ⟨h,h'⟩
   ·rw [h]; rfl
   ·rw [h,h']; rfl
  rw [ha,hv]
  (refine WV_cond rfl (fun h => ?_) (fun h => ?_))
  ·(repeat ((first | refine Va ?_ | refine Vb ?_ | refine Vc ?_ | refine Vd ?_ | refine Ve ?_ | refine Vf ?_); (try simp only [go_sem,hP]); (repeat refine qJ ?_)))
   (refine WV_ret ?_; simp only [thenQ,inQ,RetQL,RetOkL,resAll,resA]; simp only [go_sem,tupA,AV.keepP,AV.keepPL]; refine ⟨_,[(tabO tb)],rfl,KeepL_mk rfl rfl ?_ ?_ rfl,?_⟩)
   ·simp only [go_sem,keepAll,Ob.keepP,AV.keepP,AV.keepPL]
   ·trivial
   ·exact ⟨rfl,rfl⟩
  ·cases h
 ·have hv:(e == 3 || e == 0 && (l.length:Int) == 0) = false:=by
   cases hx:(e == 3 || e == 0 && (l.length:Int) == 0) with
   | false => rfl
   | true => simp at hx; exact absurd hx h1
  rw [hv]
  (refine WV_cond rfl (fun h => ?_) (fun h => ?_))
  ·cases h
  ·(repeat ((first | refine Va ?_ | refine Vb ?_ | refine Vc ?_ | refine Vd ?_ | refine Ve ?_ | refine Vf ?_); (try simp only [go_sem,hP]); (repeat refine qJ ?_)))
   by_cases h2:e = 0
   ·have ha:ansS l e = Lib.join (l.map Lib.itoa) [32]:=by unfold ansS; rw [if_neg h1,if_neg (by simpa using h2)]
    rw [ha]
    (refine WV_cond rfl (fun h => ?_) (fun h => ?_))
    ·rw [h2] at h; simp at h
    ·(repeat ((first | refine Va ?_ | refine Vb ?_ | refine Vc ?_ | refine Vd ?_ | refine Ve ?_ | refine Vf ?_); (try simp only [go_sem,hP,ints,List.length_map]); (repeat refine qJ ?_)))
     refine WV_nilslot 5 33 9 1 (by decide) (by decide) rfl rfl ?_
     simp only [go_sem]
     refine WV_loopS (fun k:Nat => ⟨upd (upd (upd (upd (upd e0 4 (.c (.str []))) 23 (.c (ints l))) 24 (iv l.length)) 25 (iv k)) 5 (.gr 33),upd (upd o0 1000 (tabO tb)) 33 (.grow 9 1 (((l.take k).map Lib.itoa).map fun x => [CD.str x]))⟩) (fun k => k ≤ l.length) (fun k => l.length - k) 0 (Nat.zero_le _) ?_ ?_
     ·refine Sub_of (by unfold ints; simp only [go_sem]; exact EnvLe_au) (by simp only [List.take_zero,List.map_nil]; simp only [go_sem]; exact ObjLe_au)
     intro k hk
     (repeat ((first | refine Va ?_ | refine Vb ?_ | refine Vc ?_ | refine Vd ?_ | refine Ve ?_ | refine Vf ?_); (try simp only [go_sem,hP,ints,List.length_map]); (repeat refine qJ ?_)))
     (refine WV_cond rfl (fun h => ?_) (fun h => ?_))
     ·have hi:k < l.length:=by simpa using h
      have hwk:=w64 (n:=(k:Int) + 1) (by omega) (by omega)
      have hg:=ints_get (l:=l) (i:=k) hi
      have htk:l.take (k + 1) = l.take k ++ [l.getD k 0]:=by rw [List.take_succ_eq_append_getElem hi,List.getD_eq_getElem?_getD,List.getElem?_eq_getElem hi]; rfl
      have htl:(l.take k).length = k:=by rw [List.length_take]; omega
      have hxr:=hr (l.getD k 0) (by rw [List.getD_eq_getElem?_getD,List.getElem?_eq_getElem hi]; exact List.getElem_mem hi)
      generalize l.getD k 0 = x at hg hxr htk
      (repeat ((first | refine Va ?_ | refine Vb ?_ | refine Vc ?_ | refine Vd ?_ | refine Ve ?_ | refine Vf ?_); (try simp only [go_sem,hP,hg,List.length_map,Int.toNat_natCast]); (repeat refine qJ ?_)))
      refine AS_lend [1000] (itoa69 hxr.1 hxr.2) rfl rfl rfl (by decide) rfl rfl ?_
      rintro r l' ⟨rfl,rfl⟩
      refine ⟨_,_,rfl,rfl,?_⟩
      simp only [go_sem,hP,ownBack,htl,List.length_map]
      (repeat refine qJ ?_)
      (repeat ((first | refine Va ?_ | refine Vb ?_ | refine Vc ?_ | refine Vd ?_ | refine Ve ?_ | refine Vf ?_); (try simp only [go_sem,hP,hwk,htl,List.length_map]); (repeat refine qJ ?_)))
      refine ⟨k + 1,by omega,by omega,?_⟩
      rw [htk,List.map_append,List.map_append]
      refine Sub_of (by simp only [go_sem]; exact EnvLe_au) (by simp only [go_sem]; exact ObjLe_au)
     ·have hkl:k = l.length:=by
       have:¬ (k < l.length):=by simpa using h
       omega
      subst hkl
      have hb:=join_bound l hr
      (repeat ((first | refine Va ?_ | refine Vb ?_ | refine Vc ?_ | refine Vd ?_ | refine Ve ?_ | refine Vf ?_); (try simp only [go_sem,hP]); (repeat refine qJ ?_)))
      rw [List.take_length]
      (refine AS_pu (join70 (xs:=l.map Lib.itoa) (by rw [List.length_map]; omega) (by omega)) ?_; simp only [go_sem,hP]; (repeat refine qJ ?_); (repeat ((first | refine Va ?_ | refine Vb ?_ | refine Vc ?_ | refine Vd ?_ | refine Ve ?_ | refine Vf ?_); (try simp only [go_sem,hP]); (repeat refine qJ ?_))))
      (repeat ((first | refine Va ?_ | refine Vb ?_ | refine Vc ?_ | refine Vd ?_ | refine Ve ?_ | refine Vf ?_); (try simp only [go_sem,hP]); (repeat refine qJ ?_)))
      (refine WV_ret ?_; simp only [thenQ,inQ,RetQL,RetOkL,resAll,resA]; simp only [go_sem,tupA,AV.keepP,AV.keepPL]; refine ⟨_,[(tabO tb)],rfl,KeepL_mk rfl rfl ?_ ?_ rfl,?_⟩)
      ·simp only [go_sem,keepAll,Ob.keepP,AV.keepP,AV.keepPL]
      ·trivial
      ·exact ⟨rfl,rfl⟩
   ·have ha:ansS l e = noS:=by unfold ansS; rw [if_neg h1,if_pos h2]
    rw [ha]
    (refine WV_cond rfl (fun h => ?_) (fun h => ?_))
    ·(repeat ((first | refine Va ?_ | refine Vb ?_ | refine Vc ?_ | refine Vd ?_ | refine Ve ?_ | refine Vf ?_); (try simp only [go_sem,hP]); (repeat refine qJ ?_)))
     (refine WV_ret ?_; simp only [thenQ,inQ,RetQL,RetOkL,resAll,resA]; simp only [go_sem,tupA,AV.keepP,AV.keepPL]; refine ⟨_,[(tabO tb)],rfl,KeepL_mk rfl rfl ?_ ?_ rfl,?_⟩)
     ·simp only [go_sem,keepAll,Ob.keepP,AV.keepP,AV.keepPL]
     ·trivial
     ·exact ⟨rfl,rfl⟩
    ·simp at h; exact absurd h h2
end Go.Proofs.YtefoconkepmmgaaGreatDoor

namespace Go.Proofs.YtefoconkepmmgaaGreatDoor
open Go Go.V
abbrev o21_0:List Ins:=[JS 1 (.box 8 (.t 0)),JS 2 (Ji 0)]
abbrev o21_1:List Ins:=[JS 4 (Jf 0 1),JS 5 (JL 3 4),JS 6 (Jc 40 [.t 5]),JS 7 (Jk .neq 6 0),JS 8 (Jm 7),JG 9 (Jf 0 1) 8 false,JG 10 (JL 3 9) 8 false,JG 11 (Jf 3 1) 8 false,JG 12 (Jl 11) 8 false,JG 13 (Jc 41 [.t 10,.t 12]) 8 false,JG 14 (.un .not (.t 13)) 8 false,JS 15 (Jo 8 14),JS 16 (Jm 15),JG 17 (Jf 0 1) 16 false,JG 18 (JL 3 17) 16 false,JG 19 (Jf 5 1) 16 false,JG 20 (Jl 19) 16 false,JG 21 (Jc 41 [.t 18,.t 20]) 16 false,JG 22 (.un .not (.t 21)) 16 false,JS 23 (Jo 16 22),JS 24 (Jm 23),JG 25 (Jf 4 1) 24 false,JG 26 (Jl 25) 24 false,JG 27 (Jn 26) 24 false,JG 28 (Jf 3 1) 24 false,JG 29 (Jl 28) 24 false,JG 30 (Jn 29) 24 false,JG 31 (Jb .neq 27 30) 24 false,JS 32 (Jo 24 31),JS 33 (Jm 32),JG 34 (Jf 6 1) 33 false,JG 35 (Jl 34) 33 false,JG 36 (Jc 42 [.t 35,(.k (Jz 0)),(.k (Jz 9999))]) 33 false,JG 37 (.un .not (.t 36)) 33 false,JS 38 (Jo 33 37),JS 39 (Jm 38),JG 40 (Jf 7 1) 39 false,JG 41 (Jl 40) 39 false,JG 42 (Jc 42 [.t 41,(.k (Jz 0)),(.k (Jz 9))]) 39 false,JG 43 (.un .not (.t 42)) 39 false,JS 44 (Jo 39 43)]
abbrev o21_2:List Ins:=[JS 2 (Ji 50)]
abbrev v21_3:VC:=(.seq (.ops o21_2) .ret)
abbrev v21_4:VC:=(.cond (.t 44) v21_3 .skip)
abbrev o21_5:List Ins:=[JS 3 (Ji 0)]
abbrev o21_6:List Ins:=[JS 45 (Jm 3),JS 46 (Jf 3 1),JS 47 (Jl 46),JS 48 (Jn 47),JS 49 (Jb .lss 45 48)]
abbrev v21_7:VC:=(.cond (.t 49) .skip (.exit 0))
abbrev o21_8:List Ins:=[JF 52 (Jf 4 1),JF 53 (Jl 52),JF 54 (Jm 3),JF 55 (Ja 1 53 54),JF 56 (Jl 55),JF 57 (Jf 3 1),JF 58 (Jl 57),JF 59 (Jm 3),JF 60 (Ja 1 58 59),JF 61 (Jl 60),JS 62 (Jc 42 [.t 56,(.k (Jz 0)),.t 61]),JS 63 (.un .not (.t 62))]
abbrev o21_9:List Ins:=[JS 2 (Ji 50)]
abbrev v21_10:VC:=(.seq (.ops o21_9) .ret)
abbrev v21_11:VC:=(.cond (.t 63) v21_10 .skip)
abbrev v21_12:VC:=(.seq (.dops o21_8) v21_11)
abbrev o21_13:List Ins:=[JS 50 (Jm 3),JS 51 (Jk .add 50 1),JS 3 (Jm 51)]
abbrev v21_14:VC:=(.seq (.block 1 v21_12) (.ops o21_13))
abbrev v21_15:VC:=(.seq (.seq (.ops o21_6) v21_7) v21_14)
-- K21_1: changed and kept: [3]
abbrev K21_1:List Nat:=[1]
abbrev v21_16:VC:=(.loop v21_15)
abbrev v21_17:VC:=(.block 0 v21_16)
abbrev o21_18:List Ins:=[JF 64 (Jf 0 1),JF 65 (JL 3 64),JF 66 (Jf 3 1),JF 67 (Jl 66),JF 68 (Jf 5 1),JF 69 (Jl 68),JF 70 (Jc 43 [.t 67,.t 69]),JS 71 (Jc 41 [.t 65,.t 70]),JS 72 (.un .not (.t 71))]
abbrev o21_19:List Ins:=[JS 2 (Ji 50)]
abbrev v21_20:VC:=(.seq (.ops o21_19) .ret)
abbrev v21_21:VC:=(.cond (.t 72) v21_20 .skip)
abbrev o21_22:List Ins:=[JS 2 (Ji 0)]
abbrev v21_23:VC:=(.seq (.ops o21_22) .ret)
abbrev v21_24:VC:=(.seq (.seq (.dops o21_18) v21_21) v21_23)
abbrev v21_25:VC:=(.seq (.seq (.ops o21_5) v21_17) v21_24)
abbrev v21_26:VC:=(.seq (.seq (.ops o21_1) v21_4) v21_25)
def ir21:FC:=⟨1,73,[.t 2],(.seq (.ops o21_0) v21_26)⟩
theorem c21:compM Tryz.prog [] 21 = some ir21:=by kernel_rfl
attribute [local go_sem] Nat.reduceEqDiff Nat.reduceAdd Nat.reduceMul reduceIte Nat.reduceLeDiff Nat.reduceLT Nat.reduceBEq reduceCtorEq
def marK (b:Bx):Nat → Bool
 | 0 => true
 | k + 1 => marK b k && within (b.ma.getD k 0) 0 (b.fo.getD k 0)
theorem marK_false {b:Bx}:∀ {k m:Nat},marK b k = false → k ≤ m → marK b m = false
 | k,0,h,hm => by rwa [show k = 0 by omega] at h
 | k,m + 1,h,hm => by
  rcases Nat.lt_or_ge m k with h1 | h1
  ·rwa [show k = m + 1 by omega] at h
  ·simp only [marK,marK_false h h1,Bool.false_and]
def refOk (b:Bx):Bool:=whB b.wh && purB b.wh b.fo && purB b.wh b.sl && (b.ma.length == b.fo.length) && within b.pl 0 9999 && within b.sk 0 9 && marK b b.fo.length && purB b.wh (putL b)
def chkB (b:Bx):Int:=if refOk b then 0 else 50
theorem ref_bx {b:Bx} (h:refOk b = true):bxB b = true:=by
 simp only [refOk,purB,Bool.and_eq_true,beq_iff_eq,decide_eq_true_eq] at h
 obtain ⟨⟨⟨⟨⟨⟨⟨h1,h2,h2s⟩,h3,h3s⟩,h4⟩,h5⟩,h6⟩,h7⟩,h8,h8s⟩:=h
 have k2:=lstB_ok h2
 have k3:=lstB_ok h3
 have hm:∀ k,marK b k = true → ∀ i,i < k → 0 ≤ b.ma.getD i 0 ∧ b.ma.getD i 0 ≤ b.fo.getD i 0:=by
  intro k
  induction k with
  | zero => intro _ i hi; omega
  | succ k ih =>
   intro h i hi
   simp only [marK,Bool.and_eq_true,within,decide_eq_true_eq] at h
   rcases Nat.lt_or_ge i k with h9 | h9
   ·exact ih h.1 i h9
   ·obtain rfl:i = k:=by omega
    exact h.2
 have hml:lstB b.wh b.ma = true:=by
  unfold lstB
  have e1:(b.ma.length == b.wh.co.length) = true:=by rw [beq_iff_eq,h4,k2.1]
  have e2:b.ma.any put12 = false:=by
   rw [List.any_eq_false]
   intro n hn
   obtain ⟨i,hi,rfl⟩:=List.mem_iff_getElem.1 hn
   have:=hm _ h7 i (by omega)
   have h9:=getD_in k2.2 (k:=i) (by omega)
   rw [getD_at hi] at this
   simp [put12,within]; omega
  rw [e1,e2]; rfl
 have hmk:∀ k,k ≤ b.fo.length → mkK b.fo b.ma k = true:=by
  intro k
  induction k with
  | zero => intro _; rfl
  | succ k ih =>
   intro hk
   simp only [mkK,ih (by omega),Bool.true_and,decide_eq_true_eq]
   exact (hm _ h7 k (by omega)).2
 have hsum:∀ k,k ≤ b.fo.length → sumK b.fo b.sl k = ((putL b).take k).sum:=by
  intro k
  induction k with
  | zero => intro _; simp [sumK]
  | succ k ih =>
   intro hk
   have hp:k < (putL b).length:=by simp [putL,addL]; omega
   rw [List.take_succ_eq_append_getElem hp,List.sum_append,sumK,ih (by omega)]
   simp only [putL,addL,List.getElem_zipWith,getD_at (l:=b.fo) (k:=k) (by omega),getD_at (l:=b.sl) (k:=k) (by omega)]
   simp
 have hpl:(putL b).length = b.fo.length:=by simp [putL,addL]; omega
 have hs:=hsum b.fo.length (Nat.le_refl _)
 rw [List.take_of_length_le (by omega)] at hs
 unfold bxB
 rw [h1,h5,h6,h2,hml,h3,hmk _ (Nat.le_refl _),hs,decide_eq_true h8s]
 rfl
set_option maxHeartbeats 16000000 in
set_option maxRecDepth 20000 in
theorem check8 (b:Bx):FSpec Tryz.prog 21 [b.av] (iv (chkB b)):=by
 refine FSpec_of c21 (Nat.le_refl _) (by decide) fun C hP hN hC hL => ?_; rw [init_st]
 simp only [ir21,Bx.av,Bx.avs]
 have hbad:refOk b = false → chkB b = 50:=fun h => by unfold chkB; rw [h]; rfl
 have hb0:((0:Int) != 0) = false:=rfl
 have hne:((b.ma.length:Int) != (b.fo.length:Int)) = !(b.ma.length == b.fo.length):=ibne _ _
 (repeat ((first | refine Va ?_ | refine Vb ?_ | refine Vc ?_ | refine Vd ?_ | refine Ve ?_ | refine Vf ?_); (try simp only [go_sem,hP,Bx.avs,ints,List.length_map]); (repeat refine qJ ?_)))
 (refine AS_pu (check20 b.wh) ?_; simp only [go_sem,hP,Wh.av,Wh.avs,ints,List.length_map,hne]; (repeat refine qJ ?_); (repeat ((first | refine Va ?_ | refine Vb ?_ | refine Vc ?_ | refine Vd ?_ | refine Ve ?_ | refine Vf ?_); (try simp only [go_sem,hP,Wh.av,Wh.avs,ints,List.length_map,hne]); (repeat refine qJ ?_))))
 by_cases h1:whB b.wh = true
 case neg =>
  have h1:whB b.wh = false:=by simpa using h1
  have e0:whE b.wh = 10:=by unfold whE; rw [h1]; rfl
  rw [hbad (by unfold refOk; rw [h1]; rfl),e0]
  have hb1:((10:Int) != 0) = true:=rfl
  simp only [go_sem,hb1]
  (refine AG_skip ?_; simp only [go_sem,hP,List.length_map,hne]; (repeat refine qJ ?_); (repeat ((first | refine Va ?_ | refine Vb ?_ | refine Vc ?_ | refine Vd ?_ | refine Ve ?_ | refine Vf ?_); (try simp only [go_sem,hP,List.length_map,hne]); (repeat refine qJ ?_))))
  (refine AG_skip ?_; simp only [go_sem,hP,List.length_map,hne]; (repeat refine qJ ?_); (repeat ((first | refine Va ?_ | refine Vb ?_ | refine Vc ?_ | refine Vd ?_ | refine Ve ?_ | refine Vf ?_); (try simp only [go_sem,hP,List.length_map,hne]); (repeat refine qJ ?_))))
  (refine AG_skip ?_; simp only [go_sem,hP,List.length_map,hne]; (repeat refine qJ ?_); (repeat ((first | refine Va ?_ | refine Vb ?_ | refine Vc ?_ | refine Vd ?_ | refine Ve ?_ | refine Vf ?_); (try simp only [go_sem,hP,List.length_map,hne]); (repeat refine qJ ?_))))
  (refine AG_skip ?_; simp only [go_sem,hP,List.length_map,hne]; (repeat refine qJ ?_); (repeat ((first | refine Va ?_ | refine Vb ?_ | refine Vc ?_ | refine Vd ?_ | refine Ve ?_ | refine Vf ?_); (try simp only [go_sem,hP,List.length_map,hne]); (repeat refine qJ ?_))))
  (refine WV_cond rfl (fun h => ?_) (fun h => ?_))
  ·(repeat ((first | refine Va ?_ | refine Vb ?_ | refine Vc ?_ | refine Vd ?_ | refine Ve ?_ | refine Vf ?_); (try simp only [go_sem,hP]); (repeat refine qJ ?_)))
   (refine WV_ret ?_; simp only [thenQ,inQ,RetQ,RetOk,resAll,resA]; simp only [go_sem,tupA,AV.port,AV.portL,exists_eq_left']; (first | exact AVle.of rfl | refine AVle.of ?_ | skip))
  ·simp at h
 have e0:whE b.wh = 0:=by unfold whE; rw [if_pos h1]
 have hw:=whB_ok h1
 rw [e0]
 simp only [go_sem,hb0]
 (refine AG_pu (fun hG => purse21 hw b.fo) ?_; simp only [go_sem,hP,Wh.av,Wh.avs,ints,hb0,List.length_map,hne]; (repeat refine qJ ?_); (repeat ((first | refine Va ?_ | refine Vb ?_ | refine Vc ?_ | refine Vd ?_ | refine Ve ?_ | refine Vf ?_); (try simp only [go_sem,hP,Wh.av,Wh.avs,ints,hb0,List.length_map,hne]); (repeat refine qJ ?_))))
 by_cases h2:purB b.wh b.fo = true
 case neg =>
  have h2:purB b.wh b.fo = false:=by simpa using h2
  rw [hbad (by unfold refOk; rw [h2]; simp)]
  simp only [go_sem,h2]
  (refine AG_skip ?_; simp only [go_sem,hP,List.length_map,hne]; (repeat refine qJ ?_); (repeat ((first | refine Va ?_ | refine Vb ?_ | refine Vc ?_ | refine Vd ?_ | refine Ve ?_ | refine Vf ?_); (try simp only [go_sem,hP,List.length_map,hne]); (repeat refine qJ ?_))))
  (refine AG_skip ?_; simp only [go_sem,hP,List.length_map,hne]; (repeat refine qJ ?_); (repeat ((first | refine Va ?_ | refine Vb ?_ | refine Vc ?_ | refine Vd ?_ | refine Ve ?_ | refine Vf ?_); (try simp only [go_sem,hP,List.length_map,hne]); (repeat refine qJ ?_))))
  (refine AG_skip ?_; simp only [go_sem,hP,List.length_map,hne]; (repeat refine qJ ?_); (repeat ((first | refine Va ?_ | refine Vb ?_ | refine Vc ?_ | refine Vd ?_ | refine Ve ?_ | refine Vf ?_); (try simp only [go_sem,hP,List.length_map,hne]); (repeat refine qJ ?_))))
  (refine WV_cond rfl (fun h => ?_) (fun h => ?_))
  ·(repeat ((first | refine Va ?_ | refine Vb ?_ | refine Vc ?_ | refine Vd ?_ | refine Ve ?_ | refine Vf ?_); (try simp only [go_sem,hP]); (repeat refine qJ ?_)))
   (refine WV_ret ?_; simp only [thenQ,inQ,RetQ,RetOk,resAll,resA]; simp only [go_sem,tupA,AV.port,AV.portL,exists_eq_left']; (first | exact AVle.of rfl | refine AVle.of ?_ | skip))
  ·simp at h
 simp only [go_sem,h2]
 (refine AG_pu (fun hG => purse21 hw b.sl) ?_; simp only [go_sem,hP,Wh.av,Wh.avs,ints,hb0,h2,List.length_map,hne]; (repeat refine qJ ?_); (repeat ((first | refine Va ?_ | refine Vb ?_ | refine Vc ?_ | refine Vd ?_ | refine Ve ?_ | refine Vf ?_); (try simp only [go_sem,hP,Wh.av,Wh.avs,ints,hb0,h2,List.length_map,hne]); (repeat refine qJ ?_))))
 by_cases h3:purB b.wh b.sl = true
 case neg =>
  have h3:purB b.wh b.sl = false:=by simpa using h3
  rw [hbad (by unfold refOk; rw [h3]; simp)]
  simp only [go_sem,h3]
  (refine AG_skip ?_; simp only [go_sem,hP,List.length_map,hne]; (repeat refine qJ ?_); (repeat ((first | refine Va ?_ | refine Vb ?_ | refine Vc ?_ | refine Vd ?_ | refine Ve ?_ | refine Vf ?_); (try simp only [go_sem,hP,List.length_map,hne]); (repeat refine qJ ?_))))
  (refine AG_skip ?_; simp only [go_sem,hP,List.length_map,hne]; (repeat refine qJ ?_); (repeat ((first | refine Va ?_ | refine Vb ?_ | refine Vc ?_ | refine Vd ?_ | refine Ve ?_ | refine Vf ?_); (try simp only [go_sem,hP,List.length_map,hne]); (repeat refine qJ ?_))))
  (refine WV_cond rfl (fun h => ?_) (fun h => ?_))
  ·(repeat ((first | refine Va ?_ | refine Vb ?_ | refine Vc ?_ | refine Vd ?_ | refine Ve ?_ | refine Vf ?_); (try simp only [go_sem,hP]); (repeat refine qJ ?_)))
   (refine WV_ret ?_; simp only [thenQ,inQ,RetQ,RetOk,resAll,resA]; simp only [go_sem,tupA,AV.port,AV.portL,exists_eq_left']; (first | exact AVle.of rfl | refine AVle.of ?_ | skip))
  ·simp at h
 by_cases h4:b.ma.length = b.fo.length
 case neg =>
  have hb4:(b.ma.length == b.fo.length) = false:=by simpa using h4
  rw [hbad (by unfold refOk; rw [hb4]; simp)]
  simp only [go_sem,h3,hb4]
  (refine AG_skip ?_; simp only [go_sem,hP,List.length_map,hne]; (repeat refine qJ ?_); (repeat ((first | refine Va ?_ | refine Vb ?_ | refine Vc ?_ | refine Vd ?_ | refine Ve ?_ | refine Vf ?_); (try simp only [go_sem,hP,List.length_map,hne]); (repeat refine qJ ?_))))
  (refine AG_skip ?_; simp only [go_sem,hP,List.length_map,hne]; (repeat refine qJ ?_); (repeat ((first | refine Va ?_ | refine Vb ?_ | refine Vc ?_ | refine Vd ?_ | refine Ve ?_ | refine Vf ?_); (try simp only [go_sem,hP,List.length_map,hne]); (repeat refine qJ ?_))))
  (refine WV_cond rfl (fun h => ?_) (fun h => ?_))
  ·(repeat ((first | refine Va ?_ | refine Vb ?_ | refine Vc ?_ | refine Vd ?_ | refine Ve ?_ | refine Vf ?_); (try simp only [go_sem,hP]); (repeat refine qJ ?_)))
   (refine WV_ret ?_; simp only [thenQ,inQ,RetQ,RetOk,resAll,resA]; simp only [go_sem,tupA,AV.port,AV.portL,exists_eq_left']; (first | exact AVle.of rfl | refine AVle.of ?_ | skip))
  ·simp at h
 have hb4:(b.ma.length == b.fo.length) = true:=by simpa using h4
 simp only [go_sem,h3,hb4]
 (refine AG_pu (fun hG => within22 b.pl 0 9999) ?_; simp only [go_sem,hP,ints,hb0,h3,hb4,List.length_map,hne]; (repeat refine qJ ?_); (repeat ((first | refine Va ?_ | refine Vb ?_ | refine Vc ?_ | refine Vd ?_ | refine Ve ?_ | refine Vf ?_); (try simp only [go_sem,hP,ints,hb0,h3,hb4,List.length_map,hne]); (repeat refine qJ ?_))))
 by_cases h5:within b.pl 0 9999 = true
 case neg =>
  have h5:within b.pl 0 9999 = false:=by simpa using h5
  rw [hbad (by unfold refOk; rw [h5]; simp)]
  simp only [go_sem,h5]
  (refine AG_skip ?_; simp only [go_sem,hP,List.length_map,hne]; (repeat refine qJ ?_); (repeat ((first | refine Va ?_ | refine Vb ?_ | refine Vc ?_ | refine Vd ?_ | refine Ve ?_ | refine Vf ?_); (try simp only [go_sem,hP,List.length_map,hne]); (repeat refine qJ ?_))))
  (refine WV_cond rfl (fun h => ?_) (fun h => ?_))
  ·(repeat ((first | refine Va ?_ | refine Vb ?_ | refine Vc ?_ | refine Vd ?_ | refine Ve ?_ | refine Vf ?_); (try simp only [go_sem,hP]); (repeat refine qJ ?_)))
   (refine WV_ret ?_; simp only [thenQ,inQ,RetQ,RetOk,resAll,resA]; simp only [go_sem,tupA,AV.port,AV.portL,exists_eq_left']; (first | exact AVle.of rfl | refine AVle.of ?_ | skip))
  ·simp at h
 simp only [go_sem,h5]
 (refine AG_pu (fun hG => within22 b.sk 0 9) ?_; simp only [go_sem,hP,ints,hb0,h5,List.length_map,hne]; (repeat refine qJ ?_); (repeat ((first | refine Va ?_ | refine Vb ?_ | refine Vc ?_ | refine Vd ?_ | refine Ve ?_ | refine Vf ?_); (try simp only [go_sem,hP,ints,hb0,h5,List.length_map,hne]); (repeat refine qJ ?_))))
 by_cases h6:within b.sk 0 9 = true
 case neg =>
  have h6:within b.sk 0 9 = false:=by simpa using h6
  rw [hbad (by unfold refOk; rw [h6]; simp)]
  (refine WV_cond rfl (fun h => ?_) (fun h => ?_))
  ·(repeat ((first | refine Va ?_ | refine Vb ?_ | refine Vc ?_ | refine Vd ?_ | refine Ve ?_ | refine Vf ?_); (try simp only [go_sem,hP]); (repeat refine qJ ?_)))
   (refine WV_ret ?_; simp only [thenQ,inQ,RetQ,RetOk,resAll,resA]; simp only [go_sem,tupA,AV.port,AV.portL,exists_eq_left']; (first | exact AVle.of rfl | refine AVle.of ?_ | skip))
  ·simp [h6] at h
 (refine WV_cond rfl (fun h => ?_) (fun h => ?_))
 ·simp [h6] at h
 clear h
 have hfl:b.fo.length = b.wh.co.length:=by
  simp only [purB,Bool.and_eq_true] at h2
  exact (lstB_ok h2.1).1
 have hcl:=hw.cl
 have hmb:marK b b.fo.length = false → chkB b = 50:=fun h => hbad (by unfold refOk; rw [h]; simp)
 have hrest:marK b b.fo.length = true → chkB b = if purB b.wh (putL b) then 0 else 50:=fun h => by
  have:refOk b = purB b.wh (putL b):=by unfold refOk; rw [h1,h2,h3,hb4,h5,h6,h]; rfl
  unfold chkB; rw [this]
 (repeat ((first | refine Va ?_ | refine Vb ?_ | refine Vc ?_ | refine Vd ?_ | refine Ve ?_ | refine Vf ?_); (try simp only [go_sem,hP,ints,List.length_map]); (repeat refine qJ ?_)))
 refine WV_loopK K21_1 [] (fun k:Nat => k ≤ b.fo.length ∧ marK b k = true) (fun k => b.fo.length - k) (fun k => [(3,iv k)]) (fun _ => []) 0 ⟨by omega,rfl⟩ ?_ ?_
 ·exact Sub_au
 ·rintro k ⟨hk,hr⟩
  (repeat ((first | refine Va ?_ | refine Vb ?_ | refine Vc ?_ | refine Vd ?_ | refine Ve ?_ | refine Vf ?_); (try simp only [go_sem,hP,ints,List.length_map]); (repeat refine qJ ?_)))
  (refine WV_cond rfl (fun h => ?_) (fun h => ?_))
  ·have hi:k < b.fo.length:=by simpa using h
   have hi2:k < b.ma.length:=by omega
   have gf:=ints_get hi
   have gm:=ints_get hi2
   have w1:=w64 (n:=(k:Int) + 1) (by omega) (by omega)
   have hs:marK b (k + 1) = within (b.ma.getD k 0) 0 (b.fo.getD k 0):=by simp only [marK,hr,Bool.true_and]
   generalize b.fo.getD k 0 = x at *
   generalize b.ma.getD k 0 = y at *
   (repeat ((first | refine Va ?_ | refine Vb ?_ | refine Vc ?_ | refine Vd ?_ | refine Ve ?_ | refine Vf ?_); (try simp only [go_sem,hP,gf,gm,ints,List.length_map,Int.toNat_natCast,Int.ofNat_lt,hi,hi2,Int.natCast_nonneg]); (repeat refine qJ ?_)))
   (refine AS_pu (within22 y 0 x) ?_; simp only [go_sem,hP,ints]; (repeat refine qJ ?_); (repeat ((first | refine Va ?_ | refine Vb ?_ | refine Vc ?_ | refine Vd ?_ | refine Ve ?_ | refine Vf ?_); (try simp only [go_sem,hP,ints]); (repeat refine qJ ?_))))
   by_cases hx:within y 0 x = true
   ·(refine WV_cond rfl (fun h => ?_) (fun h => ?_))
    ·simp [hx] at h
    (repeat ((first | refine Va ?_ | refine Vb ?_ | refine Vc ?_ | refine Vd ?_ | refine Ve ?_ | refine Vf ?_); (try simp only [go_sem,hP,w1]); (repeat refine qJ ?_)))
    refine ⟨k + 1,⟨by omega,by rw [hs]; exact hx⟩,by omega,?_⟩
    (refine Sub_of (by simp only [go_sem]; ((repeat' (first | exact EnvLe_e0 _ _ | refine EnvLe_upd ?_ ?_)) <;> ((try simp only [upd_app,e0_app,o0_app,Nat.reduceEqDiff,reduceIte]); first | exact AWk.refl _ _ | exact AWk.int (by omega) | exact AWk.int (by rw [w64 (by omega) (by omega)]; omega) | exact AWk.grow rfl | exact AWk.nil _ | exact AWk.of (by simp [ints])))) (by simp only [go_sem]; exact ObjLe_au))
   ·have hx:within y 0 x = false:=by simpa using hx
    rw [hmb (marK_false (k:=k + 1) (by rw [hs]; exact hx) (by omega))]
    (refine WV_cond rfl (fun h => ?_) (fun h => ?_))
    ·(repeat ((first | refine Va ?_ | refine Vb ?_ | refine Vc ?_ | refine Vd ?_ | refine Ve ?_ | refine Vf ?_); (try simp only [go_sem,hP]); (repeat refine qJ ?_)))
     (refine WV_ret ?_; simp only [thenQ,inQ,RetQ,RetOk,resAll,resA]; simp only [go_sem,tupA,AV.port,AV.portL,exists_eq_left']; (first | exact AVle.of rfl | refine AVle.of ?_ | skip))
    ·simp [hx] at h
  ·have hi:k = b.fo.length:=by simp at h; omega
   subst hi
   have hfo:∀ n ∈ b.fo,0 ≤ n ∧ n ≤ 12:=by
    simp only [purB,Bool.and_eq_true] at h2
    exact (lstB_ok h2.1).2
   have hslo:b.sl.length = b.wh.co.length ∧ ∀ n ∈ b.sl,0 ≤ n ∧ n ≤ 12:=by
    simp only [purB,Bool.and_eq_true] at h3
    exact lstB_ok h3.1
   clear h hk
   by_cases h9:purB b.wh (putL b) = true
   ·have e1:chkB b = 0:=by rw [hrest hr,if_pos h9]
    rw [e1]
    (repeat ((first | refine Va ?_ | refine Vb ?_ | refine Vc ?_ | refine Vd ?_ | refine Ve ?_ | refine Vf ?_); (try simp only [go_sem,hP,ints,List.length_map]); (repeat refine qJ ?_)))
    (refine ACall_of (both23 (by omega) (by omega) hfo hslo.2) rfl rfl rfl rfl rfl ?_; simp only [go_sem,hP,ints]; (repeat refine qJ ?_); (repeat ((first | refine Va ?_ | refine Vb ?_ | refine Vc ?_ | refine Vd ?_ | refine Ve ?_ | refine Vf ?_); (try simp only [go_sem,hP,ints]); (repeat refine qJ ?_))))
    (refine AS_pu (purse21 hw (putL b)) ?_; simp only [go_sem,hP,Wh.av,Wh.avs,ints,putL]; (repeat refine qJ ?_); (repeat ((first | refine Va ?_ | refine Vb ?_ | refine Vc ?_ | refine Vd ?_ | refine Ve ?_ | refine Vf ?_); (try simp only [go_sem,hP,Wh.av,Wh.avs,ints,putL]); (repeat refine qJ ?_))))
    simp only [putL] at h9
    (refine WV_cond rfl (fun h => ?_) (fun h => ?_))
    ·simp [h9] at h
    ·(repeat ((first | refine Va ?_ | refine Vb ?_ | refine Vc ?_ | refine Vd ?_ | refine Ve ?_ | refine Vf ?_); (try simp only [go_sem,hP]); (repeat refine qJ ?_)))
     (refine WV_ret ?_; simp only [thenQ,inQ,RetQ,RetOk,resAll,resA]; simp only [go_sem,tupA,AV.port,AV.portL,exists_eq_left']; (first | exact AVle.of rfl | refine AVle.of ?_ | skip))
   ·have e1:chkB b = 50:=by rw [hrest hr,if_neg h9]
    have h9:purB b.wh (putL b) = false:=by simpa using h9
    rw [e1]
    (repeat ((first | refine Va ?_ | refine Vb ?_ | refine Vc ?_ | refine Vd ?_ | refine Ve ?_ | refine Vf ?_); (try simp only [go_sem,hP,ints,List.length_map]); (repeat refine qJ ?_)))
    (refine ACall_of (both23 (by omega) (by omega) hfo hslo.2) rfl rfl rfl rfl rfl ?_; simp only [go_sem,hP,ints]; (repeat refine qJ ?_); (repeat ((first | refine Va ?_ | refine Vb ?_ | refine Vc ?_ | refine Vd ?_ | refine Ve ?_ | refine Vf ?_); (try simp only [go_sem,hP,ints]); (repeat refine qJ ?_))))
    (refine AS_pu (purse21 hw (putL b)) ?_; simp only [go_sem,hP,Wh.av,Wh.avs,ints,putL]; (repeat refine qJ ?_); (repeat ((first | refine Va ?_ | refine Vb ?_ | refine Vc ?_ | refine Vd ?_ | refine Ve ?_ | refine Vf ?_); (try simp only [go_sem,hP,Wh.av,Wh.avs,ints,putL]); (repeat refine qJ ?_))))
    simp only [putL] at h9
    (refine WV_cond rfl (fun h => ?_) (fun h => ?_))
    ·(repeat ((first | refine Va ?_ | refine Vb ?_ | refine Vc ?_ | refine Vd ?_ | refine Ve ?_ | refine Vf ?_); (try simp only [go_sem,hP]); (repeat refine qJ ?_)))
     (refine WV_ret ?_; simp only [thenQ,inQ,RetQ,RetOk,resAll,resA]; simp only [go_sem,tupA,AV.port,AV.portL,exists_eq_left']; (first | exact AVle.of rfl | refine AVle.of ?_ | skip))
    ·simp [h9] at h
end Go.Proofs.YtefoconkepmmgaaGreatDoor

/-
 Trays as data: plain.
-/
namespace Go.Proofs.YtefoconkepmmgaaGreatDoor
open Go Go.V
abbrev bv (b:Bool):AV:=.c (.bool b)
structure Rec where
 front:Int
 back:Int
 deriving DecidableEq,Inhabited
structure Pr where
 side:Int
 time:Int
 deriving DecidableEq,Inhabited
structure Tray where
 recs:List Rec
 at_:Int
 way:Int
 step:Int
 pres:List Pr
 deriving DecidableEq,Inhabited
def Rec.cds (s:Rec):List CD:=[.int .i64 s.front,.int .i64 s.back]
def recsC (l:List Rec):CD:=.sl 2 (l.map Rec.cds)
def Pr.cds (p:Pr):List CD:=[.int .i64 p.side,.int .i64 p.time]
def prsC (l:List Pr):CD:=.sl 2 (l.map Pr.cds)
def Tray.cds (t:Tray):List CD:=[recsC t.recs,.int .i64 t.at_,.int .i64 t.way,.int .i64 t.step,prsC t.pres]
def Tray.av (t:Tray):AV:=.agg [.c (recsC t.recs),iv t.at_,iv t.way,iv t.step,.c (prsC t.pres)]
def Tray.n (t:Tray):Nat:=t.recs.length
def okRec (r:Rec):Bool:=within r.front 1 999 && within r.back 1 999
def isSide (n:Nat) (s:Int):Bool:=within s 0 (2 * (n:Int) - 1)
def isTime (x:Int):Bool:=within x 0 9999
def okPr (n:Nat) (p:Pr):Bool:=isSide n p.side && isTime p.time
def Tray.okHead (t:Tray):Bool:=within t.n 1 6 && within t.at_ 0 ((t.n:Int) - 1) && (t.way == 1 || t.way == -1) && within t.step 0 60
def Tray.ok (t:Tray):Bool:=t.okHead && t.recs.all okRec && decide (t.pres.length ≤ 12) && t.pres.all (okPr t.n)
theorem recsC_lens {l:List Rec} (h:(recsC l).lens):l.length ≤ 9223372036854775807:=by
 simp only [recsC,CD.lens,List.length_map,maxLen] at h; omega
theorem prsC_lens {l:List Pr} (h:(prsC l).lens):l.length ≤ 9223372036854775807:=by
 simp only [prsC,CD.lens,List.length_map,maxLen] at h; omega
theorem Tray.lens {t:Tray} {xs:List AV} (h:AV.lensL (t.av :: xs)):t.recs.length ≤ 9223372036854775807 ∧ t.pres.length ≤ 9223372036854775807:=by
 simp only [AV.lensL,Tray.av,AV.lens] at h
 exact ⟨recsC_lens h.1.1,prsC_lens h.1.2.2.2.2.1⟩
theorem pr_two (r:Pr):r.cds.length = 2:=rfl
theorem recs_two (l:List Rec):((l.map Rec.cds).all fun e => e.length == 2) = true:=by
 rw [List.all_eq_true]; intro e he; obtain ⟨n,_,rfl⟩:=List.mem_map.1 he; rfl
theorem prs_two (l:List Pr):((l.map Pr.cds).all fun e => e.length == 2) = true:=by
 rw [List.all_eq_true]; intro e he; obtain ⟨n,_,rfl⟩:=List.mem_map.1 he; rfl
attribute [go_sem] Int.toNat_natCast List.length_map List.length_set Nat.mul_one Nat.zero_add Int.natCast_nonneg
structure TrayOk (t:Tray):Prop where
 n1:1 ≤ t.n
 n6:t.n ≤ 6
 at_:0 ≤ t.at_ ∧ t.at_ < (t.n:Int)
 way:t.way = 1 ∨ t.way = -1
 step:0 ≤ t.step ∧ t.step ≤ 60
 recs:∀ r ∈ t.recs,(1 ≤ r.front ∧ r.front ≤ 999) ∧ (1 ≤ r.back ∧ r.back ≤ 999)
 pres:∀ p ∈ t.pres,(0 ≤ p.side ∧ p.side < 2 * (t.n:Int)) ∧ (0 ≤ p.time ∧ p.time ≤ 9999)
 p13:t.pres.length ≤ 13
theorem Tray.ok_spec {t:Tray} (h:t.ok = true):TrayOk t ∧ t.pres.length ≤ 12:=by
 simp only [Tray.ok,Tray.okHead,Bool.and_eq_true,Bool.or_eq_true,beq_iff_eq,decide_eq_true_eq,List.all_eq_true,okRec,okPr,isSide,isTime,within] at h
 obtain ⟨⟨⟨⟨⟨⟨h1,h2⟩,h3⟩,h4⟩,h5⟩,h6⟩,h7⟩:=h
 exact ⟨⟨by omega,by omega,by omega,h3,h4,h5,fun p hp => by have:=h7 p hp; omega,by omega⟩,h6⟩
end Go.Proofs.YtefoconkepmmgaaGreatDoor

namespace Go.Proofs.YtefoconkepmmgaaGreatDoor
open Go Go.V
abbrev o49_0:List Ins:=[JS 1 (.box 5 (.t 0)),JS 2 (Ji 0)]
abbrev o49_1:List Ins:=[JS 8 (Jf 0 1),JS 9 (Jl 8),JS 10 (Jn 9),JS 11 (Jk .geq 10 1),JS 12 (Jm 11),JG 13 (Jf 0 1) 12 true,JG 14 (Jl 13) 12 true,JG 15 (Jn 14) 12 true,JG 16 (Jk .leq 15 6) 12 true,JS 17 (Jp 12 16),JS 18 (Jm 17),JG 19 (Jf 1 1) 18 true,JG 20 (Jl 19) 18 true,JG 21 (Jk .geq 20 0) 18 true,JS 22 (Jp 18 21),JS 23 (Jm 22),JG 24 (Jf 1 1) 23 true,JG 25 (Jl 24) 23 true,JG 26 (Jf 0 1) 23 true,JG 27 (Jl 26) 23 true,JG 28 (Jn 27) 23 true,JG 29 (Jb .lss 25 28) 23 true,JS 30 (Jp 23 29),JS 31 (Jm 30),JG 32 (Jf 2 1) 31 true,JG 33 (Jl 32) 31 true,JG 34 (Jk .eql 33 1) 31 true,JG 35 (Jm 34) 31 true,JG 36 (Jf 2 1) 35 false,JG 37 (Jl 36) 35 false,JG 38 (Jk .eql 37 (-1)) 35 false,JG 39 (Jo 35 38) 31 true,JS 40 (Jp 31 39),JS 41 (Jm 40),JG 42 (Jf 3 1) 41 true,JG 43 (Jl 42) 41 true,JG 44 (Jk .geq 43 0) 41 true,JS 45 (Jp 41 44),JS 46 (Jm 45),JG 47 (Jf 3 1) 46 true,JG 48 (Jl 47) 46 true,JG 49 (Jk .leq 48 60) 46 true,JS 50 (Jp 46 49),JS 51 (Jm 50),JG 52 (Jf 4 1) 51 true,JG 53 (Jl 52) 51 true,JG 54 (Jn 53) 51 true,JG 55 (Jk .leq 54 12) 51 true,JS 56 (Jp 51 55),JS 3 (Jm 56)]
abbrev o49_2:List Ins:=[JS 57 (Jf 0 1),JS 58 (Jl 57),JS 59 (Jn 58),JS 60 (Ji 0)]
abbrev o49_3:List Ins:=[JS 61 (Jb .lss 60 59)]
abbrev o49_4:List Ins:=[JS 62 (Ja 2 58 60),JS 63 (JL 2 62),JS 5 (.alloc [Jz 0,Jz 0]),JN (Js 2 5 63)]
abbrev o49_5:List Ins:=[JS 64 (Jm 3),JS 65 (Jm 64),JG 66 (Jf 0 5) 65 true,JG 67 (Jl 66) 65 true,JG 68 (Jk .geq 67 1) 65 true,JS 69 (Jp 65 68),JS 70 (Jm 69),JG 71 (Jf 0 5) 70 true,JG 72 (Jl 71) 70 true,JG 73 (Jk .leq 72 999) 70 true,JS 74 (Jp 70 73),JS 75 (Jm 74),JG 76 (Jf 1 5) 75 true,JG 77 (Jl 76) 75 true,JG 78 (Jk .geq 77 1) 75 true,JS 79 (Jp 75 78),JS 80 (Jm 79),JG 81 (Jf 1 5) 80 true,JG 82 (Jl 81) 80 true,JG 83 (Jk .leq 82 999) 80 true,JS 84 (Jp 80 83),JS 3 (Jm 84)]
abbrev v49_6:VC:=(.seq (.ops o49_4) (.ops o49_5))
abbrev o49_7:List Ins:=[JS 85 (Jk .add 60 1),JS 60 (Jm 85)]
abbrev v49_8:VC:=(.seq (.block 1 v49_6) (.ops o49_7))
abbrev v49_9:VC:=(.seq (.cond (.t 61) .skip (.exit 0)) v49_8)
abbrev v49_10:VC:=(.seq (.ops o49_3) v49_9)
-- K49_1: changed and kept: [60,3]
abbrev K49_1:List Nat:=[1,58,59]
abbrev v49_11:VC:=(.loop v49_10)
abbrev v49_12:VC:=(.block 0 v49_11)
abbrev o49_13:List Ins:=[JS 86 (Jf 4 1),JS 87 (Jl 86),JS 88 (Jn 87),JS 89 (Ji 0)]
abbrev o49_14:List Ins:=[JS 90 (Jb .lss 89 88)]
abbrev o49_15:List Ins:=[JS 91 (Ja 2 87 89),JS 92 (JL 2 91),JS 7 (.alloc [Jz 0,Jz 0]),JN (Js 2 7 92)]
abbrev o49_16:List Ins:=[JS 93 (Jm 3),JS 94 (Jm 93),JG 95 (JL 5 1) 94 true,JG 96 (Jf 0 7) 94 true,JG 97 (Jl 96) 94 true,JG 98 (Jc 64 [.t 95,.t 97]) 94 true,JS 99 (Jp 94 98),JS 100 (Jm 99),JG 101 (Jf 1 7) 100 true,JG 102 (Jl 101) 100 true,JG 103 (Jc 65 [.t 102]) 100 true,JS 104 (Jp 100 103),JS 3 (Jm 104)]
abbrev v49_17:VC:=(.seq (.ops o49_15) (.ops o49_16))
abbrev o49_18:List Ins:=[JS 105 (Jk .add 89 1),JS 89 (Jm 105)]
abbrev v49_19:VC:=(.seq (.block 3 v49_17) (.ops o49_18))
abbrev v49_20:VC:=(.seq (.cond (.t 90) .skip (.exit 2)) v49_19)
abbrev v49_21:VC:=(.seq (.ops o49_14) v49_20)
-- K49_2: changed and kept: [89,3]
abbrev K49_2:List Nat:=[1,87,88]
abbrev v49_22:VC:=(.loop v49_21)
abbrev v49_23:VC:=(.block 2 v49_22)
abbrev o49_24:List Ins:=[JS 106 (Jm 3),JS 107 (.un .not (.t 106))]
abbrev o49_25:List Ins:=[JS 2 (Ji 20)]
abbrev v49_26:VC:=(.seq (.ops o49_25) .ret)
abbrev v49_27:VC:=(.cond (.t 107) v49_26 .skip)
abbrev o49_28:List Ins:=[JS 2 (Ji 0)]
abbrev v49_29:VC:=(.seq (.ops o49_28) .ret)
abbrev v49_30:VC:=(.seq (.seq (.ops o49_24) v49_27) v49_29)
abbrev v49_31:VC:=(.seq (.seq (.ops o49_13) v49_23) v49_30)
abbrev v49_32:VC:=(.seq (.seq (.ops o49_2) v49_12) v49_31)
abbrev v49_33:VC:=(.seq (.ops o49_1) v49_32)
def ir49:FC:=⟨1,108,[.t 2],(.seq (.ops o49_0) v49_33)⟩
abbrev o65_0:List Ins:=[JS 2 (JB false)]
abbrev o65_1:List Ins:=[JS 3 (Jm 0),JS 4 (Jk .geq 3 0),JS 5 (Jm 4),JG 6 (Jm 0) 5 true,JG 7 (Jk .leq 6 9999) 5 true,JS 8 (Jp 5 7),JS 2 (Jm 8)]
abbrev v65_2:VC:=(.seq (.ops o65_1) .ret)
def ir65:FC:=⟨1,9,[.t 2],(.seq (.ops o65_0) v65_2)⟩
abbrev o64_0:List Ins:=[JS 2 (.box 5 (.t 0)),JS 4 (JB false)]
abbrev o64_1:List Ins:=[JS 5 (Jm 1),JS 6 (Jk .geq 5 0),JS 7 (Jm 6),JG 8 (Jm 1) 7 true,JG 9 (Jf 0 2) 7 true,JG 10 (Jl 9) 7 true,JG 11 (Jn 10) 7 true,JG 12 (.bin .mul (.k (Jz 2)) (.t 11)) 7 true,JG 13 (Jb .lss 8 12) 7 true,JS 14 (Jp 7 13),JS 4 (Jm 14)]
abbrev v64_2:VC:=(.seq (.ops o64_1) .ret)
def ir64:FC:=⟨2,15,[.t 4],(.seq (.ops o64_0) v64_2)⟩
abbrev o22_0:List Ins:=[JS 1 (.box 5 (.t 0)),JS 2 (Ji 0)]
abbrev o22_1:List Ins:=[JS 4 (Jf 0 1),JS 5 (Jl 4),JS 6 (Jn 5),JS 7 (Jc 37 [.t 6,(.k (Jz 1)),(.k (Jz 6))]),JS 8 (.un .not (.t 7)),JS 9 (Jm 8),JG 10 (Jf 1 1) 9 false,JG 11 (Jl 10) 9 false,JG 12 (Jf 0 1) 9 false,JG 13 (Jl 12) 9 false,JG 14 (Jn 13) 9 false,JG 15 (Jk .sub 14 1) 9 false,JG 16 (Jc 37 [.t 11,(.k (Jz 0)),.t 15]) 9 false,JG 17 (.un .not (.t 16)) 9 false,JS 18 (Jo 9 17),JS 19 (Jm 18),JG 20 (Jf 2 1) 19 false,JG 21 (Jl 20) 19 false,JG 22 (Jk .neq 21 1) 19 false,JG 23 (Jm 22) 19 false,JG 24 (Jf 2 1) 23 true,JG 25 (Jl 24) 23 true,JG 26 (Jk .neq 25 (-1)) 23 true,JG 27 (Jp 23 26) 19 false,JS 28 (Jo 19 27),JS 29 (Jm 28),JG 30 (Jf 3 1) 29 false,JG 31 (Jl 30) 29 false,JG 32 (Jc 37 [.t 31,(.k (Jz 0)),(.k (Jz 60))]) 29 false,JG 33 (.un .not (.t 32)) 29 false,JS 34 (Jo 29 33)]
abbrev o22_2:List Ins:=[JS 2 (Ji 20)]
abbrev v22_3:VC:=(.seq (.ops o22_2) .ret)
abbrev v22_4:VC:=(.cond (.t 34) v22_3 .skip)
abbrev o22_5:List Ins:=[JS 3 (Ji 0)]
abbrev o22_6:List Ins:=[JS 35 (Jm 3),JS 36 (Jf 0 1),JS 37 (Jl 36),JS 38 (Jn 37),JS 39 (Jb .lss 35 38)]
abbrev v22_7:VC:=(.cond (.t 39) .skip (.exit 0))
abbrev o22_8:List Ins:=[JS 42 (Jf 0 1),JS 43 (Jl 42),JS 44 (Jm 3),JS 45 (Ja 2 43 44),JS 46 (Jf 0 45),JS 47 (Jl 46),JS 48 (Jc 37 [.t 47,(.k (Jz 1)),(.k (Jz 999))]),JS 49 (.un .not (.t 48)),JS 50 (Jm 49),JG 51 (Jf 0 1) 50 false,JG 52 (Jl 51) 50 false,JG 53 (Jm 3) 50 false,JG 54 (Ja 2 52 53) 50 false,JG 55 (Jf 1 54) 50 false,JG 56 (Jl 55) 50 false,JG 57 (Jc 37 [.t 56,(.k (Jz 1)),(.k (Jz 999))]) 50 false,JG 58 (.un .not (.t 57)) 50 false,JS 59 (Jo 50 58)]
abbrev o22_9:List Ins:=[JS 2 (Ji 20)]
abbrev v22_10:VC:=(.seq (.ops o22_9) .ret)
abbrev v22_11:VC:=(.cond (.t 59) v22_10 .skip)
abbrev v22_12:VC:=(.seq (.ops o22_8) v22_11)
abbrev o22_13:List Ins:=[JS 40 (Jm 3),JS 41 (Jk .add 40 1),JS 3 (Jm 41)]
abbrev v22_14:VC:=(.seq (.block 1 v22_12) (.ops o22_13))
abbrev v22_15:VC:=(.seq (.seq (.ops o22_6) v22_7) v22_14)
-- K22_1: changed and kept: [3]
abbrev K22_1:List Nat:=[1]
abbrev v22_16:VC:=(.loop v22_15)
abbrev v22_17:VC:=(.block 0 v22_16)
abbrev o22_18:List Ins:=[JS 60 (JL 5 1),JS 61 (Jc 44 [.t 60,(.k (Jz 12))]),JS 2 (Jm 61)]
abbrev v22_19:VC:=(.seq (.ops o22_18) .ret)
abbrev v22_20:VC:=(.seq (.seq (.ops o22_5) v22_17) v22_19)
abbrev v22_21:VC:=(.seq (.seq (.ops o22_1) v22_4) v22_20)
def ir22:FC:=⟨1,62,[.t 2],(.seq (.ops o22_0) v22_21)⟩
abbrev o44_0:List Ins:=[JS 2 (.box 5 (.t 0)),JS 4 (Ji 0)]
abbrev o44_1:List Ins:=[JS 6 (Jf 4 2),JS 7 (Jl 6),JS 8 (Jn 7),JS 9 (Jm 1),JS 10 (Jb .gtr 8 9)]
abbrev o44_2:List Ins:=[JS 4 (Ji 20)]
abbrev v44_3:VC:=(.seq (.ops o44_2) .ret)
abbrev v44_4:VC:=(.cond (.t 10) v44_3 .skip)
abbrev o44_5:List Ins:=[JS 5 (Ji 0)]
abbrev o44_6:List Ins:=[JS 11 (Jm 5),JS 12 (Jf 4 2),JS 13 (Jl 12),JS 14 (Jn 13),JS 15 (Jb .lss 11 14)]
abbrev v44_7:VC:=(.cond (.t 15) .skip (.exit 0))
abbrev o44_8:List Ins:=[JF 18 (JL 5 2),JF 19 (Jf 4 2),JF 20 (Jl 19),JF 21 (Jm 5),JF 22 (Ja 2 20 21),JF 23 (Jf 0 22),JF 24 (Jl 23),JS 25 (Jc 13 [.t 18,.t 24]),JS 26 (.un .not (.t 25)),JS 27 (Jm 26),JH 28 (Jf 4 2) 27 false,JH 29 (Jl 28) 27 false,JH 30 (Jm 5) 27 false,JG 31 (Ja 2 29 30) 27 false,JG 32 (Jf 1 31) 27 false,JG 33 (Jl 32) 27 false,JG 34 (Jc 14 [.t 33]) 27 false,JG 35 (.un .not (.t 34)) 27 false,JS 36 (Jo 27 35)]
abbrev o44_9:List Ins:=[JS 4 (Ji 20)]
abbrev v44_10:VC:=(.seq (.ops o44_9) .ret)
abbrev v44_11:VC:=(.cond (.t 36) v44_10 .skip)
abbrev v44_12:VC:=(.seq (.dops o44_8) v44_11)
abbrev o44_13:List Ins:=[JS 16 (Jm 5),JS 17 (Jk .add 16 1),JS 5 (Jm 17)]
abbrev v44_14:VC:=(.seq (.block 1 v44_12) (.ops o44_13))
abbrev v44_15:VC:=(.seq (.seq (.ops o44_6) v44_7) v44_14)
-- K44_1: changed and kept: [5]
abbrev K44_1:List Nat:=[2]
abbrev v44_16:VC:=(.loop v44_15)
abbrev v44_17:VC:=(.block 0 v44_16)
abbrev o44_18:List Ins:=[JS 4 (Ji 0)]
abbrev v44_19:VC:=(.seq (.ops o44_18) .ret)
abbrev v44_20:VC:=(.seq (.seq (.ops o44_5) v44_17) v44_19)
abbrev v44_21:VC:=(.seq (.seq (.ops o44_1) v44_4) v44_20)
def ir44:FC:=⟨2,37,[.t 4],(.seq (.ops o44_0) v44_21)⟩
abbrev o37_0:List Ins:=[JS 6 (JB false)]
abbrev o37_1:List Ins:=[JS 7 (Jm 1),JS 8 (Jm 0),JS 9 (Jb .leq 7 8),JS 10 (Jm 9),JG 11 (Jm 0) 10 true,JG 12 (Jm 2) 10 true,JG 13 (Jb .leq 11 12) 10 true,JS 14 (Jp 10 13),JS 6 (Jm 14)]
abbrev v37_2:VC:=(.seq (.ops o37_1) .ret)
def ir37:FC:=⟨3,15,[.t 6],(.seq (.ops o37_0) v37_2)⟩
abbrev o13_0:List Ins:=[JS 2 (.box 5 (.t 0)),JS 4 (JB false)]
abbrev o13_1:List Ins:=[JS 5 (Jm 1),JS 6 (Jf 0 2),JS 7 (Jl 6),JS 8 (Jn 7),JS 9 (.bin .mul (.k (Jz 2)) (.t 8)),JS 10 (Jk .sub 9 1),JS 11 (Jc 37 [.t 5,(.k (Jz 0)),.t 10]),JS 4 (Jm 11)]
abbrev v13_2:VC:=(.seq (.ops o13_1) .ret)
def ir13:FC:=⟨2,12,[.t 4],(.seq (.ops o13_0) v13_2)⟩
abbrev o14_0:List Ins:=[JS 2 (JB false)]
abbrev o14_1:List Ins:=[JS 3 (Jm 0),JS 4 (Jc 37 [.t 3,(.k (Jz 0)),(.k (Jz 9999))]),JS 2 (Jm 4)]
abbrev v14_2:VC:=(.seq (.ops o14_1) .ret)
def ir14:FC:=⟨1,5,[.t 2],(.seq (.ops o14_0) v14_2)⟩
abbrev o17_0:List Ins:=[JS 1 (.box 5 (.t 0)),JS 2 (JB false)]
abbrev o17_1:List Ins:=[JS 3 (Jf 0 1),JS 4 (Jl 3),JS 5 (Jn 4),JS 6 (Jk .gtr 5 40),JS 7 (Jm 6),JG 8 (Jf 4 1) 7 false,JG 9 (Jl 8) 7 false,JG 10 (Jn 9) 7 false,JG 11 (Jk .gtr 10 40) 7 false,JS 12 (Jo 7 11),JS 2 (Jm 12)]
abbrev v17_2:VC:=(.seq (.ops o17_1) .ret)
def ir17:FC:=⟨1,13,[.t 2],(.seq (.ops o17_0) v17_2)⟩
theorem c49:compM Tryz.prog [] 49 = some ir49:=by kernel_rfl
theorem c65:compM Tryz.prog [] 65 = some ir65:=by kernel_rfl
theorem c64:compM Tryz.prog [] 64 = some ir64:=by kernel_rfl
theorem c22:compM Tryz.prog [] 22 = some ir22:=by kernel_rfl
theorem c44:compM Tryz.prog [] 44 = some ir44:=by kernel_rfl
theorem c37:compM Tryz.prog [] 37 = some ir37:=by kernel_rfl
theorem c13:compM Tryz.prog [] 13 = some ir13:=by kernel_rfl
theorem c14:compM Tryz.prog [] 14 = some ir14:=by kernel_rfl
theorem c17:compM Tryz.prog [] 17 = some ir17:=by kernel_rfl
attribute [local go_sem] Nat.reduceEqDiff Nat.reduceAdd Nat.reduceMul reduceIte Nat.reduceLeDiff Nat.reduceLT Nat.reduceBEq reduceCtorEq
theorem wi51 (a b c:Int):FSpec Tryz.prog 37 [iv a,iv b,iv c] (.c (.bool (within a b c))):=by
 refine FSpec_of c37 (Nat.le_refl _) (by decide) fun C hP hN hC hL => ?_; rw [init_st]
 simp only [ir37]
 (repeat ((first | refine Va ?_ | refine Vb ?_ | refine Vc ?_ | refine Vd ?_ | refine Ve ?_ | refine Vf ?_); (try simp only [go_sem,hP]); (repeat refine qJ ?_)))
 (refine WV_ret ?_; simp only [thenQ,inQ,RetQ,RetOk,resAll,resA]; simp only [go_sem,tupA,AV.port,AV.portL,exists_eq_left']; (first | exact AVle.of rfl | refine AVle.of ?_ | skip))
theorem istime53 (a:Int):FSpec Tryz.prog 65 [iv a] (.c (.bool (isTime a))):=by
 refine FSpec_of c65 (Nat.le_refl _) (by decide) fun C hP hN hC hL => ?_; rw [init_st]
 simp only [ir65]
 (repeat ((first | refine Va ?_ | refine Vb ?_ | refine Vc ?_ | refine Vd ?_ | refine Ve ?_ | refine Vf ?_); (try simp only [go_sem,hP]); (repeat refine qJ ?_)))
 (refine WV_ret ?_; simp only [thenQ,inQ,RetQ,RetOk,resAll,resA]; simp only [go_sem,tupA,AV.port,AV.portL,exists_eq_left']; (first | exact AVle.of rfl | refine AVle.of ?_ | skip))
theorem ristime18 (a:Int):FSpec Tryz.prog 14 [iv a] (.c (.bool (isTime a))):=by
 refine FSpec_of c14 (Nat.le_refl _) (by decide) fun C hP hN hC hL => ?_; rw [init_st]
 simp only [ir14]
 (repeat ((first | refine Va ?_ | refine Vb ?_ | refine Vc ?_ | refine Vd ?_ | refine Ve ?_ | refine Vf ?_); (try simp only [go_sem,hP]); (repeat refine qJ ?_)))
 (refine AS_pu (wi51 _ _ _) ?_; simp only [go_sem,hP]; (repeat refine qJ ?_); (repeat ((first | refine Va ?_ | refine Vb ?_ | refine Vc ?_ | refine Vd ?_ | refine Ve ?_ | refine Vf ?_); (try simp only [go_sem,hP]); (repeat refine qJ ?_))))
 (refine WV_ret ?_; simp only [thenQ,inQ,RetQ,RetOk,resAll,resA]; simp only [go_sem,tupA,AV.port,AV.portL,exists_eq_left']; (first | exact AVle.of rfl | refine AVle.of ?_ | skip))
theorem side_lt (n:Nat) (s:Int):(decide (0 ≤ s) && decide (s < 2 * (n:Int))) = isSide n s:=by
 unfold isSide within
 rw [Bool.eq_iff_iff]; simp; omega
theorem isside55 (t:Tray) (s:Int) (hn:t.n ≤ 1000):FSpec Tryz.prog 64 [t.av,iv s] (.c (.bool (isSide t.n s))):=by
 refine FSpec_of c64 (Nat.le_refl _) (by decide) fun C hP hN hC hL => ?_; rw [init_st]
 simp only [ir64,Tray.av]
 have hn':t.recs.length = t.n:=rfl
 have w1:=w64 (n:=2 * (t.n:Int)) (by omega) (by omega)
 (repeat ((first | refine Va ?_ | refine Vb ?_ | refine Vc ?_ | refine Vd ?_ | refine Ve ?_ | refine Vf ?_); (try simp only [go_sem,hP,recsC,List.length_map,hn',w1]); (repeat refine qJ ?_)))
 (refine WV_ret ?_; simp only [thenQ,inQ,RetQ,RetOk,resAll,resA]; simp only [go_sem,tupA,AV.port,AV.portL,exists_eq_left']; (first | exact AVle.of rfl | refine AVle.of ?_ | skip))
 exact congrArg (fun b => AV.c (CD.bool b)) (side_lt _ _)
theorem risside17 (t:Tray) (s:Int) (hn:t.n ≤ 1000):FSpec Tryz.prog 13 [t.av,iv s] (.c (.bool (isSide t.n s))):=by
 refine FSpec_of c13 (Nat.le_refl _) (by decide) fun C hP hN hC hL => ?_; rw [init_st]
 simp only [ir13,Tray.av]
 have hn':t.recs.length = t.n:=rfl
 have w1:=w64 (n:=2 * (t.n:Int)) (by omega) (by omega)
 have w2:=w64 (n:=2 * (t.n:Int) - 1) (by omega) (by omega)
 (repeat ((first | refine Va ?_ | refine Vb ?_ | refine Vc ?_ | refine Vd ?_ | refine Ve ?_ | refine Vf ?_); (try simp only [go_sem,hP,recsC,List.length_map,hn',w1,w2]); (repeat refine qJ ?_)))
 (refine AS_pu (wi51 _ _ _) ?_; simp only [go_sem,hP]; (repeat refine qJ ?_); (repeat ((first | refine Va ?_ | refine Vb ?_ | refine Vc ?_ | refine Vd ?_ | refine Ve ?_ | refine Vf ?_); (try simp only [go_sem,hP]); (repeat refine qJ ?_))))
 (refine WV_ret ?_; simp only [thenQ,inQ,RetQ,RetOk,resAll,resA]; simp only [go_sem,tupA,AV.port,AV.portL,exists_eq_left']; (first | exact AVle.of rfl | refine AVle.of ?_ | skip))
def farB (t:Tray):Bool:=decide (40 < t.n) || decide (40 < t.pres.length)
theorem far28 (t:Tray):FSpec Tryz.prog 17 [t.av] (.c (.bool (farB t))):=by
 refine FSpec_of c17 (Nat.le_refl _) (by decide) fun C hP hN hC hL => ?_; rw [init_st]
 simp only [ir17,Tray.av]
 (repeat ((first | refine Va ?_ | refine Vb ?_ | refine Vc ?_ | refine Vd ?_ | refine Ve ?_ | refine Vf ?_); (try simp only [go_sem,hP,recsC,prsC,List.length_map]); (repeat refine qJ ?_)))
 (refine WV_ret ?_; simp only [thenQ,inQ,RetQ,RetOk,resAll,resA]; simp only [go_sem,tupA,AV.port,AV.portL,exists_eq_left']; (first | exact AVle.of rfl | refine AVle.of ?_ | skip))
 have e1:decide ((40:Int) < (t.recs.length:Int)) = decide (40 < t.recs.length):=by simp; omega
 have e2:decide ((40:Int) < (t.pres.length:Int)) = decide (40 < t.pres.length):=by simp; omega
 rw [e1,e2]
 rfl
set_option maxRecDepth 20000 in
set_option maxHeartbeats 8000000 in
theorem check40 (t:Tray):FSpec Tryz.prog 49 [t.av] (iv (if t.ok then 0 else 20)):=by
 refine FSpec_of c49 (Nat.le_refl _) (by decide) fun C hP hN hC hL => ?_; rw [init_st]
 obtain ⟨h1,h2⟩:=Tray.lens hL
 have hn':t.recs.length = t.n:=rfl
 simp only [ir49,Tray.av,recsC,prsC]
 (repeat ((first | refine Va ?_ | refine Vb ?_ | refine Vc ?_ | refine Vd ?_ | refine Ve ?_ | refine Vf ?_); (try simp only [go_sem,hP,List.length_map,hn']); (repeat refine qJ ?_)))
 have hh:(decide (1 ≤ (t.n:Int)) && (decide ((t.n:Int) ≤ 6) && (decide (0 ≤ t.at_) && (decide (t.at_ < (t.n:Int)) && ((t.way == 1 || t.way == -1) && (decide (0 ≤ t.step) && (decide (t.step ≤ 60) && decide ((t.pres.length:Int) ≤ 12)))))))) = (t.okHead && decide (t.pres.length ≤ 12)):=by
  unfold Tray.okHead within
  rw [Bool.eq_iff_iff]; simp; omega
 have hh2:(((((((decide (1 ≤ (t.n:Int)) && decide ((t.n:Int) ≤ 6)) && decide (0 ≤ t.at_)) && decide (t.at_ < (t.n:Int))) && (t.way == 1 || t.way == -1)) && decide (0 ≤ t.step)) && decide (t.step ≤ 60)) && decide ((t.pres.length:Int) ≤ 12)) = (t.okHead && decide (t.pres.length ≤ 12)):=by
  rw [← hh]; simp only [Bool.and_assoc]
 rw [hh2]
 generalize hg0:(t.okHead && decide (t.pres.length ≤ 12)) = g0
 refine WV_loopK K49_1 [5] (fun k:Nat => k ≤ t.n) (fun k => t.n - k) (fun k => [(3,.c (.bool (g0 && (t.recs.take k).all okRec))),(60,iv k)]) (fun _ => []) 0 (Nat.zero_le _) ?_ ?_
 ·exact Sub_au
 ·intro k hk
  simp only [go_sem]
  (repeat ((first | refine Va ?_ | refine Vb ?_ | refine Vc ?_ | refine Vd ?_ | refine Ve ?_ | refine Vf ?_); (try simp only [go_sem,hP]); (repeat refine qJ ?_)))
  (refine WV_cond rfl (fun h => ?_) (fun h => ?_))
  ·have h:k < t.recs.length:=by simp at h; omega
   have hkl:=h
   have hI:(k:Int) < (t.n:Int):=by omega
   have hw2:=w64 (n:=(k:Int) + 1) (by omega) (by omega)
   (repeat ((first | refine Va ?_ | refine Vb ?_ | refine Vc ?_ | refine Vd ?_ | refine Ve ?_ | refine Vf ?_); (try simp only [go_sem,hP,Int.toNat_natCast,map_getD h,List.length_map,hn',hI,Int.natCast_nonneg,Rec.cds,hw2]); (repeat refine qJ ?_)))
   refine ⟨k + 1,by omega,by omega,?_⟩
   (refine Sub_of (by simp only [go_sem]; ((repeat' (first | exact EnvLe_e0 _ _ | refine EnvLe_upd ?_ ?_)) <;> ((try simp only [upd_app,e0_app,o0_app,Nat.reduceEqDiff,reduceIte]); first | exact AWk.refl _ _ | exact AWk.int (by omega) | exact AWk.int (by rw [w64 (by omega) (by omega)]; omega) | exact AWk.grow rfl | exact AWk.nil _ | exact AWk.of (by (rw [take_all okRec h]; simp [Bool.and_assoc,okRec,within]))))) (by simp only [go_sem]; exact ObjLe_au))
  ·have h:k = t.recs.length:=by simp at h; omega
   subst h
   rw [List.take_length]
   generalize hg1:(g0 && t.recs.all okRec) = g1
   (repeat ((first | refine Va ?_ | refine Vb ?_ | refine Vc ?_ | refine Vd ?_ | refine Ve ?_ | refine Vf ?_); (try simp only [go_sem,hP,List.length_map]); (repeat refine qJ ?_)))
   refine WV_loopK K49_2 [7] (fun k:Nat => k ≤ t.pres.length) (fun k => t.pres.length - k) (fun k => [(3,.c (.bool (g1 && (t.pres.take k).all (okPr t.n)))),(89,iv k)]) (fun _ => []) 0 (Nat.zero_le _) ?_ ?_
   ·exact Sub_au
   ·intro k hk
    simp only [go_sem]
    (repeat ((first | refine Va ?_ | refine Vb ?_ | refine Vc ?_ | refine Vd ?_ | refine Ve ?_ | refine Vf ?_); (try simp only [go_sem,hP,List.length_map]); (repeat refine qJ ?_)))
    (refine WV_cond rfl (fun h => ?_) (fun h => ?_))
    ·have h:k < t.pres.length:=by simpa using h
     have hI:(k:Int) < (t.pres.length:Int):=by omega
     have hw2:=w64 (n:=(k:Int) + 1) (by omega) (by omega)
     (repeat ((first | refine Va ?_ | refine Vb ?_ | refine Vc ?_ | refine Vd ?_ | refine Ve ?_ | refine Vf ?_); (try simp only [go_sem,hP,Int.toNat_natCast,map_getD h,List.length_map,hI,Int.natCast_nonneg,Pr.cds]); (repeat refine qJ ?_)))
     refine AG_pure (fun hG => isside55 t t.pres[k].side ?_) rfl (fun hG => by simp only [go_sem,hG]) rfl rfl rfl ?_
     ·simp only [Bool.and_eq_true] at hG
      have:g0 = true:=by
       have:=hG.1
       rw [← hg1] at this
       simp only [Bool.and_eq_true] at this
       exact this.1
      rw [← hg0] at this
      simp only [Bool.and_eq_true,decide_eq_true_eq,Tray.okHead,within] at this
      omega
     simp only [go_sem,hP,Tray.av,recsC,prsC]
     (repeat ((first | refine Va ?_ | refine Vb ?_ | refine Vc ?_ | refine Vd ?_ | refine Ve ?_ | refine Vf ?_); (try simp only [go_sem,hP]); (repeat refine qJ ?_)))
     (refine AG_pu (fun hG => istime53 _) ?_; simp only [go_sem,hP,hw2]; (repeat refine qJ ?_); (repeat ((first | refine Va ?_ | refine Vb ?_ | refine Vc ?_ | refine Vd ?_ | refine Ve ?_ | refine Vf ?_); (try simp only [go_sem,hP,hw2]); (repeat refine qJ ?_))))
     refine ⟨k + 1,by omega,by omega,?_⟩
     (refine Sub_of (by simp only [go_sem]; ((repeat' (first | exact EnvLe_e0 _ _ | refine EnvLe_upd ?_ ?_)) <;> ((try simp only [upd_app,e0_app,o0_app,Nat.reduceEqDiff,reduceIte]); first | exact AWk.refl _ _ | exact AWk.int (by omega) | exact AWk.int (by rw [w64 (by omega) (by omega)]; omega) | exact AWk.grow rfl | exact AWk.nil _ | exact AWk.of (by (rw [take_all (okPr t.n) h]; simp [Bool.and_assoc,okPr]))))) (by simp only [go_sem]; exact ObjLe_au))
    ·have h:k = t.pres.length:=by simp at h; omega
     subst h
     rw [List.take_length]
     have hok:(g1 && t.pres.all (okPr t.n)) = t.ok:=by
      rw [← hg1,← hg0]; unfold Tray.ok
      cases t.okHead <;> cases t.recs.all okRec <;> cases decide (t.pres.length ≤ 12) <;> rfl
     rw [hok]
     (repeat ((first | refine Va ?_ | refine Vb ?_ | refine Vc ?_ | refine Vd ?_ | refine Ve ?_ | refine Vf ?_); (try simp only [go_sem,hP]); (repeat refine qJ ?_)))
     cases t.ok
     ·(refine WV_cond rfl (fun h => ?_) (fun h => ?_))
      ·(repeat ((first | refine Va ?_ | refine Vb ?_ | refine Vc ?_ | refine Vd ?_ | refine Ve ?_ | refine Vf ?_); (try simp only [go_sem,hP]); (repeat refine qJ ?_)))
       (refine WV_ret ?_; simp only [thenQ,inQ,RetQ,RetOk,resAll,resA]; simp only [go_sem,tupA,AV.port,AV.portL,exists_eq_left']; (first | exact AVle.of rfl | refine AVle.of ?_ | skip))
      ·simp at h
     ·(refine WV_cond rfl (fun h => ?_) (fun h => ?_))
      ·simp at h
      ·(repeat ((first | refine Va ?_ | refine Vb ?_ | refine Vc ?_ | refine Vd ?_ | refine Ve ?_ | refine Vf ?_); (try simp only [go_sem,hP]); (repeat refine qJ ?_)))
       (refine WV_ret ?_; simp only [thenQ,inQ,RetQ,RetOk,resAll,resA]; simp only [go_sem,tupA,AV.port,AV.portL,exists_eq_left']; (first | exact AVle.of rfl | refine AVle.of ?_ | skip))
def presB (t:Tray) (most:Int):Bool:=decide ((t.pres.length:Int) ≤ most) && t.pres.all (okPr t.n)
set_option maxRecDepth 20000 in
set_option maxHeartbeats 8000000 in
theorem presses64 (t:Tray) (most:Int) (hn:t.n ≤ 1000):FSpec Tryz.prog 44 [t.av,iv most] (iv (if presB t most then 0 else 20)):=by
 refine FSpec_of c44 (Nat.le_refl _) (by decide) fun C hP hN hC hL => ?_; rw [init_st]
 obtain ⟨h1,h2⟩:=Tray.lens hL
 simp only [ir44,Tray.av]
 (repeat ((first | refine Va ?_ | refine Vb ?_ | refine Vc ?_ | refine Vd ?_ | refine Ve ?_ | refine Vf ?_); (try simp only [go_sem,hP,prsC,List.length_map]); (repeat refine qJ ?_)))
 (refine WV_cond rfl (fun h => ?_) (fun h => ?_))
 ·have h:most < (t.pres.length:Int):=by simpa using h
  (repeat ((first | refine Va ?_ | refine Vb ?_ | refine Vc ?_ | refine Vd ?_ | refine Ve ?_ | refine Vf ?_); (try simp only [go_sem,hP]); (repeat refine qJ ?_)))
  (refine WV_ret ?_; simp only [thenQ,inQ,RetQ,RetOk,resAll,resA]; simp only [go_sem,tupA,AV.port,AV.portL,exists_eq_left']; (first | exact AVle.of rfl | refine AVle.of ?_ | skip))
  have:presB t most = false:=by simp [presB]; intro h'; omega
  rw [this]; rfl
 have hm:(t.pres.length:Int) ≤ most:=by simp at h; omega
 clear h
 have hpb:presB t most = t.pres.all (okPr t.n):=by unfold presB; rw [decide_eq_true hm]; rfl
 rw [hpb]
 (repeat ((first | refine Va ?_ | refine Vb ?_ | refine Vc ?_ | refine Vd ?_ | refine Ve ?_ | refine Vf ?_); (try simp only [go_sem,hP]); (repeat refine qJ ?_)))
 (refine WV_loopK K44_1 [] (fun k:Nat => k ≤ t.pres.length ∧ (t.pres.take k).all (okPr t.n) = true) (fun k => t.pres.length - k) (fun k => [(5,iv k)]) (fun _ => []) 0 ⟨Nat.zero_le _,by simp⟩ ?_ ?_)
 ·exact Sub_au
 ·intro k ⟨hk,ha⟩
  simp only [go_sem]
  (repeat ((first | refine Va ?_ | refine Vb ?_ | refine Vc ?_ | refine Vd ?_ | refine Ve ?_ | refine Vf ?_); (try simp only [go_sem,hP,prsC,List.length_map]); (repeat refine qJ ?_)))
  (refine WV_cond rfl (fun h => ?_) (fun h => ?_))
  ·have h:k < t.pres.length:=by simpa using h
   have hkl:=h
   have hI:(k:Int) < (t.pres.length:Int):=by omega
   have hw2:=w64 (n:=(k:Int) + 1) (by omega) (by omega)
   (repeat ((first | refine Va ?_ | refine Vb ?_ | refine Vc ?_ | refine Vd ?_ | refine Ve ?_ | refine Vf ?_); (try simp only [go_sem,hP,prsC,map_getD h,List.length_map,hI,Int.natCast_nonneg,Pr.cds]); (repeat refine qJ ?_)))
   (refine AS_pu (risside17 t _ hn) ?_; simp only [go_sem,hP,Tray.av,prsC,map_getD h,List.length_map,hI,Int.natCast_nonneg,Pr.cds]; (repeat refine qJ ?_); (repeat ((first | refine Va ?_ | refine Vb ?_ | refine Vc ?_ | refine Vd ?_ | refine Ve ?_ | refine Vf ?_); (try simp only [go_sem,hP,Tray.av,prsC,map_getD h,List.length_map,hI,Int.natCast_nonneg,Pr.cds]); (repeat refine qJ ?_))))
   (refine AG_pu (fun hG => ristime18 _) ?_; simp only [go_sem,hP]; (repeat refine qJ ?_); (repeat ((first | refine Va ?_ | refine Vb ?_ | refine Vc ?_ | refine Vd ?_ | refine Ve ?_ | refine Vf ?_); (try simp only [go_sem,hP]); (repeat refine qJ ?_))))
   have hb:(!isSide t.n t.pres[k].side || !isTime t.pres[k].time) = !okPr t.n t.pres[k]:=by unfold okPr; cases isSide t.n t.pres[k].side <;> cases isTime t.pres[k].time <;> rfl
   rw [hb]
   cases hbb:okPr t.n t.pres[k]
   ·(refine WV_cond rfl (fun h => ?_) (fun h => ?_))
    ·(repeat ((first | refine Va ?_ | refine Vb ?_ | refine Vc ?_ | refine Vd ?_ | refine Ve ?_ | refine Vf ?_); (try simp only [go_sem,hP]); (repeat refine qJ ?_)))
     (refine WV_ret ?_; simp only [thenQ,inQ,RetQ,RetOk,resAll,resA]; simp only [go_sem,tupA,AV.port,AV.portL,exists_eq_left']; (first | exact AVle.of rfl | refine AVle.of ?_ | skip))
     have:t.pres.all (okPr t.n) = false:=List.all_eq_false.2 ⟨_,List.getElem_mem hkl,by simp [hbb]⟩
     rw [this]; rfl
    ·simp at h
   ·(refine WV_cond rfl (fun h => ?_) (fun h => ?_))
    ·simp at h
    ·(repeat ((first | refine Va ?_ | refine Vb ?_ | refine Vc ?_ | refine Vd ?_ | refine Ve ?_ | refine Vf ?_); (try simp only [go_sem,hP,hw2]); (repeat refine qJ ?_)))
     refine ⟨k + 1,⟨by omega,by rw [take_all (okPr t.n) (by assumption),ha,hbb]; rfl⟩,by omega,?_⟩
     exact Sub_au
  ·have h:k = t.pres.length:=by simp at h; omega
   subst h
   rw [List.take_length] at ha
   (repeat ((first | refine Va ?_ | refine Vb ?_ | refine Vc ?_ | refine Vd ?_ | refine Ve ?_ | refine Vf ?_); (try simp only [go_sem,hP]); (repeat refine qJ ?_)))
   (refine WV_ret ?_; simp only [thenQ,inQ,RetQ,RetOk,resAll,resA]; simp only [go_sem,tupA,AV.port,AV.portL,exists_eq_left']; (first | exact AVle.of rfl | refine AVle.of ?_ | skip))
   rw [ha]; rfl
set_option maxRecDepth 20000 in
set_option maxHeartbeats 8000000 in
theorem rcheck41 (t:Tray):FSpec Tryz.prog 22 [t.av] (iv (if t.ok then 0 else 20)):=by
 refine FSpec_of c22 (Nat.le_refl _) (by decide) fun C hP hN hC hL => ?_; rw [init_st]
 obtain ⟨h1,h2⟩:=Tray.lens hL
 have hn':t.recs.length = t.n:=rfl
 simp only [ir22,Tray.av]
 have w1:=w64 (n:=(t.n:Int) - 1) (by omega) (by omega)
 (repeat ((first | refine Va ?_ | refine Vb ?_ | refine Vc ?_ | refine Vd ?_ | refine Ve ?_ | refine Vf ?_); (try simp only [go_sem,hP,recsC,List.length_map,hn']); (repeat refine qJ ?_)))
 (refine AS_pu (wi51 _ _ _) ?_; simp only [go_sem,hP,w1,recsC,List.length_map,hn']; (repeat refine qJ ?_); (repeat ((first | refine Va ?_ | refine Vb ?_ | refine Vc ?_ | refine Vd ?_ | refine Ve ?_ | refine Vf ?_); (try simp only [go_sem,hP,w1,recsC,List.length_map,hn']); (repeat refine qJ ?_))))
 (refine AG_pu (fun hG => wi51 _ _ _) ?_; simp only [go_sem,hP]; (repeat refine qJ ?_); (repeat ((first | refine Va ?_ | refine Vb ?_ | refine Vc ?_ | refine Vd ?_ | refine Ve ?_ | refine Vf ?_); (try simp only [go_sem,hP]); (repeat refine qJ ?_))))
 (refine AG_pu (fun hG => wi51 _ _ _) ?_; simp only [go_sem,hP]; (repeat refine qJ ?_); (repeat ((first | refine Va ?_ | refine Vb ?_ | refine Vc ?_ | refine Vd ?_ | refine Ve ?_ | refine Vf ?_); (try simp only [go_sem,hP]); (repeat refine qJ ?_))))
 have hh:(!within (t.n:Int) 1 6 || (!within t.at_ 0 ((t.n:Int) - 1) || ((t.way != 1 && t.way != -1) || !within t.step 0 60))) = !t.okHead:=by
  unfold Tray.okHead
  cases within (t.n:Int) 1 6 <;> cases within t.at_ 0 ((t.n:Int) - 1) <;> cases within t.step 0 60 <;> cases h5:(t.way == 1) <;> cases h6:(t.way == -1) <;> simp [bne,h5,h6]
 have hh2:(((!within (t.n:Int) 1 6 || !within t.at_ 0 ((t.n:Int) - 1)) || (t.way != 1 && t.way != -1)) || !within t.step 0 60) = !t.okHead:=by
  rw [← hh]; simp only [Bool.or_assoc]
 rw [hh2]
 cases hhd:t.okHead
 ·(refine WV_cond rfl (fun h => ?_) (fun h => ?_))
  ·(repeat ((first | refine Va ?_ | refine Vb ?_ | refine Vc ?_ | refine Vd ?_ | refine Ve ?_ | refine Vf ?_); (try simp only [go_sem,hP]); (repeat refine qJ ?_)))
   (refine WV_ret ?_; simp only [thenQ,inQ,RetQ,RetOk,resAll,resA]; simp only [go_sem,tupA,AV.port,AV.portL,exists_eq_left']; (first | exact AVle.of rfl | refine AVle.of ?_ | skip))
   simp [Tray.ok,hhd]
  ·simp at h
 (refine WV_cond rfl (fun h => ?_) (fun h => ?_))
 ·simp at h
 clear h
 have hn6:t.n ≤ 6:=by
  simp only [Tray.okHead,within,Bool.and_eq_true,decide_eq_true_eq] at hhd
  omega
 have hok:t.ok = (t.recs.all okRec && presB t 12):=by
  unfold Tray.ok presB
  rw [hhd]
  have e:decide ((t.pres.length:Int) ≤ 12) = decide (t.pres.length ≤ 12):=by simp; omega
  rw [e]
  cases t.recs.all okRec <;> cases decide (t.pres.length ≤ 12) <;> rfl
 rw [hok]
 (repeat ((first | refine Va ?_ | refine Vb ?_ | refine Vc ?_ | refine Vd ?_ | refine Ve ?_ | refine Vf ?_); (try simp only [go_sem,hP]); (repeat refine qJ ?_)))
 (refine WV_loopK K22_1 [] (fun k:Nat => k ≤ t.n ∧ (t.recs.take k).all okRec = true) (fun k => t.n - k) (fun k => [(3,iv k)]) (fun _ => []) 0 ⟨Nat.zero_le _,by simp⟩ ?_ ?_)
 ·exact Sub_au
 ·intro k ⟨hk,ha⟩
  simp only [go_sem]
  (repeat ((first | refine Va ?_ | refine Vb ?_ | refine Vc ?_ | refine Vd ?_ | refine Ve ?_ | refine Vf ?_); (try simp only [go_sem,hP,recsC,List.length_map,hn']); (repeat refine qJ ?_)))
  (refine WV_cond rfl (fun h => ?_) (fun h => ?_))
  ·have h:k < t.recs.length:=by simp at h; omega
   have hkl:=h
   have hI:(k:Int) < (t.n:Int):=by omega
   have hw2:=w64 (n:=(k:Int) + 1) (by omega) (by omega)
   (repeat ((first | refine Va ?_ | refine Vb ?_ | refine Vc ?_ | refine Vd ?_ | refine Ve ?_ | refine Vf ?_); (try simp only [go_sem,hP,recsC,map_getD h,List.length_map,hn',hI,Int.natCast_nonneg,Rec.cds]); (repeat refine qJ ?_)))
   (refine AS_pu (wi51 _ _ _) ?_; simp only [go_sem,hP,recsC,map_getD h,List.length_map,hn',hI,Int.natCast_nonneg,Rec.cds]; (repeat refine qJ ?_); (repeat ((first | refine Va ?_ | refine Vb ?_ | refine Vc ?_ | refine Vd ?_ | refine Ve ?_ | refine Vf ?_); (try simp only [go_sem,hP,recsC,map_getD h,List.length_map,hn',hI,Int.natCast_nonneg,Rec.cds]); (repeat refine qJ ?_))))
   (refine AG_pu (fun hG => wi51 _ _ _) ?_; simp only [go_sem,hP]; (repeat refine qJ ?_); (repeat ((first | refine Va ?_ | refine Vb ?_ | refine Vc ?_ | refine Vd ?_ | refine Ve ?_ | refine Vf ?_); (try simp only [go_sem,hP]); (repeat refine qJ ?_))))
   have hb:(!within t.recs[k].front 1 999 || !within t.recs[k].back 1 999) = !okRec t.recs[k]:=by unfold okRec; cases within t.recs[k].front 1 999 <;> cases within t.recs[k].back 1 999 <;> rfl
   rw [hb]
   cases hbb:okRec t.recs[k]
   ·(refine WV_cond rfl (fun h => ?_) (fun h => ?_))
    ·(repeat ((first | refine Va ?_ | refine Vb ?_ | refine Vc ?_ | refine Vd ?_ | refine Ve ?_ | refine Vf ?_); (try simp only [go_sem,hP]); (repeat refine qJ ?_)))
     (refine WV_ret ?_; simp only [thenQ,inQ,RetQ,RetOk,resAll,resA]; simp only [go_sem,tupA,AV.port,AV.portL,exists_eq_left']; (first | exact AVle.of rfl | refine AVle.of ?_ | skip))
     have:t.recs.all okRec = false:=List.all_eq_false.2 ⟨_,List.getElem_mem hkl,by simp [hbb]⟩
     rw [this]; rfl
    ·simp at h
   ·(refine WV_cond rfl (fun h => ?_) (fun h => ?_))
    ·simp at h
    ·(repeat ((first | refine Va ?_ | refine Vb ?_ | refine Vc ?_ | refine Vd ?_ | refine Ve ?_ | refine Vf ?_); (try simp only [go_sem,hP,hw2]); (repeat refine qJ ?_)))
     refine ⟨k + 1,⟨by omega,by rw [take_all okRec (by assumption),ha,hbb]; rfl⟩,by omega,?_⟩
     exact Sub_au
  ·have h:k = t.recs.length:=by simp at h; omega
   subst h
   rw [List.take_length] at ha
   (repeat ((first | refine Va ?_ | refine Vb ?_ | refine Vc ?_ | refine Vd ?_ | refine Ve ?_ | refine Vf ?_); (try simp only [go_sem,hP]); (repeat refine qJ ?_)))
   (refine AS_pu (presses64 t 12 (by omega)) ?_; simp only [go_sem,hP,Tray.av,recsC]; (repeat refine qJ ?_); (repeat ((first | refine Va ?_ | refine Vb ?_ | refine Vc ?_ | refine Vd ?_ | refine Ve ?_ | refine Vf ?_); (try simp only [go_sem,hP,Tray.av,recsC]); (repeat refine qJ ?_))))
   (refine WV_ret ?_; simp only [thenQ,inQ,RetQ,RetOk,resAll,resA]; simp only [go_sem,tupA,AV.port,AV.portL,exists_eq_left']; (first | exact AVle.of rfl | refine AVle.of ?_ | skip))
   rw [ha]; simp
end Go.Proofs.YtefoconkepmmgaaGreatDoor

namespace Go.Proofs.YtefoconkepmmgaaGreatDoor
open Go Go.V
abbrev o25_0:List Ins:=[JS 1 (.box 15 (.t 0)),JS 2 (Ji 0)]
abbrev o25_1:List Ins:=[JS 3 (Jf 0 1),JS 4 (JL 8 3),JS 5 (Jc 48 [.t 4]),JS 6 (Jk .neq 5 0),JS 7 (Jm 6),JG 8 (Jf 10 1) 7 false,JG 9 (JL 5 8) 7 false,JG 10 (Jc 49 [.t 9]) 7 false,JG 11 (Jk .neq 10 0) 7 false,JS 12 (Jo 7 11),JS 13 (Jm 12),JG 14 (Jf 8 1) 13 false,JG 15 (Jf 0 14) 13 false,JG 16 (Jl 15) 13 false,JG 17 (Jk .lss 16 0) 13 false,JS 18 (Jo 13 17),JS 19 (Jm 18),JG 20 (Jf 8 1) 19 false,JG 21 (Jf 0 20) 19 false,JG 22 (Jl 21) 19 false,JG 23 (Jf 0 1) 19 false,JG 24 (Jf 0 23) 19 false,JG 25 (Jf 0 24) 19 false,JG 26 (Jl 25) 19 false,JG 27 (Jb .geq 22 26) 19 false,JS 28 (Jo 19 27),JS 29 (Jm 28),JG 30 (Jf 8 1) 29 false,JG 31 (Jf 1 30) 29 false,JG 32 (Jl 31) 29 false,JG 33 (Jk .lss 32 0) 29 false,JS 34 (Jo 29 33),JS 35 (Jm 34),JG 36 (Jf 8 1) 35 false,JG 37 (Jf 1 36) 35 false,JG 38 (Jl 37) 35 false,JG 39 (Jk .gtr 38 20) 35 false,JS 40 (Jo 35 39)]
abbrev o25_2:List Ins:=[JS 2 (Ji 120)]
abbrev v25_3:VC:=(.seq (.ops o25_2) .ret)
abbrev v25_4:VC:=(.cond (.t 40) v25_3 .skip)
abbrev o25_5:List Ins:=[JS 2 (Ji 0)]
abbrev v25_6:VC:=(.seq (.ops o25_5) .ret)
abbrev v25_7:VC:=(.seq (.seq (.ops o25_1) v25_4) v25_6)
def ir25:FC:=⟨1,41,[.t 2],(.seq (.ops o25_0) v25_7)⟩
theorem c25:compM Tryz.prog [] 25 = some ir25:=by kernel_rfl
attribute [local go_sem] Nat.reduceEqDiff Nat.reduceAdd Nat.reduceMul reduceIte Nat.reduceLeDiff Nat.reduceLT Nat.reduceBEq reduceCtorEq
structure Bar where
 box:Bx
 pl:Int
 cr:Int
 tray:Tray
def Bar.cds (b:Bar):List CD:=[.int .i64 b.box.wh.ro,ints b.box.wh.no,ints b.box.wh.co,ints b.box.fo,ints b.box.ma,ints b.box.sl,.int .i64 b.box.pl,.int .i64 b.box.sk,.int .i64 b.pl,.int .i64 b.cr,recsC b.tray.recs,.int .i64 b.tray.at_,.int .i64 b.tray.way,.int .i64 b.tray.step,prsC b.tray.pres]
def Bar.avs (b:Bar):List AV:=[iv b.box.wh.ro,.c (ints b.box.wh.no),.c (ints b.box.wh.co),.c (ints b.box.fo),.c (ints b.box.ma),.c (ints b.box.sl),iv b.box.pl,iv b.box.sk,iv b.pl,iv b.cr,.c (recsC b.tray.recs),iv b.tray.at_,iv b.tray.way,iv b.tray.step,.c (prsC b.tray.pres)]
def Bar.av (b:Bar):AV:=.agg b.avs
def barB (b:Bar):Bool:=bxB b.box && (b.tray.ok && (decide (0 ≤ b.pl) && (decide (b.pl < b.box.wh.ro) && (decide (0 ≤ b.cr) && decide (b.cr ≤ 20)))))
def barE (b:Bar):Int:=if barB b then 0 else 120
set_option maxRecDepth 100000 in
set_option maxHeartbeats 4000000 in
theorem check25 (b:Bar):FSpec Tryz.prog 25 [b.av] (iv (barE b)):=by
 have h1:=check28 b.box
 have h2:=check40 b.tray
 refine FSpec_of c25 (Nat.le_refl _) (by decide) fun C hP hN hC hL => ?_; rw [init_st]
 simp only [ir25,Bar.av,Bar.avs]
 simp only [Bx.av,Bx.avs] at h1
 simp only [Tray.av] at h2
 (repeat ((first | refine Va ?_ | refine Vb ?_ | refine Vc ?_ | refine Vd ?_ | refine Ve ?_ | refine Vf ?_); (try simp only [go_sem,hP]); (repeat refine qJ ?_)))
 (refine AS_pu (h1) ?_; simp only [go_sem,hP]; (repeat refine qJ ?_); (repeat ((first | refine Va ?_ | refine Vb ?_ | refine Vc ?_ | refine Vd ?_ | refine Ve ?_ | refine Vf ?_); (try simp only [go_sem,hP]); (repeat refine qJ ?_))))
 (refine AG_pu (fun hG => h2) ?_; simp only [go_sem,hP]; (repeat refine qJ ?_); (repeat ((first | refine Va ?_ | refine Vb ?_ | refine Vc ?_ | refine Vd ?_ | refine Ve ?_ | refine Vf ?_); (try simp only [go_sem,hP]); (repeat refine qJ ?_))))
 by_cases hb:barB b = true
 ·have he:barE b = 0:=by unfold barE; rw [if_pos hb]
  rw [he]
  simp only [barB,Bool.and_eq_true,decide_eq_true_eq] at hb
  have e1:bxE b.box = 0:=by unfold bxE; rw [if_pos hb.1]
  have e2:(if b.tray.ok then (0:Int) else 20) = 0:=by rw [if_pos hb.2.1]
  (refine WV_cond rfl (fun h => ?_) (fun h => ?_))
  ·exfalso
   rw [e1,e2] at h
   simp at h
   omega
  ·(repeat ((first | refine Va ?_ | refine Vb ?_ | refine Vc ?_ | refine Vd ?_ | refine Ve ?_ | refine Vf ?_); (try simp only [go_sem,hP]); (repeat refine qJ ?_)))
   (refine WV_ret ?_; simp only [thenQ,inQ,RetQ,RetOk,resAll,resA]; simp only [go_sem,tupA,AV.port,AV.portL,exists_eq_left']; (first | exact AVle.of rfl | refine AVle.of ?_ | skip))
 ·have he:barE b = 120:=by unfold barE; rw [if_neg hb]
  rw [he]
  (refine WV_cond rfl (fun h => ?_) (fun h => ?_))
  ·(repeat ((first | refine Va ?_ | refine Vb ?_ | refine Vc ?_ | refine Vd ?_ | refine Ve ?_ | refine Vf ?_); (try simp only [go_sem,hP]); (repeat refine qJ ?_)))
   (refine WV_ret ?_; simp only [thenQ,inQ,RetQ,RetOk,resAll,resA]; simp only [go_sem,tupA,AV.port,AV.portL,exists_eq_left']; (first | exact AVle.of rfl | refine AVle.of ?_ | skip))
  ·exfalso
   apply hb
   simp only [barB,Bool.and_eq_true,decide_eq_true_eq]
   have e1:bxB b.box = true:=by
    cases hx:bxB b.box with
    | true => rfl
    | false => unfold bxE at h; rw [hx] at h; simp at h
   have e2:b.tray.ok = true:=by
    cases hx:b.tray.ok with
    | true => rfl
    | false => rw [hx] at h; simp at h
   refine ⟨e1,e2,?_⟩
   simp at h
   omega
end Go.Proofs.YtefoconkepmmgaaGreatDoor

/-
 Ranks: the greater rest first,and of two equal ones the lesser number: plain.
-/
namespace Go.Proofs.YtefoconkepmmgaaGreatDoor
open Go Go.V
def before (f:Nat → Int) (a b:Nat):Bool:=decide (f b < f a) || (f a == f b && decide (a < b))
theorem before_irr (f:Nat → Int) (a:Nat):before f a a = false:=by simp [before]
theorem before_trans (f:Nat → Int) {a b c:Nat} (h:before f a b = true) (k:before f b c = true):before f a c = true:=by
 unfold before at *
 simp only [Bool.or_eq_true,decide_eq_true_eq,Bool.and_eq_true,beq_iff_eq] at *
 omega
def rank (f:Nat → Int) (n i:Nat):Nat:=((List.range n).filter fun k => before f k i).length
structure Ordered (f:Nat → Int) (n:Nat) (l:List Nat):Prop where
 perm:l.Perm (List.range n)
 sorted:l.Pairwise fun a b => before f a b = true
theorem Ordered.len {f:Nat → Int} {n:Nat} {l:List Nat} (h:Ordered f n l):l.length = n:=by
 rw [h.perm.length_eq,List.length_range]
theorem Ordered.rank {f:Nat → Int} {n:Nat} {l:List Nat} (h:Ordered f n l) {j:Nat} (hj:j < l.length):rank f n l[j] = j:=by
 unfold Go.Proofs.YtefoconkepmmgaaGreatDoor.rank
 rw [← (h.perm.filter _).length_eq]
 have e:l = l.take j ++ l[j] :: l.drop (j + 1):=by rw [List.getElem_cons_drop,List.take_append_drop]
 have hs:=List.pairwise_iff_getElem.1 h.sorted
 have h1:(l.take j).filter (fun k => before f k l[j]) = l.take j:=by
  rw [List.filter_eq_self]
  intro x hx
  obtain ⟨i,hi,rfl⟩:=List.mem_take_iff_getElem.1 hx
  exact hs i j (by omega) hj (by omega)
 have h2:(l.drop (j + 1)).filter (fun k => before f k l[j]) = []:=by
  rw [List.filter_eq_nil_iff]
  intro x hx
  obtain ⟨i,hi,rfl⟩:=List.mem_drop_iff_getElem.1 hx
  have:=hs j (j + 1 + i) hj (by omega) (by omega)
  intro hb
  have h3:=before_trans f this hb
  rw [before_irr] at h3
  cases h3
 have e2:l.filter (fun k => before f k l[j]) = (l.take j ++ l[j] :: l.drop (j + 1)).filter (fun k => before f k l[j]):=congrArg (List.filter (fun k => before f k l[j])) e
 rw [e2,List.filter_append,List.filter_cons,h1,h2,before_irr]
 simp
 omega
theorem Ordered.mem {f:Nat → Int} {n:Nat} {l:List Nat} (h:Ordered f n l) {i:Nat} (hi:i < n):∃ j,∃ hj:j < l.length,l[j] = i:=by
 have:i ∈ l:=h.perm.mem_iff.2 (List.mem_range.2 hi)
 obtain ⟨j,hj,e⟩:=List.mem_iff_getElem.1 this
 exact ⟨j,hj,e⟩
theorem Ordered.lt {f:Nat → Int} {n:Nat} {l:List Nat} (h:Ordered f n l) {j:Nat} (hj:j < l.length):l[j] < n :=
 List.mem_range.1 (h.perm.mem_iff.1 (List.getElem_mem hj))
def mv {α:Type} (l:List α) (i j:Nat):List α:=l.take j ++ ((l.drop i).take 1 ++ ((l.drop j).take (i - j) ++ l.drop (i + 1)))
theorem mv_len {α:Type} {l:List α} {i j:Nat} (hi:i < l.length) (hj:j ≤ i):(mv l i j).length = l.length:=by
 simp [mv]; omega
theorem mv_get {α:Type} {l:List α} {i j:Nat} (hi:i < l.length) (hj:j ≤ i) (t:Nat):(mv l i j)[t]? = if t < j then l[t]? else if t = j then l[i]? else if t ≤ i then l[t - 1]? else l[t]?:=by
 unfold mv
 rw [List.getElem?_append]
 have e1:(l.take j).length = j:=by simp; omega
 have e2:((l.drop i).take 1).length = 1:=by simp; omega
 have e3:((l.drop j).take (i - j)).length = i - j:=by simp; omega
 rw [e1]
 split
 ·rename_i h
  rw [List.getElem?_take,if_pos h]
 ·rename_i h
  rw [List.getElem?_append,e2]
  split
  ·rename_i h2
   have:t = j:=by omega
   subst this
   rw [if_pos rfl,List.getElem?_take,if_pos (by omega),List.getElem?_drop]
   congr 1
   omega
  ·rename_i h2
   rw [if_neg (by omega),List.getElem?_append,e3]
   split
   ·rename_i h3
    rw [if_pos (by omega),List.getElem?_take,if_pos h3,List.getElem?_drop]
    congr 1
    omega
   ·rename_i h3
    rw [if_neg (by omega),List.getElem?_drop]
    congr 1
    omega
theorem mv_self {α:Type} {l:List α} {i:Nat} (hi:i < l.length):mv l i i = l:=by
 apply List.ext_getElem?
 intro t
 rw [mv_get hi (Nat.le_refl _)]
 split
 ·rfl
 ·split
  ·rename_i h; rw [h]
  ·rw [if_neg (by omega)]
theorem mv_step {α:Type} {l:List α} {i j:Nat} (hi:i < l.length) (hj:j < i) (x y:α) (hx:l[i]? = some x) (hy:l[j]? = some y):((mv l i (j + 1)).set (j + 1) y).set j x = mv l i j:=by
 apply List.ext_getElem?
 intro t
 rw [List.getElem?_set,List.getElem?_set,List.length_set,mv_len hi hj,mv_get hi hj,mv_get hi (by omega)]
 by_cases h1:j = t
 ·subst h1
  rw [if_pos rfl,if_pos (by omega),if_neg (by omega),if_pos rfl,hx]
 ·rw [if_neg h1]
  by_cases h2:j + 1 = t
  ·subst h2
   rw [if_pos rfl,if_pos (by omega),if_neg (by omega),if_neg (by omega),if_pos (by omega),Nat.add_sub_cancel,hy]
  ·rw [if_neg h2]
   by_cases h3:t < j
   ·rw [if_pos (by omega),if_pos h3]
   ·rw [if_neg (by omega),if_neg (by omega),if_neg h3,if_neg (show ¬ t = j from fun e => h1 e.symm)]
structure SortI (f:Nat → Int) (n i:Nat) (l:List Nat):Prop where
 len:l.length = n
 perm:(l.take i).Perm (List.range i)
 sorted:(l.take i).Pairwise fun a b => before f a b = true
 rest:∀ t,i ≤ t → t < n → l[t]? = some t
theorem SortI.first (f:Nat → Int) {n:Nat} (hn:0 < n):SortI f n 1 (List.range n):=by
 have e:(List.range n).take 1 = [0]:=by
  cases n with
  | zero => omega
  | succ n => rw [List.range_succ_eq_map]; rfl
 refine ⟨by simp,?_,?_,fun t _ h => by simp [h]⟩
 ·rw [e]; exact List.Perm.refl _
 ·rw [e]; simp
theorem SortI.lt {f:Nat → Int} {n i:Nat} {l:List Nat} (h:SortI f n i l) {t:Nat} (ht:t < i) (hi:i ≤ n) {x:Nat} (hx:l[t]? = some x):x < i:=by
 have:x ∈ l.take i:=by
  rw [List.mem_take_iff_getElem]
  obtain ⟨h1,h2⟩:=List.getElem?_eq_some_iff.1 hx
  exact ⟨t,by omega,h2⟩
 exact List.mem_range.1 (h.perm.mem_iff.1 this)
theorem SortI.step {f:Nat → Int} {n i j:Nat} {l:List Nat} (h:SortI f n i l) (hi:i < n) (hj:j ≤ i) (h1:∀ t x,j ≤ t → t < i → l[t]? = some x → f x < f i) (h2:∀ x,0 < j → l[j - 1]? = some x → f i ≤ f x):SortI f n (i + 1) (mv l i j):=by
 have hl:=h.len
 have hx:(l.drop i).take 1 = [i]:=by
  rw [List.drop_eq_getElem_cons (by omega)]
  have:=h.rest i (Nat.le_refl _) hi
  rw [List.getElem?_eq_getElem (by omega)] at this
  simp only [Option.some.injEq] at this
  simp [this]
 have ht:(mv l i j).take (i + 1) = l.take j ++ (i :: (l.drop j).take (i - j)):=by
  unfold mv
  rw [hx,← List.append_assoc [i],← List.append_assoc (l.take j),List.take_left' (by simp; omega)]
  rfl
 have hp:l.take i = l.take j ++ (l.drop j).take (i - j):=by
  have:=List.take_append_drop j (l.take i)
  rw [List.take_take,List.drop_take,Nat.min_eq_left hj] at this
  exact this.symm
 have hs:=h.sorted
 rw [hp,List.pairwise_append] at hs
 have hA:∀ x ∈ l.take j,before f x i = true:=by
  intro x hxm
  obtain ⟨t,htl,rfl⟩:=List.mem_take_iff_getElem.1 hxm
  have hti:l[t] < i:=h.lt (t:=t) (by omega) (by omega) (List.getElem?_eq_getElem (by omega))
  have hlast:before f (l[j - 1]'(by omega)) i = true:=by
   have h3:=h2 _ (by omega) (List.getElem?_eq_getElem (by omega))
   have h4:l[j - 1]'(by omega) < i:=h.lt (t:=j - 1) (by omega) (by omega) (List.getElem?_eq_getElem (by omega))
   simp only [before,Bool.or_eq_true,decide_eq_true_eq,Bool.and_eq_true,beq_iff_eq]
   omega
  by_cases htj:t = j - 1
  ·subst htj; exact hlast
  ·refine before_trans f ?_ hlast
   have:=List.pairwise_iff_getElem.1 h.sorted t (j - 1) (by simp; omega) (by simp; omega) (by omega)
   simpa using this
 have hB:∀ x ∈ (l.drop j).take (i - j),before f i x = true:=by
  intro x hxm
  obtain ⟨t,htl,rfl⟩:=List.mem_take_iff_getElem.1 hxm
  simp only [List.getElem_drop]
  have h3:=h1 (j + t) _ (by omega) (by simp at htl; omega) (List.getElem?_eq_getElem (by simp at htl; omega))
  simp only [before,Bool.or_eq_true,decide_eq_true_eq]
  exact .inl h3
 refine ⟨by rw [mv_len (by omega) hj]; exact hl,?_,?_,fun t h3 h4 => ?_⟩
 ·rw [ht,List.range_succ]
  refine List.perm_middle.trans ?_
  rw [← hp]
  exact (List.Perm.cons i h.perm).trans (List.perm_append_comm (l₁:=[i]))
 ·rw [ht,List.pairwise_append,List.pairwise_cons]
  refine ⟨hs.1,⟨hB,hs.2.1⟩,fun a ha b hb => ?_⟩
  rcases List.mem_cons.1 hb with rfl | hb
  ·exact hA a ha
  ·exact hs.2.2 a ha b hb
 ·rw [mv_get (by omega) hj,if_neg (by omega),if_neg (by omega),if_neg (by omega)]
  exact h.rest t (by omega) h4
theorem SortI.done {f:Nat → Int} {n i:Nat} {l:List Nat} (h:SortI f n i l) (hi:n ≤ i):Ordered f n l:=by
 have hl:=h.len
 have h1:=h.perm
 have h2:=h.sorted
 rw [List.take_of_length_le (by omega)] at h1 h2
 have:i = n:=by
  have:=h1.length_eq
  simp at this; omega
 subst this
 exact ⟨h1,h2⟩
end Go.Proofs.YtefoconkepmmgaaGreatDoor

/-
 The carriage: plain.
-/
namespace Go.Proofs.YtefoconkepmmgaaGreatDoor
open Go Go.V
structure Sp where
 at_:Int
 way:Int
 side:Int
 from_:Int
 deriving DecidableEq,Inhabited
def Sp.cds (s:Sp):List CD:=[.int .i64 s.at_,.int .i64 s.way,.int .i64 s.side,.int .i64 s.from_]
def wayI (up:Bool):Int:=if up then 1 else -1
structure Cs where
 q:List Pr
 pins:List Bool
 now:Int
 at_:Nat
 up:Bool
 side:Int
 spells:List Sp
 plays:List Pr
 steps:Int
 end_:Int
 deriving DecidableEq,Inhabited
def sideAt (k:Nat) (up:Bool):Nat:=if up then 2 * k else 2 * k + 1
def Tray.rc (t:Tray) (k:Nat):Rec:=t.recs.getD k default
def secs (t:Tray) (s:Nat):Int:=if s % 2 = 0 then (t.rc (s / 2)).front else (t.rc (s / 2)).back
def Cs.mark (s:Cs) (side:Int):Cs:={ s with side:=side,spells:=s.spells ++ [⟨s.at_,wayI s.up,side,s.now⟩] }
def pressQ (now:Int):List Pr → List Bool → List Pr × List Bool
 | [],pins => ([],pins)
 | p :: q,pins => if p.time ≤ now then pressQ now q (pins.set p.side.toNat true) else (p :: q,pins)
def Cs.press (s:Cs):Cs:={ s with q:=(pressQ s.now s.q s.pins).1,pins:=(pressQ s.now s.q s.pins).2 }
def Cs.move (t:Tray) (s:Cs):Cs :=
 if s.up then (if s.at_ + 1 < t.n then { s with at_:=s.at_ + 1,now:=s.now + t.step,steps:=s.steps + 1 } else { s with up:=false })
 else (if 0 < s.at_ then { s with at_:=s.at_ - 1,now:=s.now + t.step,steps:=s.steps + 1 } else { s with up:=true })
def Cs.next (t:Tray) (s:Cs):Cs:=(s.move t).mark (-1)
def Cs.pos (s:Cs):Nat:=sideAt s.at_ s.up
def Cs.play1 (s:Cs):Cs:=({ s with pins:=s.pins.set s.pos false,plays:=s.plays ++ [⟨s.pos,s.now⟩] }:Cs).mark s.pos
def Cs.play2 (t:Tray) (s:Cs):Cs:=({ s with now:=s.now + secs t s.pos,end_:=s.now + secs t s.pos }:Cs).mark (-1)
def Cs.play (t:Tray) (s:Cs):Cs:=if s.pins.getD s.pos false = true then (s.play1).play2 t else s
def Cs.act1 (t:Tray) (s:Cs):Option Cs :=
 if s.pins.all (!·) then (match s.q with | [] => none | p :: _ => some { s with now:=p.time }) else some ((s.play t).next t)
def Cs.act (t:Tray) (s:Cs):Option Cs:=s.press.act1 t
def iter (t:Tray):Nat → Cs → Cs
 | 0,s => s
 | k + 1,s => match s.act t with | none => s.press | some s' => iter t k s'
def start (t:Tray) (q:List Pr):Cs:=⟨q,List.replicate (2 * t.n) false,0,t.at_.toNat,t.way == 1,-1,[],[],0,0⟩
def goesWith (t:Tray) (q:List Pr):Cs:=iter t 250 ((start t q).mark (-1))
def cyc (n:Nat) (k:Nat) (up:Bool):Nat:=if up then k else 2 * n - 1 - k
def cycOf (n:Nat) (s:Nat):Nat:=cyc n (s / 2) (s % 2 == 0)
theorem cycOf_side (n k:Nat) (up:Bool):cycOf n (sideAt k up) = cyc n k up:=by
 unfold cycOf sideAt
 cases up
 ·have h1:(2 * k + 1) / 2 = k:=by omega
  have h2:((2 * k + 1) % 2 == 0) = false:=by simp
  simp only [Bool.false_eq_true,if_false,h1,h2]
 ·have h1:(2 * k) / 2 = k:=by omega
  have h2:((2 * k) % 2 == 0) = true:=by simp
  simp only [if_true,h1,h2]
theorem cycOf_lt {n s:Nat} (h:s < 2 * n):cycOf n s < 2 * n:=by
 unfold cycOf cyc
 split <;> omega
theorem cycOf_inj {n s s':Nat} (h:s < 2 * n) (h':s' < 2 * n) (e:cycOf n s = cycOf n s'):s = s':=by
 unfold cycOf cyc at e
 by_cases h1:s % 2 = 0 <;> by_cases h2:s' % 2 = 0 <;> simp [h1,h2] at e <;> omega
def dist (n c d:Nat):Nat:=if c ≤ d then d - c else d + 2 * n - c
theorem dist_lt {n c d:Nat} (hc:c < 2 * n) (hd:d < 2 * n):dist n c d < 2 * n:=by unfold dist; split <;> omega
def cycNext (n c:Nat):Nat:=if c + 1 = 2 * n then 0 else c + 1
theorem dist_next {n c d:Nat} (hc:c < 2 * n) (hd:d < 2 * n) (h:c ≠ d):dist n (cycNext n c) d + 1 = dist n c d:=by
 unfold dist cycNext; split <;> split <;> split <;> omega
structure CsOk (t:Tray) (s:Cs):Prop where
 at_:s.at_ < t.n
 pins:s.pins.length = 2 * t.n
 q:∀ p ∈ s.q,(0 ≤ p.side ∧ p.side < 2 * (t.n:Int)) ∧ (0 ≤ p.time ∧ p.time ≤ 9999)
 now:0 ≤ s.now
 sorted:s.q.Pairwise fun a b => a.time ≤ b.time
def pinsW (n c:Nat) (pins:List Bool):Nat:=((List.range pins.length).map fun s => if pins.getD s false then dist n c (cycOf n s) + 1 else 0).sum
def jW (s:Cs):Nat:=match s.q with | [] => 0 | p :: _ => if s.now < p.time then 1 else 0
def Cs.c (t:Tray) (s:Cs):Nat:=cyc t.n s.at_ s.up
def mu (t:Tray) (s:Cs):Nat:=(2 * t.n + 2) * s.q.length + pinsW t.n (s.c t) s.pins + jW s
theorem sum_pt {l:List Nat} {f g:Nat → Nat} (h:∀ i ∈ l,f i ≤ g i):(l.map f).sum ≤ (l.map g).sum:=by
 induction l with
 | nil => simp
 | cons a l ih =>
  simp only [List.map_cons,List.sum_cons]
  have:=h a (by simp)
  have:=ih fun i hi => h i (by simp [hi])
  omega
theorem sum_one {l:List Nat} (hn:l.Nodup) {f g:Nat → Nat} {k d:Nat} (h:∀ i ∈ l,i ≠ k → f i ≤ g i) (hk:f k ≤ g k + d):(l.map f).sum ≤ (l.map g).sum + d:=by
 induction l with
 | nil => simp
 | cons a l ih =>
  have hn':=List.nodup_cons.1 hn
  simp only [List.map_cons,List.sum_cons]
  by_cases e:a = k
  ·subst e
   have:(l.map f).sum ≤ (l.map g).sum:=sum_pt fun i hi => h i (by simp [hi]) (fun e => hn'.1 (e ▸ hi))
   omega
  ·have h1:=h a (by simp) e
   have:=ih hn'.2 fun i hi hne => h i (by simp [hi]) hne
   omega
theorem sum_lt {l:List Nat} {f g:Nat → Nat} (h:∀ i ∈ l,f i ≤ g i) {k:Nat} (hm:k ∈ l) (hk:f k < g k):(l.map f).sum < (l.map g).sum:=by
 induction l with
 | nil => cases hm
 | cons a l ih =>
  simp only [List.map_cons,List.sum_cons]
  rcases List.mem_cons.1 hm with rfl | hm
  ·have:=sum_pt (l:=l) (f:=f) (g:=g) fun i hi => h i (by simp [hi])
   omega
  ·have h1:=h a (by simp)
   have:=ih (fun i hi => h i (by simp [hi])) hm
   omega
theorem pressQ_len (now:Int):∀ (q:List Pr) (pins:List Bool),(pressQ now q pins).2.length = pins.length
 | [],pins => rfl
 | p :: q,pins => by
  simp only [pressQ]
  split
  ·rw [pressQ_len now q]; simp
  ·rfl
theorem pressQ_suffix (now:Int):∀ (q:List Pr) (pins:List Bool),∃ k,(pressQ now q pins).1 = q.drop k
 | [],pins => ⟨0,rfl⟩
 | p :: q,pins => by
  simp only [pressQ]
  split
  ·obtain ⟨k,h⟩:=pressQ_suffix now q (pins.set p.side.toNat true)
   exact ⟨k + 1,by rw [h]; rfl⟩
  ·exact ⟨0,rfl⟩
theorem pressQ_head (now:Int):∀ (q:List Pr) (pins:List Bool),∀ p q',(pressQ now q pins).1 = p :: q' → now < p.time
 | [],pins,p,q',h => by cases h
 | a :: q,pins,p,q',h => by
  simp only [pressQ] at h
  split at h
  ·exact pressQ_head now q _ p q' h
  ·rename_i hn
   simp only [List.cons.injEq] at h
   obtain ⟨rfl,_⟩:=h
   omega
theorem CsOk.press {t:Tray} {s:Cs} (h:CsOk t s):CsOk t s.press:=by
 obtain ⟨k,hk⟩:=pressQ_suffix s.now s.q s.pins
 refine ⟨h.at_,by simp only [Cs.press]; rw [pressQ_len]; exact h.pins,fun p hp => ?_,h.now,?_⟩
 ·simp only [Cs.press,hk] at hp
  exact h.q p (List.mem_of_mem_drop hp)
 ·simp only [Cs.press,hk]
  exact h.sorted.sublist (List.drop_sublist _ _)
theorem pinsW_set {n c:Nat} {pins:List Bool} {k:Nat} (hc:c < 2 * n) (hl:pins.length = 2 * n) (hk:k < 2 * n):pinsW n c (pins.set k true) ≤ pinsW n c pins + 2 * n:=by
 unfold pinsW
 rw [List.length_set]
 refine sum_one (k:=k) List.nodup_range (fun i _ hne => ?_) ?_
 ·have e2:(pins.set k true).getD i false = pins.getD i false:=by
   rw [List.getD_eq_getElem?_getD,List.getElem?_set,if_neg (fun e => hne e.symm),← List.getD_eq_getElem?_getD]
  rw [e2]
  exact Nat.le_refl _
 ·have:=dist_lt hc (cycOf_lt (n:=n) (s:=k) (by omega))
  split <;> omega
theorem pressQ_mu {n c:Nat} (hc:c < 2 * n) (now:Int):∀ (q:List Pr) (pins:List Bool),pins.length = 2 * n → (∀ p ∈ q,0 ≤ p.side ∧ p.side < 2 * (n:Int)) →
  (2 * n + 2) * (pressQ now q pins).1.length + pinsW n c (pressQ now q pins).2 + 2 * (q.length - (pressQ now q pins).1.length) ≤ (2 * n + 2) * q.length + pinsW n c pins ∧ (pressQ now q pins).1.length ≤ q.length
 | [],pins,_,_ => by simp [pressQ]
 | p :: q,pins,hl,h => by
  simp only [pressQ]
  split
  ·have hp:=h p (by simp)
   have ih:=pressQ_mu hc now q (pins.set p.side.toNat true) (by simpa using hl) fun x hx => h x (by simp [hx])
   have hs:=pinsW_set hc hl (k:=p.side.toNat) (by omega)
   obtain ⟨i1,i2⟩:=ih
   simp only [List.length_cons]
   have e:(2 * n + 2) * (q.length + 1) = (2 * n + 2) * q.length + (2 * n + 2):=Nat.mul_succ _ _
   rw [e]
   generalize (2 * n + 2) * q.length = A at *
   generalize (2 * n + 2) * (pressQ now q (pins.set p.side.toNat true)).1.length = B at *
   constructor <;> omega
  ·simp
theorem cyc_lt {n k:Nat} {up:Bool} (h:k < n):cyc n k up < 2 * n:=by unfold cyc; split <;> omega
theorem Cs.c_lt {t:Tray} {s:Cs} (h:CsOk t s):s.c t < 2 * t.n:=cyc_lt h.at_
theorem mu_press {t:Tray} {s:Cs} (h:CsOk t s):(2 * t.n + 2) * s.press.q.length + pinsW t.n (s.press.c t) s.press.pins + 2 * (s.q.length - s.press.q.length) ≤ (2 * t.n + 2) * s.q.length + pinsW t.n (s.c t) s.pins ∧ s.press.q.length ≤ s.q.length :=
 pressQ_mu (Cs.c_lt h) s.now s.q s.pins h.pins fun p hp => (h.q p hp).1
theorem pos_lt {t:Tray} {s:Cs} (h:CsOk t s):s.pos < 2 * t.n:=by have:=h.at_; unfold Cs.pos sideAt; split <;> omega
theorem cyc_pos (t:Tray) (s:Cs):cycOf t.n s.pos = s.c t:=cycOf_side _ _ _
theorem move_c {t:Tray} {s:Cs} (h:s.at_ < t.n):(s.move t).c t = cycNext t.n (s.c t) ∧ (s.move t).at_ < t.n:=by
 unfold Cs.move Cs.c cycNext cyc
 cases hu:s.up
 ·by_cases h0:0 < s.at_
  ·simp [hu,h0]; repeat' (first | omega | split | apply And.intro)
  ·simp [hu,h0]; repeat' (first | omega | split | apply And.intro)
 ·by_cases h1:s.at_ + 1 < t.n
  ·simp [hu,h1]; repeat' (first | omega | split | apply And.intro)
  ·simp [hu,h1]; repeat' (first | omega | split | apply And.intro)
theorem move_q (t:Tray) (s:Cs):(s.move t).q = s.q ∧ (s.move t).pins = s.pins ∧ (s.move t).plays = s.plays ∧ (s.move t).spells = s.spells ∧ (s.move t).end_ = s.end_:=by
 unfold Cs.move
 split <;> split <;> exact ⟨rfl,rfl,rfl,rfl,rfl⟩
theorem move_now {t:Tray} (ht:0 ≤ t.step) (s:Cs):s.now ≤ (s.move t).now ∧ (s.move t).now ≤ s.now + t.step ∧ s.steps ≤ (s.move t).steps ∧ (s.move t).steps ≤ s.steps + 1:=by
 unfold Cs.move
 split <;> split <;> simp only <;> omega
theorem pinsW_move {n c:Nat} {pins:List Bool} (hc:c < 2 * n) (hl:pins.length = 2 * n) {k:Nat} (hk:k < 2 * n) (hck:cycOf n k = c) (h:pins.all (!·) = false) :
  pinsW n (cycNext n c) (pins.set k false) < pinsW n c pins:=by
 unfold pinsW
 rw [List.length_set,hl]
 obtain ⟨b,hb,hbt⟩:=List.all_eq_false.1 h
 obtain ⟨i,hi,rfl⟩:=List.mem_iff_getElem.1 hb
 have hbi:pins[i] = true:=by simpa using hbt
 have hle:∀ j ∈ List.range (2 * n),(if (pins.set k false).getD j false then dist n (cycNext n c) (cycOf n j) + 1 else 0) ≤ (if pins.getD j false then dist n c (cycOf n j) + 1 else 0):=by
  intro j hj
  have hj:=List.mem_range.1 hj
  by_cases e:k = j
  ·subst e
   have:(pins.set k false).getD k false = false:=by
    rw [List.getD_eq_getElem?_getD,List.getElem?_set,if_pos rfl]; split <;> rfl
   rw [this]; simp
  ·have e2:(pins.set k false).getD j false = pins.getD j false:=by
    rw [List.getD_eq_getElem?_getD,List.getElem?_set,if_neg e,← List.getD_eq_getElem?_getD]
   rw [e2]
   have hne:c ≠ cycOf n j:=fun h => e (cycOf_inj hk hj (by rw [hck,h]))
   have:=dist_next hc (cycOf_lt hj) hne
   split <;> omega
 refine sum_lt hle (k:=i) (List.mem_range.2 (by omega)) ?_
 have hgi:pins.getD i false = true:=by rw [List.getD_eq_getElem?_getD,List.getElem?_eq_getElem hi]; exact hbi
 rw [hgi]
 by_cases e:k = i
 ·subst e
  have:(pins.set k false).getD k false = false:=by
   rw [List.getD_eq_getElem?_getD,List.getElem?_set,if_pos rfl]; split <;> rfl
  rw [this]; simp
 ·have e2:(pins.set k false).getD i false = true:=by
   rw [List.getD_eq_getElem?_getD,List.getElem?_set,if_neg e,← List.getD_eq_getElem?_getD]; exact hgi
  rw [e2]
  have hne:c ≠ cycOf n i:=fun h => e (cycOf_inj hk (by omega) (by rw [hck,h]))
  have:=dist_next hc (cycOf_lt (s:=i) (n:=n) (by omega)) hne
  simp; omega
theorem set_false {pins:List Bool} {k:Nat} (h:pins.getD k false ≠ true):pins.set k false = pins:=by
 apply List.ext_getElem?
 intro i
 rw [List.getElem?_set]
 split
 ·rename_i e; subst e
  split
  ·rename_i hk
   rw [List.getD_eq_getElem?_getD,List.getElem?_eq_getElem hk] at h
   rw [List.getElem?_eq_getElem hk]
   simp only [Option.getD_some] at h
   simp at h
   rw [h]
  ·rename_i hk
   rw [List.getElem?_eq_none (by omega)]
 ·rfl
theorem play_pins (t:Tray) (s:Cs):(s.play t).pins = s.pins.set s.pos false ∧ (s.play t).q = s.q ∧ (s.play t).at_ = s.at_ ∧ (s.play t).up = s.up:=by
 unfold Cs.play
 split
 ·exact ⟨rfl,rfl,rfl,rfl⟩
 ·rename_i h
  exact ⟨(set_false h).symm,rfl,rfl,rfl⟩
theorem rec_ok {t:Tray} (h:TrayOk t) {k:Nat} (hk:k < t.n):(1 ≤ (t.rc k).front ∧ (t.rc k).front ≤ 999) ∧ (1 ≤ (t.rc k).back ∧ (t.rc k).back ≤ 999):=by
 have hk':k < t.recs.length:=hk
 have:=h.recs _ (List.getElem_mem hk')
 unfold Tray.rc
 rwa [List.getD_eq_getElem?_getD,List.getElem?_eq_getElem hk']
theorem secs_ok {t:Tray} (h:TrayOk t) {s:Nat} (hs:s < 2 * t.n):1 ≤ secs t s ∧ secs t s ≤ 999:=by
 have:=rec_ok h (k:=s / 2) (by omega)
 unfold secs
 split
 ·exact this.1
 ·exact this.2
theorem play_now {t:Tray} (h:TrayOk t) {s:Cs} (hs:CsOk t s):s.now ≤ (s.play t).now ∧ (s.play t).now ≤ s.now + 999 ∧ (s.play t).steps = s.steps:=by
 have:=secs_ok h (pos_lt hs)
 unfold Cs.play
 split
 ·refine ⟨?_,?_,rfl⟩ <;> show _ ≤ _ <;> simp only [Cs.play2,Cs.play1,Cs.mark,Cs.pos] at * <;> omega
 ·exact ⟨Int.le_refl _,by omega,rfl⟩
theorem act1_ok {t:Tray} (h:TrayOk t) {s s':Cs} (hs:CsOk t s) (e:s.act1 t = some s'):CsOk t s':=by
 unfold Cs.act1 at e
 split at e
 ·split at e
  ·cases e
  ·rename_i p q hq
   simp only [Option.some.injEq] at e
   subst e
   exact ⟨hs.at_,hs.pins,hs.q,(hs.q p (by rw [hq]; simp)).2.1,hs.sorted⟩
 ·simp only [Option.some.injEq] at e
  subst e
  obtain ⟨p1,p2,p3,p4⟩:=play_pins t s
  obtain ⟨m1,m2,m3,m4,m5⟩:=move_q t (s.play t)
  have hn:=play_now h hs
  have hm:=move_now h.step.1 (s.play t)
  refine ⟨(move_c (by rw [p3]; exact hs.at_)).2,?_,fun p hp => ?_,?_,?_⟩
  ·show ((s.play t).move t).pins.length = _
   rw [m2,p1,List.length_set]; exact hs.pins
  ·have hp':p ∈ ((s.play t).move t).q:=hp
   rw [m1,p2] at hp'
   exact hs.q p hp'
  ·show 0 ≤ ((s.play t).move t).now
   have:=hs.now
   omega
  ·show ((s.play t).move t).q.Pairwise _
   rw [m1,p2]; exact hs.sorted
theorem act_ok {t:Tray} (h:TrayOk t) {s s':Cs} (hs:CsOk t s) (e:s.act t = some s'):CsOk t s':=act1_ok h hs.press e
theorem act_mu {t:Tray} {s s':Cs} (hs:CsOk t s) (e:s.act t = some s'):mu t s' < mu t s:=by
 have hpr:=mu_press hs
 have hp:=hs.press
 have hhead:=pressQ_head s.now s.q s.pins
 have hnow:s.press.now = s.now:=rfl
 unfold Cs.act at e
 have hj1:s.press.q.length = s.q.length → s.press.q = s.q:=by
  intro hl
  obtain ⟨k,hk⟩:=pressQ_suffix s.now s.q s.pins
  have e1:s.press.q = s.q.drop k:=hk
  rw [e1] at hl ⊢
  rw [List.length_drop] at hl
  by_cases hk0:k = 0
  ·rw [hk0]; rfl
  ·have:s.q = []:=by cases hq:s.q with
    | nil => rfl
    | cons a l => rw [hq] at hl; simp at hl; omega
   rw [this]; simp
 have hjle:∀ x:Cs,jW x ≤ 1:=fun x => by unfold jW; split <;> (try split) <;> omega
 have hjp:s.press.q = s.q → s.q ≠ [] → jW s = 1:=by
  intro he hne
  unfold jW
  cases hq:s.q with
  | nil => exact absurd hq hne
  | cons p q =>
   have:s.press.q = p :: q:=by rw [he,hq]
   have:=hhead p q this
   simp [this]
 unfold Cs.act1 at e
 split at e
 ·split at e
  ·cases e
  ·rename_i p q hq
   simp only [Option.some.injEq] at e
   subst e
   unfold mu
   have hj0:jW ({ s.press with now:=p.time }:Cs) = 0:=by unfold jW; simp only [hq]; simp
   rw [hj0]
   show (2 * t.n + 2) * s.press.q.length + pinsW t.n (s.press.c t) s.press.pins + 0 < _
   by_cases hl:s.press.q.length = s.q.length
   ·have he:=hj1 hl
    have hne:s.q ≠ []:=by rw [← he,hq]; simp
    have:=hjp he hne
    omega
   ·omega
 ·rename_i hall
  have hall:s.press.pins.all (!·) = false:=by simpa using hall
  simp only [Option.some.injEq] at e
  subst e
  obtain ⟨p1,p2,p3,p4⟩:=play_pins t s.press
  obtain ⟨m1,m2,m3,m4,m5⟩:=move_q t (s.press.play t)
  have hc1:(s.press.play t).c t = s.press.c t:=by unfold Cs.c; rw [p3,p4]
  have hmv:=(move_c (t:=t) (s:=s.press.play t) (by rw [p3]; exact hp.at_)).1
  rw [hc1] at hmv
  have hw:=pinsW_move (Cs.c_lt hp) hp.pins (pos_lt hp) (cyc_pos t s.press) hall
  have e1:mu t ((s.press.play t).next t) = (2 * t.n + 2) * s.press.q.length + pinsW t.n (cycNext t.n (s.press.c t)) (s.press.pins.set s.press.pos false) + jW ((s.press.play t).next t):=by
   unfold mu
   show (2 * t.n + 2) * ((s.press.play t).move t).q.length + pinsW t.n (((s.press.play t).move t).c t) ((s.press.play t).move t).pins + _ = _
   rw [m1,m2,hmv,p1,p2]
  rw [e1]
  unfold mu
  have hj2:=hjle ((s.press.play t).next t)
  by_cases hl:s.press.q.length = s.q.length
  ·have he:=hj1 hl
   by_cases hne:s.q = []
   ·have:jW ((s.press.play t).next t) = 0:=by
     unfold jW
     have:((s.press.play t).next t).q = []:=by
      show ((s.press.play t).move t).q = []
      rw [m1,p2,he,hne]
     rw [this]
    omega
   ·have:=hjp he hne
    omega
  ·omega
end Go.Proofs.YtefoconkepmmgaaGreatDoor

/-
 The order by times,and how far a run goes: plain.
-/
namespace Go.Proofs.YtefoconkepmmgaaGreatDoor
open Go Go.V
theorem sort_exists (f:Nat → Int) {n:Nat}:∃ l,Ordered f n l:=by
 cases n with
 | zero => exact ⟨[],by simp,List.Pairwise.nil⟩
 | succ n =>
  have h:∀ i,1 ≤ i → i ≤ n + 1 → ∃ l,SortI f (n + 1) i l:=by
   intro i
   induction i with
   | zero => intro h; omega
   | succ i ih =>
    intro _ hi
    cases i with
    | zero => exact ⟨_,SortI.first f (by omega)⟩
    | succ i =>
     obtain ⟨l,hl⟩:=ih (by omega) (by omega)
     have hj:∀ m,m ≤ i + 1 → ∃ j,j ≤ i + 1 ∧ (∀ t x,j ≤ t → t < i + 1 → l[t]? = some x → f x < f (i + 1)) ∧ (j ≤ i + 1 - m ∨ ∃ x,0 < j ∧ l[j - 1]? = some x ∧ f (i + 1) ≤ f x):=by
      intro m
      induction m with
      | zero => intro _; exact ⟨i + 1,Nat.le_refl _,fun t x h1 h2 => by omega,.inl (by omega)⟩
      | succ m ihm =>
       intro hm
       obtain ⟨j,h1,h2,h3⟩:=ihm (by omega)
       rcases h3 with h3 | h3
       ·by_cases hj0:j ≤ i + 1 - (m + 1)
        ·exact ⟨j,h1,h2,.inl hj0⟩
        ·have hlen:=hl.len
         have hjl:j - 1 < l.length:=by omega
         have hg:l[j - 1]? = some l[j - 1]:=List.getElem?_eq_getElem hjl
         by_cases hf:f l[j - 1] < f (i + 1)
         ·refine ⟨j - 1,by omega,fun t x h4 h5 h6 => ?_,.inl (by omega)⟩
          by_cases ht:t = j - 1
          ·subst ht; rw [hg] at h6; cases h6; exact hf
          ·exact h2 t x (by omega) h5 h6
         ·exact ⟨j,h1,h2,.inr ⟨_,by omega,hg,by omega⟩⟩
       ·exact ⟨j,h1,h2,.inr h3⟩
     obtain ⟨j,h1,h2,h3⟩:=hj (i + 1) (Nat.le_refl _)
     refine ⟨_,hl.step (by omega) h1 h2 fun x h4 h5 => ?_⟩
     rcases h3 with h3 | ⟨y,_,h6,h7⟩
     ·omega
     ·rw [h5] at h6; cases h6; exact h7
  obtain ⟨l,hl⟩:=h (n + 1) (by omega) (Nat.le_refl _)
  exact ⟨l,hl.done (Nat.le_refl _)⟩
def ordI (f:Nat → Int) (n:Nat):List Nat:=(List.range n).map fun j => ((List.range n).find? fun i => rank f n i == j).getD 0
theorem ordered_eq {f:Nat → Int} {n:Nat} {l:List Nat} (h:Ordered f n l):l = ordI f n:=by
 have hl:=h.len
 apply List.ext_getElem
 ·simp [ordI,hl]
 ·intro j h1 h2
  have hr:=h.rank h1
  have hm:l[j] < n:=h.lt h1
  have e:(ordI f n)[j] = ((List.range n).find? fun i => rank f n i == j).getD 0:=by simp [ordI]
  rw [e]
  cases hf:(List.range n).find? (fun i => rank f n i == j) with
  | none =>
   have:=List.find?_eq_none.1 hf l[j] (List.mem_range.2 hm)
   simp [hr] at this
  | some i =>
   have h3:=List.find?_some hf
   have h4:=List.mem_range.1 (List.mem_of_find?_eq_some hf)
   obtain ⟨j',hj',rfl⟩:=h.mem h4
   have h5:=h.rank hj'
   simp only [beq_iff_eq] at h3
   have:j' = j:=by omega
   subst this
   rfl
theorem ordI_ok (f:Nat → Int) (n:Nat):Ordered f n (ordI f n):=by
 obtain ⟨l,hl⟩:=sort_exists f (n:=n)
 rw [← ordered_eq hl]; exact hl
def keyT (L:List Pr) (k:Nat):Int:=- (L.getD k default).time
def arr (L:List Pr) (π:List Nat):List Pr:=π.map fun k => L.getD k default
def sortT (L:List Pr):List Pr:=arr L (ordI (keyT L) L.length)
theorem sortT_perm (L:List Pr):(sortT L).Perm L:=by
 have h:=(ordI_ok (keyT L) L.length).perm.map fun k => L.getD k default
 have e:(List.range L.length).map (fun k => L.getD k default) = L:=by
  apply List.ext_getElem (by simp)
  intro i h1 h2
  simp [h2]
 rw [e] at h
 exact h
theorem sortT_len (L:List Pr):(sortT L).length = L.length:=(sortT_perm L).length_eq
theorem sortT_sorted (L:List Pr):(sortT L).Pairwise fun a b => a.time ≤ b.time:=by
 unfold sortT arr
 rw [List.pairwise_map]
 refine (ordI_ok (keyT L) L.length).sorted.imp fun {a b} h => ?_
 have h':keyT L b < keyT L a ∨ (keyT L a = keyT L b ∧ a < b):=by simpa [before] using h
 have ea:keyT L a = -(L.getD a default).time:=rfl
 have eb:keyT L b = -(L.getD b default).time:=rfl
 show (L.getD a default).time ≤ (L.getD b default).time
 omega
def goesS (t:Tray):Cs:=goesWith t (sortT t.pres)
theorem pinsW_none (n c m:Nat):pinsW n c (List.replicate m false) = 0:=by
 unfold pinsW
 have:((List.range (List.replicate m false).length).map fun s => if (List.replicate m false).getD s false then dist n c (cycOf n s) + 1 else 0) = (List.range (List.replicate m false).length).map fun _ => 0:=by
  refine List.map_congr_left fun s _ => ?_
  rw [List.getD_eq_getElem?_getD,List.getElem?_replicate]
  split <;> simp at *
 rw [this]
 induction (List.range (List.replicate m false).length) with
 | nil => rfl
 | cons a l ih => simpa using ih
theorem start_okQ {t:Tray} (ht:TrayOk t) {q:List Pr} (hq:q.Perm t.pres) (hs:q.Pairwise fun a b => a.time ≤ b.time):CsOk t ((start t q).mark (-1)):=by
 refine ⟨?_,by simp [start,Cs.mark],fun p hp => ?_,Int.le_refl _,hs⟩
 ·have:=ht.at_
  show t.at_.toNat < t.n
  omega
 ·exact ht.pres p (hq.mem_iff.1 hp)
theorem start_mu {t:Tray} (ht:TrayOk t) {q:List Pr} (hq:q.length ≤ 13):mu t ((start t q).mark (-1)) ≤ 200:=by
 have h6:=ht.n6
 have e:mu t ((start t q).mark (-1)) = (2 * t.n + 2) * q.length + pinsW t.n (((start t q).mark (-1)).c t) (List.replicate (2 * t.n) false) + jW ((start t q).mark (-1)):=rfl
 rw [e,pinsW_none]
 have h1:(2 * t.n + 2) * q.length ≤ 14 * 13:=Nat.mul_le_mul (by omega) hq
 have h2:jW ((start t q).mark (-1)) ≤ 1:=by unfold jW; split <;> (try split) <;> omega
 omega
structure Grown (s s':Cs):Prop where
 now:s'.now ≤ s.now + 1059 ∨ s'.now ≤ 9999
 spells:s'.spells.length ≤ s.spells.length + 3
 plays:s'.plays.length ≤ s.plays.length + 1
 steps:s.steps ≤ s'.steps ∧ s'.steps ≤ s.steps + 1
 q:s'.q.length ≤ s.q.length
theorem act1_grown {t:Tray} (ht:TrayOk t) {s1 s':Cs} (hs1:CsOk t s1) (e:s1.act1 t = some s'):Grown s1 s':=by
 have hstep:=ht.step
 unfold Cs.act1 at e
 split at e
 ·split at e
  ·cases e
  ·rename_i p q hqq
   simp only [Option.some.injEq] at e
   subst e
   exact ⟨.inr (hs1.q p (by rw [hqq]; simp)).2.2,by simp only; omega,by simp only; omega,by simp only; omega,Nat.le_refl _⟩
 ·simp only [Option.some.injEq] at e
  subst e
  have hn:=play_now ht hs1
  have hm:=move_now hstep.1 (s1.play t)
  obtain ⟨m1,m2,m3,m4,m5⟩:=move_q t (s1.play t)
  obtain ⟨p1,p2,p3,p4⟩:=play_pins t s1
  have hsp:(s1.play t).spells.length ≤ s1.spells.length + 2 ∧ (s1.play t).plays.length ≤ s1.plays.length + 1:=by
   unfold Cs.play
   split
   ·simp [Cs.play2,Cs.play1,Cs.mark]
   ·omega
  refine ⟨.inl ?_,?_,?_,?_,?_⟩
  ·show ((s1.play t).move t).now ≤ _; omega
  ·show (((s1.play t).move t).spells ++ [_]).length ≤ _
   rw [m4,List.length_append]; simp only [List.length_cons,List.length_nil]; omega
  ·show ((s1.play t).move t).plays.length ≤ _
   rw [m3]; omega
  ·show s1.steps ≤ ((s1.play t).move t).steps ∧ ((s1.play t).move t).steps ≤ _; omega
  ·show ((s1.play t).move t).q.length ≤ _
   rw [m1,p2]; exact Nat.le_refl _
theorem act_grown {t:Tray} (ht:TrayOk t) {s s':Cs} (hs:CsOk t s) (e:s.act t = some s'):Grown s s':=by
 have hq:s.press.q.length ≤ s.q.length:=(mu_press hs).2
 have h:=act1_grown ht hs.press e
 exact ⟨h.now,h.spells,h.plays,h.steps,Nat.le_trans h.q hq⟩
end Go.Proofs.YtefoconkepmmgaaGreatDoor

namespace Go.Proofs.YtefoconkepmmgaaGreatDoor
open Go Go.V
abbrev o144_0:List Ins:=[JS 2 (.box 2 (.t 0)),JS 3 (.box 2 (.t 1)),JS 4 (Ji 0)]
abbrev o144_1:List Ins:=[JS 5 (Jf 1 2),JS 6 (Jl 5),JS 7 (Jf 1 3),JS 8 (Jl 7),JS 9 (Jb .sub 6 8),JS 4 (Jm 9)]
abbrev v144_2:VC:=(.seq (.ops o144_1) .ret)
def ir144:FC:=⟨2,10,[.t 4],(.seq (.ops o144_0) v144_2)⟩
abbrev o201_0:List Ins:=[JS 10 (Jm 1),JS 11 (Jk .add 10 1),JS 8 (Jm 11)]
abbrev o201_1:List Ins:=[JS 12 (Jm 8),JS 13 (Jm 2),JS 14 (Jb .lss 12 13)]
abbrev v201_2:VC:=(.cond (.t 14) .skip (.exit 0))
abbrev o201_3:List Ins:=[JS 17 (Jm 8),JS 9 (Jm 17)]
abbrev o201_4:List Ins:=[JF 18 (Jm 9),JF 19 (Jm 1),JS 20 (Jb .gtr 18 19),JS 21 (Jm 20),JH 22 (Jm 3) 21 true,JH 23 (Jm 0) 21 true,JH 24 (Jm 9) 21 true,JH 25 (Ja 2 23 24) 21 true,JH 26 (JL 2 25) 21 true,JH 27 (Jm 0) 21 true,JH 28 (Jm 9) 21 true,JH 29 (Jk .sub 28 1) 21 true,JH 30 (Ja 2 27 29) 21 true,JH 31 (JL 2 30) 21 true,JG 32 (.call (.t 22) [.t 26,.t 31]) 21 true,JG 33 (Jk .lss 32 0) 21 true,JS 34 (Jp 21 33)]
abbrev v201_5:VC:=(.cond (.t 34) .skip (.exit 2))
abbrev o201_6:List Ins:=[JF 37 (Jm 0),JF 38 (Jm 9),JF 39 (Jm 0),JF 40 (Jm 9),JF 41 (Jk .sub 40 1),JF 42 (Jm 0),JF 43 (Jm 9),JF 44 (Jk .sub 43 1),JF 45 (Ja 2 42 44),JF 46 (JL 2 45),JF 47 (Jm 0),JF 48 (Jm 9),JF 49 (Ja 2 47 48),JF 50 (JL 2 49),JF 51 (Ja 2 37 38),JE (Js 2 51 46),JS 52 (Ja 2 39 41),JN (Js 2 52 50)]
abbrev o201_7:List Ins:=[JS 35 (Jm 9),JS 36 (Jk .sub 35 1),JS 9 (Jm 36)]
abbrev v201_8:VC:=(.seq (.block 3 (.dops o201_6)) (.ops o201_7))
abbrev v201_9:VC:=(.seq (.seq (.dops o201_4) v201_5) v201_8)
-- K201_2: changed and kept: [9]
abbrev K201_2:List Nat:=[0,1,2,3,8]
abbrev v201_10:VC:=(.loop v201_9)
abbrev v201_11:VC:=(.block 2 v201_10)
abbrev v201_12:VC:=(.seq (.ops o201_3) v201_11)
abbrev o201_13:List Ins:=[JS 15 (Jm 8),JS 16 (Jk .add 15 1),JS 8 (Jm 16)]
abbrev v201_14:VC:=(.seq (.block 1 v201_12) (.ops o201_13))
abbrev v201_15:VC:=(.seq (.seq (.ops o201_1) v201_2) v201_14)
-- K201_1: changed and kept: [8]
abbrev K201_1:List Nat:=[0,1,2,3]
abbrev v201_16:VC:=(.loop v201_15)
abbrev v201_17:VC:=(.block 0 v201_16)
def ir201:FC:=⟨4,53,[],(.seq (.ops o201_0) v201_17)⟩
abbrev o176_0:List Ins:=[JS 6 (Ji 20)]
abbrev o176_1:List Ins:=[JS 10 (Jm 6),JS 7 (Ji 0),JS 8 (Jm 10)]
abbrev o176_2:List Ins:=[JS 11 (Jm 8),JS 12 (Jm 1),JS 13 (Jb .leq 11 12)]
abbrev v176_3:VC:=(.cond (.t 13) .skip (.exit 0))
abbrev o176_4:List Ins:=[JS 14 (Jm 0),JS 15 (Jm 7),JS 16 (Jm 8),JS 17 (Jm 2),JS 18 (Jc 201 [.t 14,.t 15,.t 16,.t 17])]
abbrev o176_5:List Ins:=[JS 19 (Jm 8),JS 7 (Jm 19)]
abbrev o176_6:List Ins:=[JS 20 (Jm 8),JS 21 (Jm 6),JS 22 (Jb .add 20 21),JS 8 (Jm 22)]
abbrev v176_7:VC:=(.seq (.ops o176_5) (.ops o176_6))
abbrev v176_8:VC:=(.seq (.ops o176_4) v176_7)
abbrev v176_9:VC:=(.block 1 v176_8)
abbrev v176_10:VC:=(.seq (.seq (.ops o176_2) v176_3) v176_9)
-- K176_1: changed and kept: [8,7]
abbrev K176_1:List Nat:=[0,1,2,6]
abbrev v176_11:VC:=(.loop v176_10)
abbrev o176_12:List Ins:=[JS 23 (Jm 0),JS 24 (Jm 7),JS 25 (Jm 1),JS 26 (Jm 2),JS 27 (Jc 201 [.t 23,.t 24,.t 25,.t 26])]
abbrev o176_13:List Ins:=[JS 28 (Jm 6),JS 29 (Jm 1),JS 30 (Jb .lss 28 29)]
abbrev v176_14:VC:=(.cond (.t 30) .skip (.exit 2))
abbrev o176_15:List Ins:=[JS 31 (Jm 6),JS 32 (.bin .mul (.k (Jz 2)) (.t 31)),JS 7 (Ji 0),JS 8 (Jm 32)]
abbrev o176_16:List Ins:=[JS 33 (Jm 8),JS 34 (Jm 1),JS 35 (Jb .leq 33 34)]
abbrev v176_17:VC:=(.cond (.t 35) .skip (.exit 4))
abbrev o176_18:List Ins:=[JS 36 (Jm 0),JS 37 (Jm 7),JS 38 (Jm 7),JS 39 (Jm 6),JS 40 (Jb .add 38 39),JS 41 (Jm 8),JS 42 (Jm 2),JS 43 (Jc 202 [.t 36,.t 37,.t 40,.t 41,.t 42])]
abbrev o176_19:List Ins:=[JS 44 (Jm 8),JS 7 (Jm 44)]
abbrev o176_20:List Ins:=[JS 45 (Jm 8),JS 46 (Jm 6),JS 47 (.bin .mul (.k (Jz 2)) (.t 46)),JS 48 (Jb .add 45 47),JS 8 (Jm 48)]
abbrev v176_21:VC:=(.seq (.ops o176_19) (.ops o176_20))
abbrev v176_22:VC:=(.seq (.ops o176_18) v176_21)
abbrev v176_23:VC:=(.block 5 v176_22)
abbrev v176_24:VC:=(.seq (.seq (.ops o176_16) v176_17) v176_23)
-- K176_3: changed and kept: [8,7]
abbrev v176_25:VC:=(.loop v176_24)
abbrev o176_26:List Ins:=[JS 49 (Jm 7),JS 50 (Jm 6),JS 51 (Jb .add 49 50),JS 9 (Jm 51)]
abbrev o176_27:List Ins:=[JS 52 (Jm 9),JS 53 (Jm 1),JS 54 (Jb .lss 52 53)]
abbrev o176_28:List Ins:=[JS 55 (Jm 0),JS 56 (Jm 7),JS 57 (Jm 9),JS 58 (Jm 1),JS 59 (Jm 2),JS 60 (Jc 202 [.t 55,.t 56,.t 57,.t 58,.t 59])]
abbrev v176_29:VC:=(.cond (.t 54) (.ops o176_28) .skip)
abbrev v176_30:VC:=(.seq (.ops o176_27) v176_29)
abbrev o176_31:List Ins:=[JS 61 (Jm 6),JS 62 (Jk .mul 61 2),JS 6 (Jm 62)]
abbrev v176_32:VC:=(.seq (.seq (.ops o176_26) v176_30) (.ops o176_31))
abbrev v176_33:VC:=(.seq (.block 4 v176_25) v176_32)
abbrev v176_34:VC:=(.seq (.ops o176_15) v176_33)
abbrev v176_35:VC:=(.block 3 v176_34)
abbrev v176_36:VC:=(.seq (.seq (.ops o176_13) v176_14) v176_35)
-- K176_2: changed and kept: [6]
abbrev K176_2:List Nat:=[0,1,2]
abbrev v176_37:VC:=(.loop v176_36)
abbrev v176_38:VC:=(.block 2 v176_37)
abbrev v176_39:VC:=(.seq (.ops o176_12) v176_38)
abbrev v176_40:VC:=(.seq (.block 0 v176_11) v176_39)
abbrev v176_41:VC:=(.seq (.ops o176_1) v176_40)
def ir176:FC:=⟨3,63,[],(.seq (.ops o176_0) v176_41)⟩
abbrev o143_0:List Ins:=[JS 4 (Jm 0),JS 5 (Jm 0),JS 6 (Jn 5),JS 7 (Jm 1),JS 8 (Jc 176 [.t 4,.t 6,.t 7])]
def ir143:FC:=⟨2,9,[],(.ops o143_0)⟩
abbrev o52_0:List Ins:=[JS 2 (.mv (.k J0))]
abbrev o52_1:List Ins:=[JS 3 (Jm 0),JS 4 (.nils false (.t 3))]
abbrev o52_2:List Ins:=[JS 2 (.mv (.k J0))]
abbrev v52_3:VC:=(.seq (.ops o52_2) .ret)
abbrev v52_4:VC:=(.cond (.t 4) v52_3 .skip)
abbrev o52_5:List Ins:=[JS 5 (.bsl 48 2 []),JS 6 (Jm 0),JS 7 (.app 48 2 16 (.t 5) (.t 6)),JS 2 (Jm 7)]
abbrev v52_6:VC:=(.seq (.ops o52_5) .ret)
abbrev v52_7:VC:=(.seq (.seq (.ops o52_1) v52_4) v52_6)
def ir52:FC:=⟨1,8,[.t 2],(.seq (.ops o52_0) v52_7)⟩
theorem c144:compM Tryz.prog [] 144 = some ir144:=by kernel_rfl
theorem c201:compM Tryz.prog [] 201 = some ir201:=by kernel_rfl
theorem c176:compM Tryz.prog [] 176 = some ir176:=by kernel_rfl
theorem c143:compM Tryz.prog [] 143 = some ir143:=by kernel_rfl
theorem c52:compM Tryz.prog [] 52 = some ir52:=by kernel_rfl
attribute [local go_sem] Nat.reduceEqDiff Nat.reduceAdd Nat.reduceMul reduceIte Nat.reduceLeDiff Nat.reduceLT Nat.reduceBEq reduceCtorEq
theorem cmp70 (a b:Pr) (ha:0 ≤ a.time ∧ a.time ≤ 9999) (hb:0 ≤ b.time ∧ b.time ≤ 9999):FSpec Tryz.prog 144 [.agg [iv a.side,iv a.time],.agg [iv b.side,iv b.time]] (iv (a.time - b.time)):=by
 have w1:=w64 (n:=a.time - b.time) (by omega) (by omega)
 refine FSpec_of c144 (Nat.le_refl _) (by decide) fun C hP hN hC hL => ?_; rw [init_st]
 simp only [ir144]
 (repeat ((first | refine Va ?_ | refine Vb ?_ | refine Vc ?_ | refine Vd ?_ | refine Ve ?_ | refine Vf ?_); (try simp only [go_sem,hP,w1]); (repeat refine qJ ?_)))
 (refine WV_ret ?_; simp only [thenQ,inQ,RetQ,RetOk,resAll,resA]; simp only [go_sem,tupA,AV.port,AV.portL,exists_eq_left']; (first | exact AVle.of rfl | refine AVle.of ?_ | skip))
theorem arr_len (L:List Pr) (π:List Nat):(arr L π).length = π.length:=by simp [arr]
theorem arr_get {L:List Pr} {π:List Nat} {i k:Nat} (h:π[i]? = some k) (hi:i < (arr L π).length):(arr L π)[i] = L.getD k default:=by
 have h2:(arr L π)[i]? = some (L.getD k default):=by simp [arr,h]
 exact (List.getElem?_eq_some_iff.1 h2).2
theorem arr_set (L:List Pr) (π:List Nat) (i k:Nat):(arr L π).set i (L.getD k default) = arr L (π.set i k):=by
 simp [arr,List.map_set]
theorem arr_range (L:List Pr):arr L (List.range L.length) = L:=by
 apply List.ext_getElem (by simp [arr])
 intro i h1 h2
 simp [arr,h2]
theorem put2 {α:Type} {cds:α → List CD} (hm:∀ a,(cds a).length = 2) {l:List α} {k:Nat} (h:k < l.length) (j:Nat) (a:α) {x y:CD} (ha:cds a = [x,y]) :
  (cellsG cds l j).take (k * 2) ++ AV.c x :: AV.c y :: (cellsG cds l j).drop (k * 2 + 2) = cellsG cds (l.set k a) j:=cellsG_two hm h j a ha
set_option maxRecDepth 20000 in
set_option maxHeartbeats 8000000 in
theorem ins87 {L:List Pr} {n cap jk:Nat} (hn:0 < n) (hn20:n ≤ 20) (hl0:L.length = n) (ht:∀ p ∈ L,0 ≤ p.time ∧ p.time ≤ 9999) :
  FSpecL Tryz.prog 201 [.vw 2 1000 0 n cap,iv 0,iv n,.fn 144 []] [.box (cellsG Pr.cds L jk)] [] (fun res l' => res = .tup [] ∧ ∃ l,Ordered (keyT L) n l ∧ l' = [.box (cellsG Pr.cds (arr L l) jk)]):=by
 have w0:IntKind.i64.wrap (0 + 1) = 1:=by decide
 have hti:∀ i,i < n → 0 ≤ (L.getD i default).time ∧ (L.getD i default).time ≤ 9999:=fun i hi => by
  have hiL:i < L.length:=by omega
  have:=ht _ (List.getElem_mem hiL)
  have e:L.getD i default = L[i]:=by simp [*]
  rw [e]; exact this
 have hL0:cellsG Pr.cds L jk = cellsG Pr.cds (arr L (List.range n)) jk:=by rw [← hl0,arr_range]
 rw [hL0]
 refine FSpecL_of c201 (by first | simp | exact Nat.le_of_ble_eq_true rfl) (Nat.le_refl _) (by decide) (by decide) fun C hP hN hC hL => ?_; rw [init_env',ownW_upd (by first | simp | exact Nat.le_of_ble_eq_true rfl)]; simp only [ir201,updL,updLo,List.map_nil,List.map_cons,Nat.reduceAdd,]
 (repeat ((first | refine Va ?_ | refine Vb ?_ | refine Vc ?_ | refine Vd ?_ | refine Ve ?_ | refine Vf ?_); (try simp only [go_sem,hP,w0]); (repeat refine qJ ?_)))
 refine WV_loopK K201_1 [1000] (fun p:Nat × List Nat => 1 ≤ p.1 ∧ p.1 ≤ n ∧ SortI (keyT L) n p.1 p.2) (fun p => n - p.1) (fun p => [(8,iv p.1)]) (fun p => [(1000,.box (cellsG Pr.cds (arr L p.2) jk))]) (1,List.range n) ⟨Nat.le_refl _,hn,SortI.first (keyT L) hn⟩ ?_ ?_
 ·exact Sub_au
 ·rintro ⟨i,l⟩ ⟨h1,h2,hs⟩
  simp only at h1 h2 hs
  have hl:=hs.len
  simp only [go_sem]
  (repeat ((first | refine Va ?_ | refine Vb ?_ | refine Vc ?_ | refine Vd ?_ | refine Ve ?_ | refine Vf ?_); (try simp only [go_sem,hP]); (repeat refine qJ ?_)))
  (refine WV_cond rfl (fun h => ?_) (fun h => ?_))
  ·have hi:i < n:=by simpa using h
   (repeat ((first | refine Va ?_ | refine Vb ?_ | refine Vc ?_ | refine Vd ?_ | refine Ve ?_ | refine Vf ?_); (try simp only [go_sem,hP]); (repeat refine qJ ?_)))
   refine WV_loopK K201_2 [1000] (fun j:Nat => j ≤ i ∧ ∀ t x,j ≤ t → t < i → l[t]? = some x → keyT L x < keyT L i) (fun j => j) (fun j => [(9,iv j)]) (fun j => [(1000,.box (cellsG Pr.cds (arr L (mv l i j)) jk))]) i ⟨Nat.le_refl _,fun t x h3 h4 => by omega⟩ ?_ ?_
   ·rw [mv_self (by omega)]
    exact Sub_au
   ·rintro j ⟨hj,hd⟩
    have hgi:l[i]? = some i:=hs.rest i (Nat.le_refl _) hi
    have hmi:(mv l i j)[j]? = some i:=by rw [mv_get (by omega) hj,if_neg (by omega),if_pos rfl,hgi]
    have hlm:(arr L (mv l i j)).length = n:=by rw [arr_len,mv_len (by omega) hj,hl]
    simp only [go_sem]
    cases j with
    | zero =>
     have hd0:decide ((0:Int) < ((0:Nat):Int)) = false:=by simp
     (repeat ((first | refine Va ?_ | refine Vb ?_ | refine Vc ?_ | refine Vd ?_ | refine Ve ?_ | refine Vf ?_); (try simp only [go_sem,hP,hd0]); (repeat refine qJ ?_)))
     refine Or.inr (Or.inr ?_)
     (refine WV_cond rfl (fun h => ?_) (fun h => ?_))
     ·simp at h
     ·have hs':=hs.step hi (Nat.zero_le _) (fun t x _ h4 h5 => hd t x (Nat.zero_le _) h4 h5) (fun x h6 => by omega)
      have w1:=w64 (n:=(i:Int) + 1) (by omega) (by omega)
      (repeat ((first | refine Va ?_ | refine Vb ?_ | refine Vc ?_ | refine Vd ?_ | refine Ve ?_ | refine Vf ?_); (try simp only [go_sem,hP,w1]); (repeat refine qJ ?_)))
      refine ⟨(i + 1,mv l i 0),⟨by simp only; omega,by simp only; omega,hs'⟩,by simp only; omega,?_⟩
      exact Sub_au
    | succ j =>
     have hjl:j < l.length:=by omega
     have hgj:l[j]? = some l[j]:=List.getElem?_eq_getElem hjl
     have hjn:=hs.lt (t:=j) (by omega) h2 hgj
     have hmj:(mv l i (j + 1))[j]? = some l[j]:=by rw [mv_get (by omega) hj,if_pos (by omega),hgj]
     have hlen0:j + 1 < (arr L (mv l i (j + 1))).length:=by omega
     have hlen1:j < (arr L (mv l i (j + 1))).length:=by omega
     have g1:=cellsG_elem pr_two hlen0 jk
     rw [arr_get hmi hlen0] at g1
     have g2:=cellsG_elem pr_two hlen1 jk
     rw [arr_get hmj hlen1] at g2
     have w1:=w64 (n:=(j:Int)) (by omega) (by omega)
     have e1:(((j + 1:Nat):Int) - 1) = (j:Int):=by omega
     have hjlt:j < n:=by omega
     have hj1:j + 1 < n:=by omega
     have hcl:=cellsG_len pr_two (arr L (mv l i (j + 1))) jk
     have hq1:(j + 1) * 2 + 2 ≤ (cellsG Pr.cds (arr L (mv l i (j + 1))) jk).length:=by rw [hcl,hlm]; omega
     have hq2:j * 2 + 2 ≤ (cellsG Pr.cds (arr L (mv l i (j + 1))) jk).length:=by rw [hcl,hlm]; omega
     have p1:=put2 pr_two hlen0 jk (L.getD l[j] default) rfl
     rw [arr_set] at p1
     have hlen2:j < (arr L ((mv l i (j + 1)).set (j + 1) l[j])).length:=by rw [arr_len,List.length_set,mv_len (by omega) hj]; omega
     have p2:=put2 pr_two hlen2 jk (L.getD i default) rfl
     rw [arr_set,mv_step (by omega) (by omega) i l[j] hgi hgj] at p2
     have hq3:j * 2 + 2 ≤ (cellsG Pr.cds (arr L ((mv l i (j + 1)).set (j + 1) l[j])) jk).length:=by rw [cellsG_len pr_two,arr_len,List.length_set,mv_len (by omega) hj]; omega
     have hdj:decide (0 < ((j + 1:Nat):Int)) = true:=by simp
     have ht0:(((j + 1:Nat):Int)).toNat = j + 1:=by omega
     have hlt1:((j + 1:Nat):Int) < (n:Int):=by omega
     have hlt2:(j:Int) < (n:Int):=by omega
     have hc:=cmp70 (L.getD i default) (L.getD l[j] default) (hti i hi) (hti l[j] (by omega))
     have hcc:decide ((L.getD i default).time - (L.getD l[j] default).time < 0) = decide (keyT L l[j] < keyT L i):=by
      unfold keyT
      rw [Bool.eq_iff_iff]; simp; omega
     have hk1:keyT L i = - (L.getD i default).time:=rfl
     generalize L.getD i default = A at *
     generalize L.getD l[j] default = B at *
     (repeat ((first | refine Va ?_ | refine Vb ?_ | refine Vc ?_ | refine Vd ?_ | refine Ve ?_ | refine Vf ?_); (try simp only [go_sem,hP,w1,e1,hdj,ht0,g1,g2,hq1,hq2,hlt1,hlt2,Pr.cds]); (repeat refine qJ ?_)))
     refine AG_pure (fun _ => hc) rfl (fun _ => rfl) rfl rfl rfl ?_
     simp only [go_sem,hP]
     (repeat ((first | refine Va ?_ | refine Vb ?_ | refine Vc ?_ | refine Vd ?_ | refine Ve ?_ | refine Vf ?_); (try simp only [go_sem,hP]); (repeat refine qJ ?_)))
     rw [hcc]
     (refine WV_cond rfl (fun h => ?_) (fun h => ?_))
     ·have h:keyT L l[j] < keyT L i:=by simpa using h
      (repeat ((first | refine Va ?_ | refine Vb ?_ | refine Vc ?_ | refine Vd ?_ | refine Ve ?_ | refine Vf ?_); (try simp only [go_sem,hP,w1,e1,ht0,g1,g2,hq1,hq2,hq3,hlt1,hlt2,p1,p2,Pr.cds]); (repeat refine qJ ?_)))
      refine ⟨j,⟨by omega,fun t x h3 h4 h5 => ?_⟩,by omega,?_⟩
      ·by_cases htj:t = j
       ·subst htj; rw [hgj] at h5; cases h5; exact h
       ·exact hd t x (by omega) h4 h5
      ·exact Sub_au
     ·have h:¬ keyT L l[j] < keyT L i:=by simpa using h
      have hs':=hs.step (j:=j + 1) hi hj hd (fun x _ hx => by rw [Nat.add_sub_cancel,hgj] at hx; cases hx; omega)
      have w2:=w64 (n:=(i:Int) + 1) (by omega) (by omega)
      (repeat ((first | refine Va ?_ | refine Vb ?_ | refine Vc ?_ | refine Vd ?_ | refine Ve ?_ | refine Vf ?_); (try simp only [go_sem,hP,w2]); (repeat refine qJ ?_)))
      refine ⟨(i + 1,mv l i (j + 1)),⟨by simp only; omega,by simp only; omega,hs'⟩,by simp only; omega,?_⟩
      exact Sub_au
  ·have h:i = n:=by simp at h; omega
   subst h
   (refine WV_exit ?_; simp only [go_sem])
   ((try simp only [thenQ,inQ,RetQL,RetOkL,resAll,resA]); (try simp only [go_sem,tupA,AV.keepP,AV.keepPL]); refine ⟨_,[.box (cellsG Pr.cds (arr L l) jk)],rfl,KeepL_mk rfl rfl ?_ ?_ rfl,?_⟩)
   ·simp only [go_sem,keepAll,Ob.keepP]
   ·simp only [go_sem,winAll]
   ·exact ⟨rfl,_,hs.done (Nat.le_refl _),rfl⟩
set_option maxHeartbeats 4000000 in
theorem stable80 {L:List Pr} {n cap jk:Nat} (hn:0 < n) (hn20:n < 20) (hl0:L.length = n) (ht:∀ p ∈ L,0 ≤ p.time ∧ p.time ≤ 9999) :
  FSpecL Tryz.prog 176 [.vw 2 1000 0 n cap,iv n,.fn 144 []] [.box (cellsG Pr.cds L jk)] [] (fun res l' => res = .tup [] ∧ ∃ l,Ordered (keyT L) n l ∧ l' = [.box (cellsG Pr.cds (arr L l) jk)]):=by
 refine FSpecL_of c176 (by first | simp | exact Nat.le_of_ble_eq_true rfl) (Nat.le_refl _) (by decide) (by decide) fun C hP hN hC hL => ?_; rw [init_env',ownW_upd (by first | simp | exact Nat.le_of_ble_eq_true rfl)]; simp only [ir176,updL,updLo,List.map_nil,List.map_cons,Nat.reduceAdd,]
 (repeat ((first | refine Va ?_ | refine Vb ?_ | refine Vc ?_ | refine Vd ?_ | refine Ve ?_ | refine Vf ?_); (try simp only [go_sem,hP]); (repeat refine qJ ?_)))
 refine WV_loopK K176_1 [1000] (fun _:Unit => True) (fun _ => 0) (fun _ => [(7,iv 0),(8,iv 20)]) (fun _ => [(1000,.box (cellsG Pr.cds L jk))]) () trivial ?_ ?_
 ·exact Sub_au
 ·rintro - -
  simp only [go_sem]
  (repeat ((first | refine Va ?_ | refine Vb ?_ | refine Vc ?_ | refine Vd ?_ | refine Ve ?_ | refine Vf ?_); (try simp only [go_sem,hP]); (repeat refine qJ ?_)))
  (refine WV_cond rfl (fun h => ?_) (fun h => ?_))
  ·have h:(20:Int) ≤ n:=by simpa using h
   omega
  ·(refine WV_exit ?_; simp only [go_sem])
   (repeat ((first | refine Va ?_ | refine Vb ?_ | refine Vc ?_ | refine Vd ?_ | refine Ve ?_ | refine Vf ?_); (try simp only [go_sem,hP]); (repeat refine qJ ?_)))
   refine AS_lend [1000] (ins87 (jk:=jk) hn (by omega) hl0 ht) rfl rfl rfl (by decide) rfl ?_ ?_
   ·simp only [go_sem,obsLend,Ob.lend]
   ·rintro r l' ⟨rfl,l,hl,rfl⟩
    refine ⟨_,_,rfl,by simp only [obsBack,Ob.back,back_cellsG]; rfl,?_⟩
    simp only [go_sem,hP,ownBack]
    (repeat ((first | refine Va ?_ | refine Vb ?_ | refine Vc ?_ | refine Vd ?_ | refine Ve ?_ | refine Vf ?_); (try simp only [go_sem,hP]); (repeat refine qJ ?_)))
    refine WV_loopK K176_2 [1000] (fun _:Unit => True) (fun _ => 0) (fun _ => [(6,iv 20)]) (fun _ => [(1000,.box (cellsG Pr.cds (arr L l) jk))]) () trivial ?_ ?_
    ·exact Sub_au
    ·rintro - -
     simp only [go_sem]
     (repeat ((first | refine Va ?_ | refine Vb ?_ | refine Vc ?_ | refine Vd ?_ | refine Ve ?_ | refine Vf ?_); (try simp only [go_sem,hP]); (repeat refine qJ ?_)))
     (refine WV_cond rfl (fun h => ?_) (fun h => ?_))
     ·have h:(20:Int) < n:=by simpa using h
      omega
     ·(refine WV_exit ?_; simp only [go_sem])
      ((try simp only [thenQ,inQ,RetQL,RetOkL,resAll,resA]); (try simp only [go_sem,tupA,AV.keepP,AV.keepPL]); refine ⟨_,[.box (cellsG Pr.cds (arr L l) jk)],rfl,KeepL_mk rfl rfl ?_ ?_ rfl,?_⟩)
      ·simp only [go_sem,keepAll,Ob.keepP]
      ·simp only [go_sem,winAll]
      ·exact ⟨rfl,_,hl,rfl⟩
theorem sort69 {L:List Pr} {n cap jk:Nat} (hn:0 < n) (hn20:n < 20) (hl0:L.length = n) (ht:∀ p ∈ L,0 ≤ p.time ∧ p.time ≤ 9999) :
  FSpecL Tryz.prog 143 [.vw 2 1000 0 n cap,.fn 144 []] [.box (cellsG Pr.cds L jk)] [] (fun res l' => res = .tup [] ∧ ∃ l,Ordered (keyT L) n l ∧ l' = [.box (cellsG Pr.cds (arr L l) jk)]):=by
 refine FSpecL_of c143 (by first | simp | exact Nat.le_of_ble_eq_true rfl) (Nat.le_refl _) (by decide) (by decide) fun C hP hN hC hL => ?_; rw [init_env',ownW_upd (by first | simp | exact Nat.le_of_ble_eq_true rfl)]; simp only [ir143,updL,updLo,List.map_nil,List.map_cons,Nat.reduceAdd,]
 (repeat ((first | refine Va ?_ | refine Vb ?_ | refine Vc ?_ | refine Vd ?_ | refine Ve ?_ | refine Vf ?_); (try simp only [go_sem,hP]); (repeat refine qJ ?_)))
 refine AS_lend [1000] (stable80 (jk:=jk) hn hn20 hl0 ht) rfl rfl rfl (by decide) rfl ?_ ?_
 ·simp only [go_sem,obsLend,Ob.lend]
 ·rintro r l' ⟨rfl,l,hl,rfl⟩
  refine ⟨_,_,rfl,by simp only [obsBack,Ob.back,back_cellsG]; rfl,?_⟩
  simp only [go_sem,hP,ownBack]
  ((try simp only [thenQ,inQ,RetQL,RetOkL,resAll,resA]); (try simp only [go_sem,tupA,AV.keepP,AV.keepPL]); refine ⟨_,[.box (cellsG Pr.cds (arr L l) jk)],rfl,KeepL_mk rfl rfl ?_ ?_ rfl,?_⟩)
  ·simp only [go_sem,keepAll,Ob.keepP]
  ·simp only [go_sem,winAll]
  ·exact ⟨rfl,_,hl,rfl⟩
theorem clone56 (l:List Pr) (hl:l.length ≤ 1000):FSpec Tryz.prog 52 [.c (prsC l)] (.c (prsC l)):=by
 have hmax:maxLen = 9223372036854775807:=rfl
 refine FSpec_of c52 (Nat.le_refl _) (by decide) fun C hP hN hC hL => ?_; rw [init_st]
 simp only [ir52,prsC]
 cases l with
 | nil =>
  (repeat ((first | refine Va ?_ | refine Vb ?_ | refine Vc ?_ | refine Vd ?_ | refine Ve ?_ | refine Vf ?_); (try simp only [go_sem,hP]); (repeat refine qJ ?_)))
  intro b
  (repeat ((first | refine Va ?_ | refine Vb ?_ | refine Vc ?_ | refine Vd ?_ | refine Ve ?_ | refine Vf ?_); (try simp only [go_sem,hP]); (repeat refine qJ ?_)))
  cases b
  ·(refine WV_cond rfl (fun h => ?_) (fun h => ?_))
   ·simp at h
   ·(repeat ((first | refine Va ?_ | refine Vb ?_ | refine Vc ?_ | refine Vd ?_ | refine Ve ?_ | refine Vf ?_); (try simp only [go_sem,hP,List.all_nil]); (repeat refine qJ ?_)))
    (refine WV_ret ?_; simp only [thenQ,inQ,RetQ,RetOk,resAll,resA]; simp only [go_sem,tupA,AV.port,AV.portL,exists_eq_left']; (first | exact AVle.of rfl | refine AVle.of ?_ | skip))
  ·(refine WV_cond rfl (fun h => ?_) (fun h => ?_))
   ·(repeat ((first | refine Va ?_ | refine Vb ?_ | refine Vc ?_ | refine Vd ?_ | refine Ve ?_ | refine Vf ?_); (try simp only [go_sem,hP]); (repeat refine qJ ?_)))
    (refine WV_ret ?_; simp only [thenQ,inQ,RetQ,RetOk,resAll,resA]; simp only [go_sem,tupA,AV.port,AV.portL,exists_eq_left'])
    exact AVle.nil 2
   ·simp at h
 | cons a l =>
  (repeat ((first | refine Va ?_ | refine Vb ?_ | refine Vc ?_ | refine Vd ?_ | refine Ve ?_ | refine Vf ?_); (try simp only [go_sem,hP]); (repeat refine qJ ?_)))
  (refine WV_cond rfl (fun h => ?_) (fun h => ?_))
  ·simp at h
  ·clear h
   have hp:=prs_two (a :: l)
   simp only [List.map_cons] at hp
   have hlen:l.length + 1 ≤ 1000:=hl
   (repeat ((first | refine Va ?_ | refine Vb ?_ | refine Vc ?_ | refine Vd ?_ | refine Ve ?_ | refine Vf ?_); (try simp only [go_sem,hP,hp,List.length_cons]); (repeat refine qJ ?_)))
   (refine WV_ret ?_; simp only [thenQ,inQ,RetQ,RetOk,resAll,resA]; simp only [go_sem,tupA,AV.port,AV.portL,exists_eq_left']; (first | exact AVle.of rfl | refine AVle.of ?_ | skip))
namespace W
abbrev o52_0:List Ins:=[JS 2 (.mv (.k J0))]
abbrev o52_1:List Ins:=[JS 3 (Jm 0),JS 4 (.nils false (.t 3))]
abbrev o52_2:List Ins:=[JS 2 (.mv (.k J0))]
abbrev v52_3:VC:=(.seq (.ops o52_2) .ret)
abbrev v52_4:VC:=(.cond (.t 4) v52_3 .skip)
abbrev o52_5:List Ins:=[JS 5 (.bsl 48 2 []),JS 6 (Jm 0),JS 7 (.appv 48 2 16 (.t 5) (.t 6)),JS 2 (Jm 7)]
abbrev v52_6:VC:=(.seq (.ops o52_5) .ret)
abbrev v52_7:VC:=(.seq (.seq (.ops o52_1) v52_4) v52_6)
def ir52:FC:=⟨1,8,[.t 2],(.seq (.ops o52_0) v52_7)⟩
theorem c52:compM Tryz.prog [100007] 52 = some ir52:=by kernel_rfl
end W
def postV (S:List Pr) (res:AV) (os:List Ob):Prop:=∃ cap j,S.length ≤ cap ∧ cap ≤ maxLen ∧ cap * 2 ≤ S.length * 2 + j ∧ res = .vw 2 1000 0 S.length cap ∧ os = [.box (cellsG Pr.cds S j)]
theorem cloneN56 (l:List Pr) (hl:l.length ≤ 1000) (hne:l ≠ []):FSpecN Tryz.prog 52 [.c (prsC l)] (postV l):=by
 have hmax:maxLen = 9223372036854775807:=rfl
 refine FSpecN_of W.c52 (Nat.le_refl _) (by decide) fun C hP hN hC hL => ?_
 obtain ⟨a,l,rfl⟩:=List.exists_cons_of_ne_nil hne
 simp only [W.ir52,prsC]
 (repeat ((first | refine Va ?_ | refine Vb ?_ | refine Vc ?_ | refine Vd ?_ | refine Ve ?_ | refine Vf ?_); (try simp only [go_sem,hP]); (repeat refine qJ ?_)))
 (refine WV_cond rfl (fun h => ?_) (fun h => ?_))
 ·simp at h
 ·clear h
  have hp:=prs_two (a :: l)
  simp only [List.map_cons] at hp
  have hlen:l.length + 1 ≤ 1000:=hl
  (repeat ((first | refine Va ?_ | refine Vb ?_ | refine Vc ?_ | refine Vd ?_ | refine Ve ?_ | refine Vf ?_); (try simp only [go_sem,hP,hp,List.length_cons]); (repeat refine qJ ?_)))
  intro cap j h1 h2 h3
  have ecell:List.map AV.c (a.cds :: List.map Pr.cds l).flatten ++ List.replicate j AV.non = cellsG Pr.cds (a :: l) j:=rfl
  simp only [ecell]
  (repeat ((first | refine Va ?_ | refine Vb ?_ | refine Vc ?_ | refine Vd ?_ | refine Ve ?_ | refine Vf ?_); (try simp only [go_sem,hP]); (repeat refine qJ ?_)))
  (refine WV_ret ?_; simp only [thenQ,inQ,RetQN,RetOkN,resAll,resA]; simp only [go_sem,tupA])
  refine ⟨[7],.vw 2 1000 0 (a :: l).length cap,_,[.box (cellsG Pr.cds (a :: l) j)],by decide,by decide,?_,AVle.of rfl,?_,cap,j,?_,h2,?_,rfl,rfl⟩
  ·simp only [go_sem,AV.lend,AV.lendL,List.length_cons]
  ·simp only [go_sem,obsLend,Ob.lend]
  ·simpa using h1
  ·simpa using h3
end Go.Proofs.YtefoconkepmmgaaGreatDoor

namespace Go.Proofs.YtefoconkepmmgaaGreatDoor
open Go Go.V
namespace W
abbrev o50_0:List Ins:=[JS 2 (.mv (.k J0))]
abbrev o50_1:List Ins:=[JS 3 (Jm 0),JS 4 (.nils false (.t 3))]
abbrev o50_2:List Ins:=[JS 2 (.mv (.k J0))]
abbrev v50_3:VC:=(.seq (.ops o50_2) .ret)
abbrev v50_4:VC:=(.cond (.t 4) v50_3 .skip)
abbrev o50_5:List Ins:=[JS 5 (.bsl 3 1 []),JS 6 (Jm 0),JS 7 (.appv 3 1 8 (.t 5) (.t 6)),JS 2 (Jm 7)]
abbrev v50_6:VC:=(.seq (.ops o50_5) .ret)
abbrev v50_7:VC:=(.seq (.seq (.ops o50_1) v50_4) v50_6)
def ir50:FC:=⟨1,8,[.t 2],(.seq (.ops o50_0) v50_7)⟩
theorem c50:compM Tryz.prog [100007] 50 = some ir50:=by kernel_rfl
end W
abbrev o50_0:List Ins:=[JS 2 (.mv (.k J0))]
abbrev o50_1:List Ins:=[JS 3 (Jm 0),JS 4 (.nils false (.t 3))]
abbrev o50_2:List Ins:=[JS 2 (.mv (.k J0))]
abbrev v50_3:VC:=(.seq (.ops o50_2) .ret)
abbrev v50_4:VC:=(.cond (.t 4) v50_3 .skip)
abbrev o50_5:List Ins:=[JS 5 (.bsl 3 1 []),JS 6 (Jm 0),JS 7 (.app 3 1 8 (.t 5) (.t 6)),JS 2 (Jm 7)]
abbrev v50_6:VC:=(.seq (.ops o50_5) .ret)
abbrev v50_7:VC:=(.seq (.seq (.ops o50_1) v50_4) v50_6)
def ir50:FC:=⟨1,8,[.t 2],(.seq (.ops o50_0) v50_7)⟩
theorem c50:compM Tryz.prog [] 50 = some ir50:=by kernel_rfl
attribute [local go_sem] Nat.reduceEqDiff Nat.reduceAdd Nat.reduceMul reduceIte Nat.reduceLeDiff Nat.reduceLT Nat.reduceBEq reduceCtorEq
def zc (n:Int):List CD:=[.int .i64 n]
def vj (l:List Int) (j:Nat):List AV:=l.map iv ++ List.replicate j .non
theorem zc_len (l:List Int):(l.map fun n => [CD.int .i64 n]).flatten.length = l.length:=by
 induction l with
 | nil => rfl
 | cons n l ih => simp only [List.map_cons,List.flatten_cons,List.length_append,ih,List.length_cons,List.length_nil]; omega
theorem clone50 (l:List Int) (hl:l.length ≤ 1000):FSpec Tryz.prog 50 [.c (ints l)] (.c (ints l)):=by
 have hmax:maxLen = 9223372036854775807:=rfl
 refine FSpec_of c50 (Nat.le_refl _) (by decide) fun C hP hN hC hL => ?_; rw [init_st]
 simp only [ir50,ints]
 cases l with
 | nil =>
  (repeat ((first | refine Va ?_ | refine Vb ?_ | refine Vc ?_ | refine Vd ?_ | refine Ve ?_ | refine Vf ?_); (try simp only [go_sem,hP]); (repeat refine qJ ?_)))
  intro b
  (repeat ((first | refine Va ?_ | refine Vb ?_ | refine Vc ?_ | refine Vd ?_ | refine Ve ?_ | refine Vf ?_); (try simp only [go_sem,hP]); (repeat refine qJ ?_)))
  cases b
  ·(refine WV_cond rfl (fun h => ?_) (fun h => ?_))
   ·simp at h
   ·(repeat ((first | refine Va ?_ | refine Vb ?_ | refine Vc ?_ | refine Vd ?_ | refine Ve ?_ | refine Vf ?_); (try simp only [go_sem,hP,List.all_nil]); (repeat refine qJ ?_)))
    (refine WV_ret ?_; simp only [thenQ,inQ,RetQ,RetOk,resAll,resA]; simp only [go_sem,tupA,AV.port,AV.portL,exists_eq_left']; (first | exact AVle.of rfl | refine AVle.of ?_ | skip))
  ·(refine WV_cond rfl (fun h => ?_) (fun h => ?_))
   ·(repeat ((first | refine Va ?_ | refine Vb ?_ | refine Vc ?_ | refine Vd ?_ | refine Ve ?_ | refine Vf ?_); (try simp only [go_sem,hP]); (repeat refine qJ ?_)))
    (refine WV_ret ?_; simp only [thenQ,inQ,RetQ,RetOk,resAll,resA]; simp only [go_sem,tupA,AV.port,AV.portL,exists_eq_left'])
    exact AVle.nil 1
   ·simp at h
 | cons a l =>
  (repeat ((first | refine Va ?_ | refine Vb ?_ | refine Vc ?_ | refine Vd ?_ | refine Ve ?_ | refine Vf ?_); (try simp only [go_sem,hP]); (repeat refine qJ ?_)))
  (refine WV_cond rfl (fun h => ?_) (fun h => ?_))
  ·simp at h
  ·clear h
   have hlen:l.length + 1 ≤ 1000:=hl
   have h1:(([CD.int .i64 a] :: l.map fun n => [CD.int .i64 n]).all fun e => e.length == 1) = true:=by
    rw [List.all_eq_true]; intro e he
    rcases List.mem_cons.1 he with rfl | he
    ·rfl
    ·obtain ⟨n,_,rfl⟩:=List.mem_map.1 he; rfl
   (repeat ((first | refine Va ?_ | refine Vb ?_ | refine Vc ?_ | refine Vd ?_ | refine Ve ?_ | refine Vf ?_); (try simp only [go_sem,hP,h1,List.length_cons,List.length_map]); (repeat refine qJ ?_)))
   (refine WV_ret ?_; simp only [thenQ,inQ,RetQ,RetOk,resAll,resA]; simp only [go_sem,tupA,AV.port,AV.portL,exists_eq_left']; (first | exact AVle.of rfl | refine AVle.of ?_ | skip))
def postI (S:List Int) (res:AV) (os:List Ob):Prop:=∃ cap j,S.length ≤ cap ∧ cap ≤ maxLen ∧ cap ≤ S.length + j ∧ res = .vw 1 1000 0 S.length cap ∧ os = [.box (cellsG zc S j)]
theorem cloneV50 (l:List Int) (hl:l.length ≤ 1000) (hne:l ≠ []):FSpecN Tryz.prog 50 [.c (ints l)] (postI l):=by
 have hmax:maxLen = 9223372036854775807:=rfl
 refine FSpecN_of W.c50 (Nat.le_refl _) (by decide) fun C hP hN hC hL => ?_
 obtain ⟨a,l,rfl⟩:=List.exists_cons_of_ne_nil hne
 simp only [W.ir50,ints]
 (repeat ((first | refine Va ?_ | refine Vb ?_ | refine Vc ?_ | refine Vd ?_ | refine Ve ?_ | refine Vf ?_); (try simp only [go_sem,hP]); (repeat refine qJ ?_)))
 (refine WV_cond rfl (fun h => ?_) (fun h => ?_))
 ·simp at h
 ·clear h
  have hlen:l.length + 1 ≤ 1000:=hl
  have h1:(([CD.int .i64 a] :: l.map fun n => [CD.int .i64 n]).all fun e => e.length == 1) = true:=by
   rw [List.all_eq_true]; intro e he
   rcases List.mem_cons.1 he with rfl | he
   ·rfl
   ·obtain ⟨n,_,rfl⟩:=List.mem_map.1 he; rfl
  (repeat ((first | refine Va ?_ | refine Vb ?_ | refine Vc ?_ | refine Vd ?_ | refine Ve ?_ | refine Vf ?_); (try simp only [go_sem,hP,h1,List.length_cons,List.length_map]); (repeat refine qJ ?_)))
  intro cap j h1 h2 h3
  have ecell:List.map AV.c ([CD.int .i64 a] :: l.map fun n => [CD.int .i64 n]).flatten ++ List.replicate j AV.non = cellsG zc (a :: l) j:=rfl
  simp only [ecell]
  (repeat ((first | refine Va ?_ | refine Vb ?_ | refine Vc ?_ | refine Vd ?_ | refine Ve ?_ | refine Vf ?_); (try simp only [go_sem,hP]); (repeat refine qJ ?_)))
  (refine WV_ret ?_; simp only [thenQ,inQ,RetQN,RetOkN,resAll,resA]; simp only [go_sem,tupA])
  refine ⟨[7],.vw 1 1000 0 (a :: l).length cap,_,[.box (cellsG zc (a :: l) j)],by decide,by decide,?_,AVle.of rfl,?_,cap,j,?_,h2,?_,rfl,rfl⟩
  ·simp only [go_sem,AV.lend,AV.lendL,List.length_cons]
  ·simp only [go_sem,obsLend,Ob.lend]
  ·simpa using h1
  ·simpa using h3
theorem cloneP52 (l:List Pr) (hlen:l.length ≤ 1000):FSpecN Tryz.prog 52 [.c (prsC l)] (fun r os => r = .gr 1000 ∧ os = [.grow 48 2 (l.map Pr.cds)]):=by
 have hmax:maxLen = 9223372036854775807:=rfl
 refine FSpecN_of c52 (Nat.le_refl _) (by decide) fun C hP hN hC hL => ?_; rw [init_st]
 simp only [ir52,prsC]
 cases l with
 | nil =>
  (repeat ((first | refine Va ?_ | refine Vb ?_ | refine Vc ?_ | refine Vd ?_ | refine Ve ?_ | refine Vf ?_); (try simp only [go_sem,hP]); (repeat refine qJ ?_)))
  intro b
  (repeat ((first | refine Va ?_ | refine Vb ?_ | refine Vc ?_ | refine Vd ?_ | refine Ve ?_ | refine Vf ?_); (try simp only [go_sem,hP]); (repeat refine qJ ?_)))
  (refine WV_cond rfl (fun h => ?_) (fun h => ?_))
  ·refine WV_seq_ ?_
   (refine WV_op ?_; simp only [go_sem,hP]; (repeat refine qJ ?_))
   refine WV_nilslot 2 7 48 2 (by decide) (by decide) rfl rfl ?_
   simp only [go_sem]
   (refine WV_ret ?_; simp only [thenQ,inQ,RetQN,RetOkN,resAll,resA]; simp only [go_sem,tupA])
   exact ⟨[7],_,_,_,by simp,by simp,rfl,AVle.refl _,rfl,rfl,rfl⟩
  ·(repeat ((first | refine Va ?_ | refine Vb ?_ | refine Vc ?_ | refine Vd ?_ | refine Ve ?_ | refine Vf ?_); (try simp only [go_sem,hP]); (repeat refine qJ ?_)))
   (refine WV_ret ?_; simp only [thenQ,inQ,RetQN,RetOkN,resAll,resA]; simp only [go_sem,tupA])
   exact ⟨[7],_,_,_,by simp,by simp,rfl,AVle.refl _,rfl,rfl,rfl⟩
 | cons a l =>
  simp only [List.length_cons] at hlen
  (repeat ((first | refine Va ?_ | refine Vb ?_ | refine Vc ?_ | refine Vd ?_ | refine Ve ?_ | refine Vf ?_); (try simp only [go_sem,hP]); (repeat refine qJ ?_)))
  (refine WV_cond rfl (fun h => ?_) (fun h => ?_))
  ·cases h
  ·have hp:=prs_two (a :: l)
   simp only [List.map_cons] at hp
   (repeat ((first | refine Va ?_ | refine Vb ?_ | refine Vc ?_ | refine Vd ?_ | refine Ve ?_ | refine Vf ?_); (try simp only [go_sem,hP,hp,List.length_cons]); (repeat refine qJ ?_)))
   (refine WV_ret ?_; simp only [thenQ,inQ,RetQN,RetOkN,resAll,resA]; simp only [go_sem,tupA])
   exact ⟨[7],_,_,_,by simp,by simp,rfl,AVle.refl _,rfl,rfl,rfl⟩
end Go.Proofs.YtefoconkepmmgaaGreatDoor

namespace Go.Proofs.YtefoconkepmmgaaGreatDoor
open Go Go.V
abbrev o51_0:List Ins:=[JS 2 (.mv (.k J0))]
abbrev o51_1:List Ins:=[JS 3 (Jm 0),JS 4 (.nils false (.t 3))]
abbrev o51_2:List Ins:=[JS 2 (.mv (.k J0))]
abbrev v51_3:VC:=(.seq (.ops o51_2) .ret)
abbrev v51_4:VC:=(.cond (.t 4) v51_3 .skip)
abbrev o51_5:List Ins:=[JS 5 (.bsl 84 2 []),JS 6 (Jm 0),JS 7 (.app 84 2 16 (.t 5) (.t 6)),JS 2 (Jm 7)]
abbrev v51_6:VC:=(.seq (.ops o51_5) .ret)
abbrev v51_7:VC:=(.seq (.seq (.ops o51_1) v51_4) v51_6)
def ir51:FC:=⟨1,8,[.t 2],(.seq (.ops o51_0) v51_7)⟩
abbrev o26_0:List Ins:=[JS 1 (.box 15 (.t 0)),JS 2 (.alloc [Jz 0,J0,J0,J0,J0,J0,Jz 0,Jz 0,Jz 0,Jz 0,J0,Jz 0,Jz 0,Jz 0,J0])]
abbrev o26_1:List Ins:=[JS 5 (Jf 0 1),JS 6 (Jf 0 5),JS 7 (Jf 1 6),JS 8 (Jf 0 1),JS 9 (Jf 0 8),JS 10 (Jf 2 9),JS 11 (Jf 0 1),JS 12 (Jf 3 11),JS 13 (Jf 0 1),JS 14 (Jf 4 13),JS 15 (Jf 0 1),JS 16 (Jf 5 15),JS 17 (.raw (.build 90 #[(0,(.tmp 7)),(1,(.tmp 10)),(2,(.tmp 12)),(3,(.tmp 14)),(4,(.tmp 16))])),JS 18 (Ji 0)]
abbrev o26_2:List Ins:=[JS 19 (Jk .lss 18 5)]
abbrev o26_3:List Ins:=[JS 20 (.raw (.index 90 (.tmp 17) (.tmp 18))),JS 4 (Jm 20)]
abbrev o26_4:List Ins:=[JS 21 (Jm 4),JS 22 (Jm 4),JS 23 (.nilc (.t 22)),JS 24 (Jl 23),JS 25 (Jc 50 [.t 24]),JS 26 (.nilc (.t 21)),JN (Js 1 26 25)]
abbrev v26_5:VC:=(.seq (.ops o26_3) (.ops o26_4))
abbrev o26_6:List Ins:=[JS 27 (Jk .add 18 1),JS 18 (Jm 27)]
abbrev v26_7:VC:=(.seq (.block 1 v26_5) (.ops o26_6))
abbrev v26_8:VC:=(.seq (.cond (.t 19) .skip (.exit 0)) v26_7)
abbrev v26_9:VC:=(.seq (.ops o26_2) v26_8)
-- K26_1: changed and kept: [18]
abbrev v26_10:VC:=(.loop v26_9)
abbrev v26_11:VC:=(.block 0 v26_10)
abbrev o26_12:List Ins:=[JF 28 (Jf 10 1),JF 29 (Jf 0 28),JF 30 (Jl 29),JF 31 (Jc 51 [.t 30]),JF 32 (Jf 10 1),JF 33 (Jf 4 32),JF 34 (Jl 33),JS 35 (Jc 52 [.t 34]),JS 36 (Jf 10 1),JS 37 (Jf 0 36),JN (Js 1 37 31),JS 38 (Jf 10 1),JS 39 (Jf 4 38),JN (Js 1 39 35)]
abbrev o26_13:List Ins:=[JS 40 (JL 15 1),JN (Js 15 2 40)]
abbrev v26_14:VC:=(.seq (.ops o26_13) .ret)
abbrev v26_15:VC:=(.seq (.dops o26_12) v26_14)
abbrev v26_16:VC:=(.seq (.seq (.ops o26_1) v26_11) v26_15)
def ir26:FC:=⟨1,41,[.cell 2 false 15],(.seq (.ops o26_0) v26_16)⟩
theorem c51:compM Tryz.prog [] 51 = some ir51:=by kernel_rfl
theorem c26:compM Tryz.prog [35] 26 = some ir26:=by kernel_rfl
attribute [local go_sem] Nat.reduceEqDiff Nat.reduceAdd Nat.reduceMul reduceIte Nat.reduceLeDiff Nat.reduceLT Nat.reduceBEq reduceCtorEq
theorem clone51 (l:List Rec) (hl:l.length ≤ 1000):FSpec Tryz.prog 51 [.c (recsC l)] (.c (recsC l)):=by
 have hmax:maxLen = 9223372036854775807:=rfl
 refine FSpec_of c51 (Nat.le_refl _) (by decide) fun C hP hN hC hL => ?_; rw [init_st]
 simp only [ir51,recsC]
 cases l with
 | nil =>
  (repeat ((first | refine Va ?_ | refine Vb ?_ | refine Vc ?_ | refine Vd ?_ | refine Ve ?_ | refine Vf ?_); (try simp only [go_sem,hP]); (repeat refine qJ ?_)))
  intro b
  (repeat ((first | refine Va ?_ | refine Vb ?_ | refine Vc ?_ | refine Vd ?_ | refine Ve ?_ | refine Vf ?_); (try simp only [go_sem,hP]); (repeat refine qJ ?_)))
  cases b
  ·(refine WV_cond rfl (fun h => ?_) (fun h => ?_))
   ·simp at h
   ·(repeat ((first | refine Va ?_ | refine Vb ?_ | refine Vc ?_ | refine Vd ?_ | refine Ve ?_ | refine Vf ?_); (try simp only [go_sem,hP,List.all_nil]); (repeat refine qJ ?_)))
    (refine WV_ret ?_; simp only [thenQ,inQ,RetQ,RetOk,resAll,resA]; simp only [go_sem,tupA,AV.port,AV.portL,exists_eq_left']; (first | exact AVle.of rfl | refine AVle.of ?_ | skip))
  ·(refine WV_cond rfl (fun h => ?_) (fun h => ?_))
   ·(repeat ((first | refine Va ?_ | refine Vb ?_ | refine Vc ?_ | refine Vd ?_ | refine Ve ?_ | refine Vf ?_); (try simp only [go_sem,hP]); (repeat refine qJ ?_)))
    (refine WV_ret ?_; simp only [thenQ,inQ,RetQ,RetOk,resAll,resA]; simp only [go_sem,tupA,AV.port,AV.portL,exists_eq_left'])
    exact AVle.nil 2
   ·simp at h
 | cons a l =>
  (repeat ((first | refine Va ?_ | refine Vb ?_ | refine Vc ?_ | refine Vd ?_ | refine Ve ?_ | refine Vf ?_); (try simp only [go_sem,hP]); (repeat refine qJ ?_)))
  (refine WV_cond rfl (fun h => ?_) (fun h => ?_))
  ·simp at h
  ·clear h
   have hlen:l.length + 1 ≤ 1000:=hl
   have hp:((a.cds :: l.map Rec.cds).all fun e => e.length == 2) = true:=by
    rw [List.all_eq_true]; intro e he
    rcases List.mem_cons.1 he with rfl | he
    ·rfl
    ·obtain ⟨n,_,rfl⟩:=List.mem_map.1 he; rfl
   (repeat ((first | refine Va ?_ | refine Vb ?_ | refine Vc ?_ | refine Vd ?_ | refine Ve ?_ | refine Vf ?_); (try simp only [go_sem,hP,hp,List.length_cons,List.length_map]); (repeat refine qJ ?_)))
   (refine WV_ret ?_; simp only [thenQ,inQ,RetQ,RetOk,resAll,resA]; simp only [go_sem,tupA,AV.port,AV.portL,exists_eq_left']; (first | exact AVle.of rfl | refine AVle.of ?_ | skip))
structure BarLn (b:Bar):Prop where
 no:b.box.wh.no.length ≤ 1000
 co:b.box.wh.co.length ≤ 1000
 fo:b.box.fo.length ≤ 1000
 ma:b.box.ma.length ≤ 1000
 sl:b.box.sl.length ≤ 1000
 rc:b.tray.recs.length ≤ 1000
 pr:b.tray.pres.length ≤ 1000
def Bar.avsP (b:Bar) (p:AV):List AV:=[iv b.box.wh.ro,.c (ints b.box.wh.no),.c (ints b.box.wh.co),.c (ints b.box.fo),.c (ints b.box.ma),.c (ints b.box.sl),iv b.box.pl,iv b.box.sk,iv b.pl,iv b.cr,.c (recsC b.tray.recs),iv b.tray.at_,iv b.tray.way,iv b.tray.step,p]
set_option maxHeartbeats 1000000 in
theorem copied26 {b:Bar} (hb:BarLn b):FSpecN Tryz.prog 26 [b.av] (fun r os => r = .agg (b.avsP (.gr 1000)) ∧ os = [.grow 48 2 (b.tray.pres.map Pr.cds)]):=by
 refine FSpecN_of c26 (Nat.le_refl _) (by decide) fun C hP hN hC hL => ?_; rw [init_st]
 simp only [ir26,Bar.av,Bar.avs]
 (repeat ((first | refine Va ?_ | refine Vb ?_ | refine Vc ?_ | refine Vd ?_ | refine Ve ?_ | refine Vf ?_); (try simp only [go_sem,hP]); (repeat refine qJ ?_)))
 refine raw_bldA (e:=89) (n:=5) (sz:=1) (z:=List.replicate 5 (.c (.raw (.pointer none)))) (ps:=[(0,1,.t 7),(1,1,.t 10),(2,1,.t 12),(3,1,.t 14),(4,1,.t 16)]) (r:=[.bp 1 1,.bp 1 2,.bp 1 3,.bp 1 4,.bp 1 5]) (by kernel_rfl) (by kernel_rfl) (by kernel_rfl) rfl ?_ rfl ?_ ?_
 ·intro i q hq
  have:i = 0 ∨ i = 1 ∨ i = 2 ∨ i = 3 ∨ i = 4 ∨ 5 ≤ i:=by omega
  rcases this with rfl | rfl | rfl | rfl | rfl | h
  case inr.inr.inr.inr.inr => rw [List.getElem?_eq_none (by exact h)] at hq; cases hq
  all_goals (cases hq; exact ⟨_,rfl,rfl⟩)
 ·simp only [go_sem]
 simp only [go_sem,hP]
 (repeat ((first | refine Va ?_ | refine Vb ?_ | refine Vc ?_ | refine Vd ?_ | refine Ve ?_ | refine Vf ?_); (try simp only [go_sem,hP]); (repeat refine qJ ?_)))
 refine WV_loopS (fun k:Nat => ⟨upd (upd (upd (upd e0 1 (.bp 1 0)) 2 (.bp 2 0)) 17 (.agg [.bp 1 1,.bp 1 2,.bp 1 3,.bp 1 4,.bp 1 5])) 18 (iv k),upd (upd o0 1 (.box b.avs)) 2 (.box [iv 0,.c (.raw (.slice none 0 0)),.c (.raw (.slice none 0 0)),.c (.raw (.slice none 0 0)),.c (.raw (.slice none 0 0)),.c (.raw (.slice none 0 0)),iv 0,iv 0,iv 0,iv 0,.c (.raw (.slice none 0 0)),iv 0,iv 0,iv 0,.c (.raw (.slice none 0 0))])⟩) (fun k => k ≤ 5) (fun k => 5 - k) 0 (Nat.zero_le _) ?_ ?_
 ·refine Sub_of (by simp only [go_sem]; exact EnvLe_au) (by unfold Bar.avs; simp only [go_sem]; exact ObjLe_au)
 intro k hk
 unfold Bar.avs
 (repeat ((first | refine Va ?_ | refine Vb ?_ | refine Vc ?_ | refine Vd ?_ | refine Ve ?_ | refine Vf ?_); (try simp only [go_sem,hP]); (repeat refine qJ ?_)))
 (refine WV_cond rfl (fun h => ?_) (fun h => ?_))
 ·have hi:k < 5:=by simp at h; omega
  (refine WV_skip ?_; simp only [go_sem])
  refine WV_seq_ (WV_block (WV_seq_ ?_))
  have w1:=w64 (n:=(k:Int) + 1) (by omega) (by omega)
  have:k = 0 ∨ k = 1 ∨ k = 2 ∨ k = 3 ∨ k = 4:=by omega
  have h1:=clone50 _ hb.no
  have h2:=clone50 _ hb.co
  have h3:=clone50 _ hb.fo
  have h4:=clone50 _ hb.ma
  have h5:=clone50 _ hb.sl
  rcases this with rfl | rfl | rfl | rfl | rfl
  all_goals (
   (refine WV_op ?_; simp only [go_sem,hP]; (repeat refine qJ ?_))
   refine raw_idx1 (e:=89) (n:=5) (x':=.t 17) (i':=.t 18) (k:=.i64) (j:=_) (by kernel_rfl) (by kernel_rfl) (by kernel_rfl) rfl rfl rfl rfl rfl rfl (by omega) rfl ?_
   simp only [go_sem,hP]
   (repeat ((first | refine Va ?_ | refine Vb ?_ | refine Vc ?_ | refine Vd ?_ | refine Ve ?_ | refine Vf ?_); (try simp only [go_sem,hP]); (repeat refine qJ ?_)))
   first | refine AS_pu h1 ?_ | refine AS_pu h2 ?_ | refine AS_pu h3 ?_ | refine AS_pu h4 ?_ | refine AS_pu h5 ?_
   simp only [go_sem,hP]
   (repeat refine qJ ?_)
   (repeat ((first | refine Va ?_ | refine Vb ?_ | refine Vc ?_ | refine Vd ?_ | refine Ve ?_ | refine Vf ?_); (try simp only [go_sem,hP,w1]); (repeat refine qJ ?_))))
  all_goals (first | refine ⟨1,by omega,by omega,Sub_of (by simp only [go_sem]; exact EnvLe_au) (by simp only [go_sem]; exact ObjLe_au)⟩ | refine ⟨2,by omega,by omega,Sub_of (by simp only [go_sem]; exact EnvLe_au) (by simp only [go_sem]; exact ObjLe_au)⟩ | refine ⟨3,by omega,by omega,Sub_of (by simp only [go_sem]; exact EnvLe_au) (by simp only [go_sem]; exact ObjLe_au)⟩ | refine ⟨4,by omega,by omega,Sub_of (by simp only [go_sem]; exact EnvLe_au) (by simp only [go_sem]; exact ObjLe_au)⟩ | refine ⟨5,by omega,by omega,Sub_of (by simp only [go_sem]; exact EnvLe_au) (by simp only [go_sem]; exact ObjLe_au)⟩)
 ·have hk5:k = 5:=by simp at h; omega
  subst hk5
  have h6:=clone51 _ hb.rc
  (repeat ((first | refine Va ?_ | refine Vb ?_ | refine Vc ?_ | refine Vd ?_ | refine Ve ?_ | refine Vf ?_); (try simp only [go_sem,hP]); (repeat refine qJ ?_)))
  (refine ACall_of (h6) rfl rfl rfl rfl rfl ?_; simp only [go_sem,hP]; (repeat refine qJ ?_); (repeat ((first | refine Va ?_ | refine Vb ?_ | refine Vc ?_ | refine Vd ?_ | refine Ve ?_ | refine Vf ?_); (try simp only [go_sem,hP]); (repeat refine qJ ?_))))
  refine AS_new (cloneP52 _ hb.pr) rfl rfl rfl rfl ?_
  rintro r os ⟨rfl,rfl⟩
  refine ⟨[35],_,_,by simp,rfl,rfl,rfl,rfl,?_⟩
  simp only [go_sem,hP,ownBack]
  (repeat refine qJ ?_)
  (repeat ((first | refine Va ?_ | refine Vb ?_ | refine Vc ?_ | refine Vd ?_ | refine Ve ?_ | refine Vf ?_); (try simp only [go_sem,hP]); (repeat refine qJ ?_)))
  (refine WV_ret ?_; simp only [thenQ,inQ,RetQN,RetOkN,resAll,resA]; simp only [go_sem,tupA])
  refine ⟨[35],_,_,_,by simp,by simp,rfl,AVle.refl _,rfl,rfl,rfl⟩
end Go.Proofs.YtefoconkepmmgaaGreatDoor

namespace Go.Proofs.YtefoconkepmmgaaGreatDoor
open Go Go.V
abbrev o78_0:List Ins:=[JS 4 (JB false)]
abbrev o78_1:List Ins:=[JS 10 (Jm 0),JS 11 (.nilc (.t 10)),JS 12 (Jf 0 11),JS 13 (Jf 10 12),JS 14 (Jf 4 13),JS 15 (Jl 14),JS 16 (Jn 15),JS 17 (Ji 0)]
abbrev o78_2:List Ins:=[JS 18 (Jb .lss 17 16)]
abbrev o78_3:List Ins:=[JS 19 (Ja 2 15 17),JS 20 (JL 2 19),JS 6 (.alloc [Jz 0,Jz 0]),JN (Js 2 6 20)]
abbrev o78_4:List Ins:=[JF 21 (Jf 1 6),JF 22 (Jl 21),JF 23 (Jm 1),JF 24 (.ia 1 (.t 23) (.k (Jz 1))),JF 25 (Jl 24),JS 26 (Jb .gtr 22 25)]
abbrev o78_5:List Ins:=[JS 4 (JB false)]
abbrev v78_6:VC:=(.seq (.ops o78_5) .ret)
abbrev v78_7:VC:=(.cond (.t 26) v78_6 .skip)
abbrev v78_8:VC:=(.seq (.dops o78_4) v78_7)
abbrev v78_9:VC:=(.seq (.ops o78_3) v78_8)
abbrev o78_10:List Ins:=[JS 27 (Jk .add 17 1),JS 17 (Jm 27)]
abbrev v78_11:VC:=(.seq (.block 1 v78_9) (.ops o78_10))
abbrev v78_12:VC:=(.seq (.cond (.t 18) .skip (.exit 0)) v78_11)
abbrev v78_13:VC:=(.seq (.ops o78_2) v78_12)
-- K78_1: changed and kept: [17]
abbrev v78_14:VC:=(.loop v78_13)
abbrev v78_15:VC:=(.block 0 v78_14)
abbrev t78_16:OT:=(.cons (JF 29 (Jm 0)) (.cons (JF 30 (.nilc (.t 29))) (.cons (JF 31 (Jf 0 30)) (.cons (JF 32 (Jf 0 31)) (.cons (JF 33 (Jf 0 32)) (.cons (JF 34 (JL 3 33)) (.cons (JF 35 (Jm 0)) (.cons (JF 36 (.nilc (.t 35))) (.cons (JF 37 (Jf 0 36)) (.cons (JF 38 (Jf 8 37)) (.cons (JF 39 (JL 2 38)) (.br [(.cons (JF 40 (.bsl 3 1 [(.k (Jz (-1)))])) (.cons (JF 7 (.alloc [Jz 0,Jz 0])) (.cons (JF 41 (Jc 12 [.t 34,.t 39,.t 40])) (.cons (JF 28 (Jm 41)) (.cons (JF 42 (Je 28 0)) (.cons (JF 43 (Je 28 1)) (.cons (JF 44 (Je 28 2)) (.cons (JE (Js 2 7 42)) (.cons (JF 8 (Jm 43)) (.cons (JS 9 (Jm 44)) .nil)))))))))),(.cons (JF 7 (.alloc [Jz 0,Jz 0])) (.cons (JF 40 (.bsl 3 1 [(.k (Jz (-1)))])) (.cons (JF 41 (Jc 12 [.t 34,.t 39,.t 40])) (.cons (JF 28 (Jm 41)) (.cons (JF 42 (Je 28 0)) (.cons (JF 43 (Je 28 1)) (.cons (JF 44 (Je 28 2)) (.cons (JE (Js 2 7 42)) (.cons (JF 8 (Jm 43)) (.cons (JS 9 (Jm 44)) .nil))))))))))]))))))))))))
abbrev o78_17:List Ins:=[JS 45 (Jm 9),JS 46 (Jk .neq 45 0),JS 47 (Jm 46),JG 48 (Jm 8) 47 false,JG 49 (Jk .eql 48 0) 47 false,JS 50 (Jo 47 49)]
abbrev o78_18:List Ins:=[JS 4 (JB false)]
abbrev v78_19:VC:=(.seq (.ops o78_18) .ret)
abbrev v78_20:VC:=(.cond (.t 50) v78_19 .skip)
abbrev o78_21:List Ins:=[JS 51 (Jm 0),JS 52 (JL 2 7),JS 53 (.nilc (.t 51)),JS 54 (Jf 0 53),JS 55 (Jf 8 54),JN (Js 2 55 52)]
abbrev o78_22:List Ins:=[JF 56 (Jm 0),JF 57 (Jm 0),JF 58 (.nilc (.t 57)),JF 59 (Jf 0 58),JF 60 (Jf 10 59),JF 61 (Jf 4 60),JF 62 (Jl 61),JF 63 (Jm 1),JF 64 (.ia 1 (.t 63) (.k (Jz 0))),JF 65 (Jl 64),JF 66 (Jm 1),JF 67 (.ia 1 (.t 66) (.k (Jz 1))),JF 68 (Jl 67),JF 69 (.bld [Jz 0,Jz 0] [(0,1,(.t 65)),(1,1,(.t 68))]),JF 70 (.bsl 48 2 [.t 69]),JF 71 (.app 48 2 16 (.t 62) (.t 70)),JS 72 (.nilc (.t 56)),JS 73 (Jf 0 72),JS 74 (Jf 10 73),JS 75 (Jf 4 74),JN (Js 1 75 71)]
abbrev o78_23:List Ins:=[JS 4 (JB true)]
abbrev v78_24:VC:=(.seq (.ops o78_23) .ret)
abbrev v78_25:VC:=(.seq (.dops o78_22) v78_24)
abbrev v78_26:VC:=(.seq (.ops o78_21) v78_25)
abbrev v78_27:VC:=(.seq (.seq (.ops o78_17) v78_20) v78_26)
abbrev v78_28:VC:=(.seq (.drw t78_16) v78_27)
abbrev v78_29:VC:=(.seq (.seq (.ops o78_1) v78_15) v78_28)
def ir78:FC:=⟨2,76,[.t 4],(.seq (.ops o78_0) v78_29)⟩
theorem c78:compM Tryz.prog [] 78 = some ir78:=by kernel_rfl
attribute [local go_sem] Nat.reduceEqDiff Nat.reduceAdd Nat.reduceMul reduceIte Nat.reduceLeDiff Nat.reduceLT Nat.reduceBEq reduceCtorEq
def pressB (b:Bar) (side time:Int):Option Bar :=
 if b.tray.pres.all (fun p => decide (p.time ≤ time)) = true ∧ (runP b.box.wh b.pl b.cr [-1]).2 = 0 ∧ (runP b.box.wh b.pl b.cr [-1]).1.2.2 ≠ 0 then
  some { b with pl:=(runP b.box.wh b.pl b.cr [-1]).1.1,cr:=(runP b.box.wh b.pl b.cr [-1]).1.2.1,tray:={ b.tray with pres:=b.tray.pres ++ [⟨side,time⟩] } }
 else none
def chgPost (b:Bar) (o:Option Bar) (r:AV) (l':List Ob):Prop :=
 match o with
 | none => r = .c (.bool false) ∧ l' = [.box (b.avsP (.gr 1001)),.grow 48 2 (b.tray.pres.map Pr.cds)]
 | some b' => r = .c (.bool true) ∧ l' = [.box (b'.avsP (.gr 1001)),.grow 48 2 (b'.tray.pres.map Pr.cds)]
theorem press78 {b:Bar} (hb:BarLn b) (s x:Int):FSpecL Tryz.prog 78 [.bp 1000 0,.c (ints [s,x])] [.box (b.avsP (.gr 1001)),.grow 48 2 (b.tray.pres.map Pr.cds)] [] (chgPost b (pressB b s x)):=by
 have hm:maxLen = 9223372036854775807:=rfl
 have hpr:=hb.pr
 refine FSpecL_ofX c78 (by first | simp | exact Nat.le_of_ble_eq_true rfl) (Nat.le_refl _) (by decide) (by decide) fun C hP hN hC hpin hL => ?_; rw [init_env',ownW_upd (by first | simp | exact Nat.le_of_ble_eq_true rfl)]; simp only [ir78,updL,updLo,List.map_nil,List.map_cons,Nat.reduceAdd,]
 (repeat ((first | refine Va ?_ | refine Vb ?_ | refine Vc ?_ | refine Vd ?_ | refine Ve ?_ | refine Vf ?_); (try simp only [go_sem,hP,ints,Bar.avsP,List.length_map]); (repeat refine qJ ?_)))
 refine WV_loopS (fun k:Nat => ⟨upd (upd (upd (upd (upd (upd e0 0 (.bp 1000 0)) 1 (.c (ints [s,x]))) 4 (.c (.bool false))) 15 (.gr 1001)) 16 (iv b.tray.pres.length)) 17 (iv k),upd (upd o0 1000 (.box (b.avsP (.gr 1001)))) 1001 (.grow 48 2 (b.tray.pres.map Pr.cds))⟩) (fun k => k ≤ b.tray.pres.length ∧ (b.tray.pres.take k).all (fun p => decide (p.time ≤ x)) = true) (fun k => b.tray.pres.length - k) 0 ⟨Nat.zero_le _,rfl⟩ ?_ ?_
 ·refine Sub_of (by unfold ints; simp only [go_sem]; exact EnvLe_au) (by unfold Bar.avsP; simp only [go_sem]; exact ObjLe_au)
 rintro k ⟨hk,hr⟩
 (repeat ((first | refine Va ?_ | refine Vb ?_ | refine Vc ?_ | refine Vd ?_ | refine Ve ?_ | refine Vf ?_); (try simp only [go_sem,hP,ints,List.length_map]); (repeat refine qJ ?_)))
 (refine WV_cond rfl (fun h => ?_) (fun h => ?_))
 ·have hi:k < b.tray.pres.length:=by simpa using h
  have w1:=w64 (n:=(k:Int) + 1) (by omega) (by omega)
  obtain ⟨p,hp⟩ : ∃ p,p = b.tray.pres[k]:=⟨_,rfl⟩
  have hg:(b.tray.pres.map Pr.cds).getD k [] = p.cds:=by rw [map_getD hi,hp]
  have hts:(b.tray.pres.take (k + 1)).all (fun p => decide (p.time ≤ x)) = decide (p.time ≤ x):=by rw [take_all _ hi,hr,Bool.true_and,hp]
  (repeat ((first | refine Va ?_ | refine Vb ?_ | refine Vc ?_ | refine Vd ?_ | refine Ve ?_ | refine Vf ?_); (try simp only [go_sem,hP,hg,List.length_map,Int.toNat_natCast,Pr.cds]); (repeat refine qJ ?_)))
  by_cases hpt:p.time ≤ x
  ·(refine WV_cond rfl (fun h => ?_) (fun h => ?_))
   ·simp at h; omega
   ·(repeat ((first | refine Va ?_ | refine Vb ?_ | refine Vc ?_ | refine Vd ?_ | refine Ve ?_ | refine Vf ?_); (try simp only [go_sem,hP,w1]); (repeat refine qJ ?_)))
    refine ⟨k + 1,⟨by omega,by rw [hts]; simpa using hpt⟩,by omega,?_⟩
    refine Sub_of (by simp only [go_sem]; exact EnvLe_au) (by unfold Bar.avsP; simp only [go_sem]; exact ObjLe_au)
  ·have hno:pressB b s x = none:=by
    unfold pressB
    rw [if_neg]
    rintro ⟨h1,_⟩
    have:=List.all_eq_true.1 h1 p (by rw [hp]; exact List.getElem_mem hi)
    exact hpt (by simpa using this)
   rw [hno]
   (refine WV_cond rfl (fun h => ?_) (fun h => ?_))
   ·(repeat ((first | refine Va ?_ | refine Vb ?_ | refine Vc ?_ | refine Vd ?_ | refine Ve ?_ | refine Vf ?_); (try simp only [go_sem,hP]); (repeat refine qJ ?_)))
    (refine WV_ret ?_; simp only [thenQ,inQ,RetQL,RetOkL,resAll,resA]; simp only [go_sem,tupA,AV.keepP,AV.keepPL]; refine ⟨_,[.box (b.avsP (.gr 1001)),.grow 48 2 (b.tray.pres.map Pr.cds)],rfl,KeepL_mk rfl rfl ?_ ?_ rfl,?_⟩)
    ·unfold Bar.avsP
     simp only [go_sem,keepAll,Ob.keepP,AV.keepP,AV.keepPL]
    ·trivial
    ·exact ⟨rfl,rfl⟩
   ·simp at h; omega
 ·have hkl:k = b.tray.pres.length:=by
   have:¬ (k < b.tray.pres.length):=by simpa using h
   omega
  subst hkl
  rw [List.take_length] at hr
  unfold Bar.avsP
  (repeat ((first | refine Va ?_ | refine Vb ?_ | refine Vc ?_ | refine Vd ?_ | refine Ve ?_ | refine Vf ?_); (try simp only [go_sem,hP]); (repeat refine qJ ?_)))
  have hrun:=run69 b.box.wh b.pl b.cr [-1]
  simp only [Wh.av,Wh.avs] at hrun
  generalize hR:runP b.box.wh b.pl b.cr [-1] = R at hrun
  obtain ⟨⟨pl',cr',md⟩,e⟩:=R
  simp only at hrun
  refine WV_thn (fun σ' => Sub σ' ⟨upd (upd (upd (upd (upd (upd e0 0 (.bp 1000 0)) 1 (.c (ints [s,x]))) 4 (.c (.bool false))) 7 (.bp 7 0)) 8 (iv md)) 9 (iv e),upd (upd (upd o0 1000 (.box (b.avsP (.gr 1001)))) 1001 (.grow 48 2 (b.tray.pres.map Pr.cds))) 7 (.box [iv pl',iv cr'])⟩) ?_ ?_
  ·refine WV_drw ?_
   simp only [go_sem,hP]
   (repeat' (refine And.intro ?_ ?_))
   all_goals (
    (refine ACall_of (hrun) rfl rfl rfl rfl rfl ?_; simp only [go_sem,hP]; (repeat refine qJ ?_); (repeat ((first | refine Va ?_ | refine Vb ?_ | refine Vc ?_ | refine Vd ?_ | refine Ve ?_ | refine Vf ?_); (try simp only [go_sem,hP]); (repeat refine qJ ?_))))
    refine Sub_of (by unfold ints; simp only [go_sem]; exact EnvLe_au) (by unfold Bar.avsP; simp only [go_sem]; exact ObjLe_au))
  ·intro σ' hs
   refine WV_sub hs ?_
   unfold Bar.avsP
   (repeat ((first | refine Va ?_ | refine Vb ?_ | refine Vc ?_ | refine Vd ?_ | refine Ve ?_ | refine Vf ?_); (try simp only [go_sem,hP]); (repeat refine qJ ?_)))
   by_cases hbad:e ≠ 0 ∨ md = 0
   ·have hno:pressB b s x = none:=by
     unfold pressB
     rw [if_neg]
     rw [hR]
     rintro ⟨_,h2,h3⟩
     rcases hbad with h | h
     ·exact h h2
     ·exact h3 h
    rw [hno]
    (refine WV_cond rfl (fun h => ?_) (fun h => ?_))
    ·(repeat ((first | refine Va ?_ | refine Vb ?_ | refine Vc ?_ | refine Vd ?_ | refine Ve ?_ | refine Vf ?_); (try simp only [go_sem,hP]); (repeat refine qJ ?_)))
     (refine WV_ret ?_; simp only [thenQ,inQ,RetQL,RetOkL,resAll,resA]; simp only [go_sem,tupA,AV.keepP,AV.keepPL]; refine ⟨_,[.box (b.avsP (.gr 1001)),.grow 48 2 (b.tray.pres.map Pr.cds)],rfl,KeepL_mk rfl rfl ?_ ?_ rfl,?_⟩)
     ·unfold Bar.avsP
      simp only [go_sem,keepAll,Ob.keepP,AV.keepP,AV.keepPL]
     ·trivial
     ·exact ⟨rfl,rfl⟩
    ·exfalso
     simp at h
     rcases hbad with h2 | h2
     ·exact h2 h.1
     ·exact h.2 h2
   ·obtain ⟨he,hmd⟩:=not_or.1 hbad
    have he:e = 0:=by omega
    have hyes:pressB b s x = some { b with pl:=pl',cr:=cr',tray:={ b.tray with pres:=b.tray.pres ++ [⟨s,x⟩] } }:=by
     unfold pressB
     rw [hR]
     rw [if_pos ⟨hr,he,hmd⟩]
    rw [hyes]
    (refine WV_cond rfl (fun h => ?_) (fun h => ?_))
    ·exfalso
     simp [he,hmd] at h
    ·have hp2:=prs_two b.tray.pres
     (repeat ((first | refine Va ?_ | refine Vb ?_ | refine Vc ?_ | refine Vd ?_ | refine Ve ?_ | refine Vf ?_); (try simp only [go_sem,hP,ints]); (repeat refine qJ ?_)))
     refine WV_moveP 71 1001 (by decide) (fun hq => by have h2:false = true:=hpin 1001 hq; cases h2) rfl ?_
     simp only [go_sem]
     (refine WV_ret ?_; simp only [thenQ,inQ,RetQL,RetOkL,resAll,resA]; simp only [go_sem,tupA,AV.keepP,AV.keepPL]; refine ⟨_,[.box (Bar.avsP { b with pl:=pl',cr:=cr',tray:={ b.tray with pres:=b.tray.pres ++ [⟨s,x⟩] } } (.gr 1001)),.grow 48 2 ((b.tray.pres ++ [(⟨s,x⟩ : Pr)]).map Pr.cds)],rfl,KeepL_mk rfl rfl ?_ ?_ rfl,?_⟩)
     ·unfold Bar.avsP
      simp only [go_sem,keepAll,Ob.keepP,AV.keepP,AV.keepPL,ints,List.map_append]
      rfl
     ·trivial
     ·exact ⟨rfl,rfl⟩
end Go.Proofs.YtefoconkepmmgaaGreatDoor
