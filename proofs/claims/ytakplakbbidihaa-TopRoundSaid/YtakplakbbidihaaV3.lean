/-
  An abstract machine over small instructions, sound over the model; no condition.
-/
import Derived.Test.YtakplakbbidihaaV2
import Derived.Laws.IdiomStrings
import Derived.Lib.AppendStr
import Derived.Laws.Externs
import Derived.Lib.Bytealg
import Derived.Lib.MakeNoZero
import Derived.WideKeyMaps
import Derived.Maps.RangeRun
set_option linter.unusedVariables false
set_option linter.unusedSimpArgs false
/-
 An object gets another number: what has been lent and has grown takes its old place.
-/
namespace Go.V
mutual
def AV.rn (d n:Nat):AV → AV
 | .bp m o => if m = d then .bp n o else if m = n then .non else .bp m o
 | .gr m => if m = d then .gr n else if m = n then .non else .gr m
 | .vw sz m off len cap => if m = d then .vw sz n off len cap else if m = n then .non else .vw sz m off len cap
 | .agg cs => .agg (AV.rnL d n cs)
 | .tup cs => .tup (AV.rnL d n cs)
 | .fn f cs => .fn f (AV.rnL d n cs)
 | .opt g x => .opt g (AV.rn d n x)
 | .non => .non
 | .c x => .c x
def AV.rnL (d n:Nat):List AV → List AV
 | [] => []
 | a :: as => AV.rn d n a :: AV.rnL d n as
end
def Ob.rn (d n:Nat):Ob → Ob
 | .box cs => .box (AV.rnL d n cs)
 | .win cs => .win (AV.rnL d n cs)
 | o => o
def rnE (d n:Nat) (f:Nat → AV):Nat → AV:=fun t => (f t).rn d n
def rnP (d n:Nat) (f:Nat → Ob):Nat → Ob:=fun t => (f t).rn d n
def rnO (d n:Nat) (f:Nat → Ob):Nat → Ob:=upd (upd (rnP d n f) n ((f d).rn d n)) d .none
theorem rnE_upd (d n:Nat) (f:Nat → AV) (t:Nat) (v:AV):rnE d n (upd f t v) = upd (rnE d n f) t (v.rn d n):=by
 funext s; simp only [rnE,upd]; split <;> rfl
theorem rnE_e0 (d n:Nat):rnE d n e0 = e0:=rfl
theorem rnP_upd (d n:Nat) (f:Nat → Ob) (t:Nat) (v:Ob):rnP d n (upd f t v) = upd (rnP d n f) t (v.rn d n):=by
 funext s; simp only [rnP,upd]; split <;> rfl
theorem rnP_o0 (d n:Nat):rnP d n o0 = o0:=rfl
theorem rnE_app (d n:Nat) (f:Nat → AV) (t:Nat):rnE d n f t = (f t).rn d n:=rfl
theorem rnP_app (d n:Nat) (f:Nat → Ob) (t:Nat):rnP d n f t = (f t).rn d n:=rfl
section
variable {w:World} {M:Cells} {loc loc':Nat → Value} {d n:Nat}
mutual
theorem rn_rep (hl:∀ m,m ≠ n → loc' m = loc m) (hn:loc' n = loc d):∀ {x:AV} {v:Value},RepA w M loc x v → RepA w M loc' (x.rn d n) v
 | .non,v,h => by simp only [AV.rn,RepA]
 | .c x,v,h => by simp only [AV.rn,RepA] at h ⊢; exact h
 | .gr m,v,h => by
  simp only [AV.rn]
  split
  ·rename_i e; subst e; simp only [RepA] at h ⊢; rw [hn]; exact h
  ·split
   ·simp only [RepA]
   ·rename_i e; simp only [RepA] at h ⊢; rw [hl m e]; exact h
 | .bp m o,v,h => by
  simp only [AV.rn]
  split
  ·rename_i e; subst e; simp only [RepA] at h ⊢; rw [hn]; exact h
  ·split
   ·simp only [RepA]
   ·rename_i e; simp only [RepA] at h ⊢; rw [hl m e]; exact h
 | .vw sz m off len cap,v,h => by
  simp only [AV.rn]
  split
  ·rename_i e; subst e; simp only [RepA] at h ⊢; rw [hn]; exact h
  ·split
   ·simp only [RepA]
   ·rename_i e; simp only [RepA] at h ⊢; rw [hl m e]; exact h
 | .agg cs,v,h => by
  simp only [AV.rn,RepA] at h ⊢
  obtain ⟨l,hv,hr⟩:=h
  exact ⟨l,hv,rns_rep hl hn hr⟩
 | .tup cs,v,h => by
  simp only [AV.rn,RepA] at h ⊢
  obtain ⟨l,hv,hr⟩:=h
  exact ⟨l,hv,rns_rep hl hn hr⟩
 | .fn f cs,v,h => by
  simp only [AV.rn,RepA] at h ⊢
  obtain ⟨l,hv,hr⟩:=h
  exact ⟨l,hv,rns_rep hl hn hr⟩
 | .opt g x,v,h => by
  simp only [AV.rn,RepA] at h ⊢
  exact ⟨fun hg => rn_rep hl hn (h.1 hg),h.2⟩
theorem rns_rep (hl:∀ m,m ≠ n → loc' m = loc m) (hn:loc' n = loc d):∀ {xs:List AV} {l:List Value},RepAs w M loc xs l → RepAs w M loc' (AV.rnL d n xs) l
 | [],l,h => h
 | x :: xs,l,h => by
  simp only [AV.rnL,RepAs] at h ⊢
  obtain ⟨v,vs,e,k1,k2⟩:=h
  exact ⟨v,vs,e,rn_rep hl hn k1,rns_rep hl hn k2⟩
end
theorem Ob.rn_has (o:Ob) (v:Value) (b:Nat):(o.rn d n).has v b ↔ o.has v b:=by
 cases o <;> first | exact Iff.rfl | (cases v <;> first | exact Iff.rfl | (rename_i p; cases p <;> exact Iff.rfl))
theorem Ob.rn_mut (o:Ob) (v:Value):(o.rn d n).mut v = o.mut v:=by
 cases o <;> first | rfl | (cases v <;> first | rfl | (rename_i p; cases p <;> rfl))
theorem ObOk.rn {P:Program} {A:Nat → Prop} {v:Value} {o:Ob} (hl:∀ m,m ≠ n → loc' m = loc m) (hn:loc' n = loc d) (h:ObOk P A w M loc v o):ObOk P A w M loc' v (o.rn d n):=by
 cases o with
 | none => trivial
 | box cs => obtain ⟨b1,l,e,h1,h2,h3,h4⟩:=h; exact ⟨b1,l,e,h1,h2,h3,rns_rep hl hn h4⟩
 | win cs => obtain ⟨b1,l,r,e,h1,h3,h4⟩:=h; exact ⟨b1,l,r,e,h1,h3,rns_rep hl hn h4⟩
 | grow e sz es => exact h
 | guest g rem => exact h
 | mp kk ek l => exact h
end
theorem Gam_move {C:Ctx} {σ:St} {a:Act} {w:World} {d n:Nat} (hdn:d ≠ n) (hp:¬ C.pin n) (hn:σ.own n = .none) (h:Gam C σ a w):Gam C ⟨rnE d n σ.env,rnO d n σ.own⟩ a w:=by
 obtain ⟨loc,hg⟩:=h
 let loc':Nat → Value:=fun m => if m = n then loc d else loc m
 have hl:∀ m,m ≠ n → loc' m = loc m:=fun m hm => by simp only [loc',hm,if_false]
 have hn':loc' n = loc d:=by simp only [loc',if_true]
 have hnd:n ≠ d:=fun e => hdn e.symm
 have o1:rnO d n σ.own d = .none:=by simp only [rnO,upd,if_true]
 have o2:rnO d n σ.own n = (σ.own d).rn d n:=by simp only [rnO,upd,hnd,if_false,if_true]
 have o3:∀ m,m ≠ d → m ≠ n → rnO d n σ.own m = (σ.own m).rn d n:=fun m h1 h2 => by simp only [rnO,upd,h1,h2,if_false,rnP]
 have hhas:∀ m k,(rnO d n σ.own m).has (loc' m) k → (m = n ∧ (σ.own d).has (loc d) k) ∨ (m ≠ n ∧ m ≠ d ∧ (σ.own m).has (loc m) k):=by
  intro m k h
  by_cases hm:m = n
  ·subst hm; rw [o2,hn',Ob.rn_has] at h; exact .inl ⟨rfl,h⟩
  ·by_cases hmd:m = d
   ·subst hmd; rw [o1] at h; exact (Ob.has_none _ _ h).elim
   ·rw [o3 m hmd hm,hl m hm,Ob.rn_has] at h; exact .inr ⟨hm,hmd,h⟩
 have hmut:∀ b k,MM C (rnO d n σ.own) loc' b k → MM C σ.own loc b k:=by
  rintro b k (h | ⟨m,h⟩)
  ·exact .inl h
  ·by_cases hm:m = n
   ·subst hm; rw [o2,hn',Ob.rn_mut] at h; exact .inr ⟨d,h⟩
   ·by_cases hmd:m = d
    ·subst hmd; rw [o1] at h; exact (Ob.has_none _ _ (Ob.has_of_mut h)).elim
    ·rw [o3 m hmd hm,hl m hm,Ob.rn_mut] at h; exact .inr ⟨m,h⟩
 have hk:Keeps w w (MM C σ.own loc) (MM C (rnO d n σ.own) loc'):=Keeps.less hmut
 have hfoot:∀ b,Foot (rnO d n σ.own) loc' b → Foot σ.own loc b:=by
  rintro b ⟨m,h⟩
  rcases hhas m b h with ⟨_,h⟩ | ⟨_,_,h⟩
  ·exact ⟨d,h⟩
  ·exact ⟨m,h⟩
 refine ⟨loc',hg.fr,hg.m0,hg.kp.trans hk,fun x hx => ?_,hg.mnd,fun m hm => ?_,hg.size,fun t => ?_,fun m => ?_,fun m k c hmk h1 h2 => ?_⟩
 ·obtain ⟨D,e1,e2,e3,e4⟩:=hg.marks x hx
  exact ⟨D,e1,e2,e3,fun h => e4 (hfoot _ h)⟩
 ·obtain ⟨p1,p2,p3⟩:=hg.pin m hm
  exact ⟨p1,by rw [hl m (fun e => hp (e ▸ hm))]; exact p2,p3⟩
 ·exact rn_rep hl hn' (RepA.keep hk _ _ (hg.slots t))
 ·show ObOk C.P C.A w _ loc' (loc' m) (rnO d n σ.own m)
  by_cases hm:m = n
  ·subst hm
   rw [o2,hn']
   exact ObOk.rn hl hn' (ObOk.keep' hk (Nat.le_refl _) (fun _ _ => rfl) (hg.objs d))
  ·by_cases hmd:m = d
   ·subst hmd; rw [o1]; trivial
   ·rw [o3 m hmd hm,hl m hm]
    exact ObOk.rn hl hn' (ObOk.keep' hk (Nat.le_refl _) (fun _ _ => rfl) (hg.objs m))
 ·rcases hhas m c h1 with ⟨e1,k1⟩ | ⟨e1,e2,k1⟩ <;> rcases hhas k c h2 with ⟨f1,k2⟩ | ⟨f1,f2,k2⟩
  ·exact hmk (e1.trans f1.symm)
  ·exact hg.disj d k c (fun e => f2 e.symm) k1 k2
  ·exact hg.disj m d c e2 k1 k2
  ·exact hg.disj m k c hmk k1 k2
theorem WV_post {C:Ctx} {Q:Exit → St → Prop} {v:VC} {σ:St} (h:WV C v (fun e σ' => ∃ σ'',(∀ a w,Gam C σ' a w → Gam C σ'' a w) ∧ Q e σ'') σ):WV C v Q σ:=fun c hc a w hg =>
 wpIn_mono (h c hc a w hg) fun _ _ _ ⟨_,hg',σ'',hw,hq⟩ => ⟨σ'',hw _ _ hg',hq⟩
theorem FSpecL_ofX {P:Program} {m:List Nat} {f:FuncId} {fc:FC} (hc:compM P m f = some fc) {args:List AV} {l:List Ob} {wl:List (List AV)} {Post:AV → List Ob → Prop} (hl:l.length ≤ 1000) (hn:args.length ≤ fc.np) (hnp:fc.np ≤ fc.N) (hN:fc.N ≤ 1000)
  (h:∀ C:Ctx,C.P = P → C.N = fc.N → C.Ok → (∀ n,C.pin n → (ownW l wl n).isPlace = true) → AV.lensL args → WV C fc.body (RetQL fc.rs l wl Post) ⟨fun t => args.getD t .non,ownW l wl⟩):FSpecL P f args l wl Post:=by
 obtain ⟨hcl,hb⟩:=body_call hc
 refine ⟨hcl,hl,fun w M loc vs hM hok hr => ?_⟩
 have hlen:=hr.length
 refine hb (Ctx.lentC P fc.N m w M l wl loc none) (RetQL fc.rs l wl Post) _ loc vs _ rfl rfl rfl rfl (by omega) (h _ rfl rfl (fun _ h => by cases h) (fun _ h => h) hr.lens) (fun tm hs ht => G_initL hl hN hM hok hs (fun t => by rw [ht t]; exact init_slots fc.N args vs hr t)) (fun l₀ hl₀ σ loc' a w' hg hq => ?_) (fun e σ hq => by cases e <;> first | exact .inl rfl | exact .inr rfl | exact hq.elim)
 have hret:RetOkL fc.rs l wl Post σ:=hq.elim id id
 unfold RetOkL at hret
 split at hret
 case h_2 => exact hret.elim
 rename_i q avs hres
 obtain ⟨hq,r,l',hkr,hkl,hpost⟩:=hret
 obtain ⟨us,hus,hrus⟩:=resAll_sound hg l₀ fc.rs hl₀ hres hq
 obtain ⟨k1,k2,k3,k4,k5,k6⟩:=lentC_end hl rfl rfl rfl rfl rfl hg hkl
 exact ⟨us,hus,_,r,l',loc',rfl,hpost,hkl.len,k1,k2,k3,k4,k5,k6 _ _ _ hkr (tup_rep hrus)⟩
section
variable {P:Program} {dd:Nat} {f:X} {xs:List X} {K:St → Prop} {σ:St}
end
section
variable {α:Type}
theorem rn_cs (d n:Nat):∀ l:List CD,AV.rnL d n (l.map .c) = l.map .c
 | [] => rfl
 | a :: l => by simp only [List.map_cons,AV.rnL,AV.rn,rn_cs d n l]
theorem rn_non (d n:Nat):∀ j:Nat,AV.rnL d n (List.replicate j .non) = List.replicate j .non
 | 0 => rfl
 | j + 1 => by simp only [List.replicate_succ,AV.rnL,AV.rn,rn_non d n j]
theorem rnL_append (d n:Nat):∀ a b:List AV,AV.rnL d n (a ++ b) = AV.rnL d n a ++ AV.rnL d n b
 | [],b => rfl
 | x :: a,b => by simp only [List.cons_append,AV.rnL,rnL_append d n a b]
theorem rn_cellsG (cds:α → List CD) (d n:Nat) (l:List α) (j:Nat):AV.rnL d n (cellsG cds l j) = cellsG cds l j:=by
 unfold cellsG; rw [rnL_append,rn_cs,rn_non]
theorem keep_cs (own:Nat → Ob):∀ l:List CD,AV.keepPL own (l.map .c) = some (l.map .c)
 | [] => rfl
 | a :: l => by simp only [List.map_cons,AV.keepPL,AV.keepP,keep_cs own l]
theorem keep_non (own:Nat → Ob):∀ j:Nat,AV.keepPL own (List.replicate j .non) = some (List.replicate j .non)
 | 0 => rfl
 | j + 1 => by simp only [List.replicate_succ,AV.keepPL,AV.keepP,keep_non own j]
theorem keepL_append (own:Nat → Ob):∀ x y:List AV,AV.keepPL own (x ++ y) = (AV.keepPL own x).bind fun x' => (AV.keepPL own y).map fun y' => x' ++ y'
 | [],y => by simp [AV.keepPL]
 | a :: x,y => by
  simp only [List.cons_append,AV.keepPL,keepL_append own x y]
  cases AV.keepP own a <;> cases AV.keepPL own x <;> cases AV.keepPL own y <;> rfl
theorem keep_cellsG (cds:α → List CD) (own:Nat → Ob) (l:List α) (j:Nat):AV.keepPL own (cellsG cds l j) = some (cellsG cds l j):=by
 unfold cellsG; rw [keepL_append,keep_cs,keep_non]; rfl
theorem elemsV_cellsG {cds:α → List CD} {m:Nat} (hm:∀ a,(cds a).length = m) (own:Nat → Ob) (n:Nat) (l:List α) (j cap:Nat) (h:own n = .box (cellsG cds l j)):AV.elemsV own (.vw m n 0 l.length cap) = some (m,l.map cds):=by
 have h2:(cellsG cds l j).take (l.length * m) = (flatG cds l).map .c:=by rw [cellsG_take hm]; simp [cellsG]
 have h3:((flatG cds l).map AV.c).mapM (AV.toCD own) = some (flatG cds l):=by
  induction flatG cds l with
  | nil => rfl
  | cons a t ih => simp only [List.map_cons,List.mapM_cons,AV.toCD,Option.pure_def,Option.bind_eq_bind,Option.bind_some,ih]
 simp only [AV.elemsV,h,Ob.cellsR,Nat.zero_add,List.drop_zero,h2,h3,Option.map_some]
 rw [if_pos (by rw [cellsG_len hm]; omega)]
 have:=grp_cellsG hm l
 rw [List.take_of_length_le (by rw [flatG_len hm]; exact Nat.le_refl _)] at this
 rw [this]
end
attribute [go_sem] rn_cellsG keep_cellsG back_cellsG
attribute [go_sem] gdE_upd gdE_e0 gdO_upd gdO_o0 AV.gd AV.gdL Ob.gd CD.flat rnE_upd rnE_e0 rnP_upd rnP_o0 rnO AV.rn AV.rnL Ob.rn rnE_app rnP_app
end Go.V

/-
 What may be forgotten of one slot or one object; an object gets another number.
-/
namespace Go.V
section
variable {C:Ctx} {Q:Exit → St → Prop} {x:VC} {env:Nat → AV} {own:Nat → Ob}
theorem WV_drop (n:Nat) (h:WV C x Q ⟨env,upd own n .none⟩):WV C x Q ⟨env,own⟩ :=
 WV_sub (σ':=⟨env,upd own n .none⟩) (Sub_of (fun s => AWk.refl _ _) (fun m => by
  show upd own n .none m = own m ∨ upd own n .none m = .none
  rw [upd_app]
  split
  ·exact .inr rfl
  ·exact .inl rfl)) h
theorem AG_skip {P:Program} {A B:Prop} {d:Option Nat} {f:X} {xs:List X} {K:St → Prop} {σ:St} (h:K (σ.put d (.opt false (.c (.bool false))))):ACallG P false d f xs K σ ∨ A ∨ B :=
 .inl ⟨.c (.bool false),rfl,(fun e => by cases e),h⟩
theorem ACallG_skip {P:Program} {d:Option Nat} {f:X} {xs:List X} {K:St → Prop} {σ:St} (r:AV) (hr:r.pureB = true) (h:K (σ.put d (.opt false r))):ACallG P false d f xs K σ:=⟨r,hr,(fun e => by cases e),h⟩
end
end Go.V

/-
 What is kept of objects that were written more than once.
-/
namespace Go.V
def ObjLeX (f g:Nat → Ob) (ds:List Nat):Prop:=∀ m,ds.contains m = false → g m = f m ∨ g m = .none
theorem ObjLe_X {f g:Nat → Ob} (h:ObjLeX f g []):ObjLe f g:=fun m => h m rfl
theorem ObjLeX_o0 (f:Nat → Ob) (ds:List Nat):ObjLeX f o0 ds:=fun _ _ => .inr rfl
theorem ObjLeX_skip {f g:Nat → Ob} {d:Nat} {o:Ob} {ds:List Nat} (hd:ds.contains d = true) (h:ObjLeX f g ds):ObjLeX f (upd g d o) ds:=fun m hm => by
 have hne:m ≠ d:=by rintro rfl; rw [hd] at hm; cases hm
 have:=h m hm
 simpa [upd,hne] using this
theorem ObjLeX_upd {f g:Nat → Ob} {d:Nat} {o:Ob} {ds:List Nat} (hd:f d = o) (h:ObjLeX f g (d :: ds)):ObjLeX f (upd g d o) ds:=fun m hm => by
 by_cases hmd:m = d
 ·subst hmd; left; simp [upd,hd]
 ·have hne:(m == d) = false:=by simpa using hmd
  have:=h m (by simp only [List.contains_cons,hne,hm,Bool.false_or])
  simpa [upd,hmd] using this
theorem Sub_au {e e':Nat → AV} {o o':Nat → Ob}
  (h1:EnvLe o e e':=by (try simp only [go_sem,init_env',Nat.reduceEqDiff,Nat.reduceAdd,Nat.reduceMul,reduceIte,Nat.reduceLeDiff,Nat.reduceLT,Nat.reduceBEq,reduceCtorEq]); ((repeat' (first | exact EnvLe_e0 _ _ | refine EnvLe_upd ?_ ?_)) <;> ((try simp only [upd_app,e0_app,o0_app,Nat.reduceEqDiff,reduceIte]); first | exact AWk.refl _ _ | exact AWk.int (by omega) | exact AWk.int (by rw [w64 (by omega) (by omega)]; omega) | exact AWk.grow rfl | exact AWk.nil _ | exact AWk.of (by simp))))
  (h2:ObjLe o o':=by (try simp only [go_sem,init_env',Nat.reduceEqDiff,Nat.reduceAdd,Nat.reduceMul,reduceIte,Nat.reduceLeDiff,Nat.reduceLT,Nat.reduceBEq,reduceCtorEq]); (first | ((repeat' (first | exact ObjLe_o0 _ | exact ObjLe.rfl' _ | refine ObjLe_same ?_ | refine ObjLe_upd ?_ ?_ | refine ObjLe_new rfl ?_)) <;> rfl) | (refine ObjLe_X ?_; (repeat' (first | exact ObjLeX_o0 _ _ | refine ObjLeX_skip rfl ?_ | refine ObjLeX_upd ?_ ?_)) <;> rfl))):Sub ⟨e,o⟩ ⟨e',o'⟩:=Sub_of h1 h2
section
variable {C:Ctx} {Q:Exit → St → Prop} {σ:St}
theorem w1 {a b:VC} (h:WV C a (thenQ (WV C b Q) Q) σ):WV C (.seq a b) Q σ:=WV_seq_ h
end
end Go.V

/-
 Families of objects: rows of a slice of slices,each an object of its own.
-/
namespace Go.V
structure Row (α:Type) where
 l:List α
 j:Nat
 cap:Nat
section
variable {α:Type} {cds:α → List CD} {b sz m:Nat} {R:List (Row α)} {own:Nat → Ob}
def refs (b sz:Nat):Nat → List (Row α) → List AV
 | _,[] => []
 | k,r :: R => .vw sz (k + b) 0 r.l.length r.cap :: refs b sz (k + 1) R
def rng (b m:Nat):List Nat:=(List.range m).map (· + b)
variable {C:Ctx} {Q:Exit → St → Prop} {v:VC} {env:Nat → AV}
end
end Go.V

/-
 The primitives at the user's level.
-/
namespace Go.V
theorem primV_1 (p:Prim) (d:CD) (g:Bool):primV p [.c d] g = (match p.ev [d] with | some (q,e) => some (g = true ∧ q,.c e) | none => primD p):=rfl
theorem primV_2 (p:Prim) (d d':CD) (g:Bool):primV p [.c d,.c d'] g = (match p.ev [d,d'] with | some (q,e) => some (g = true ∧ q,.c e) | none => primD p):=rfl
theorem primV_3 (p:Prim) (d d' d'':CD) (g:Bool):primV p [.c d,.c d',.c d''] g = (match p.ev [d,d',d''] with | some (q,e) => some (g = true ∧ q,.c e) | none => primD p):=rfl
theorem ev_slen (s:List UInt8):Prim.ev .slen [.str s] = some (True,.int .i64 s.length):=rfl
theorem ev_sidx (s:List UInt8) (k:IntKind) (j:Int):Prim.ev .sidx [.str s,.int k j] = some (0 ≤ j ∧ j < s.length,.int .u8 (s.getD j.toNat 0).toNat):=rfl
theorem ev_sslc0 (s:List UInt8):Prim.ev (.sslc false false) [.str s] = some (True,.str s):=rfl
theorem ev_sslc1 (s:List UInt8) (k:IntKind) (j:Int):Prim.ev (.sslc true false) [.str s,.int k j] = some (0 ≤ j ∧ j ≤ s.length,.str (s.drop j.toNat)):=rfl
theorem ev_sslc2 (s:List UInt8) (k:IntKind) (j:Int):Prim.ev (.sslc false true) [.str s,.int k j] = some (0 ≤ j ∧ j ≤ s.length,.str (s.take j.toNat)):=rfl
theorem ev_sslc3 (s:List UInt8) (k k':IntKind) (i j:Int):Prim.ev (.sslc true true) [.str s,.int k i,.int k' j] = some (0 ≤ i ∧ i ≤ j ∧ j ≤ s.length,.str ((s.drop i.toNat).take (j.toNat - i.toNat))):=rfl
theorem ev_add (a b:List UInt8):Prim.ev (.sbin .add) [.str a,.str b] = some (a.length + b.length ≤ maxLen,.str (a ++ b)):=rfl
theorem ev_eql (a b:List UInt8):Prim.ev (.sbin .eql) [.str a,.str b] = some (True,.bool (a == b)):=rfl
theorem ev_neq (a b:List UInt8):Prim.ev (.sbin .neq) [.str a,.str b] = some (True,.bool (!(a == b))):=rfl
theorem ev_conv (k k':IntKind) (n:Int):Prim.ev (.conv k) [.int k' n] = some (True,.int k (k.wrap n)):=rfl
attribute [go_sem] primV_1 primV_2 primV_3 ev_slen ev_sidx ev_sslc0 ev_sslc1 ev_sslc2 ev_sslc3 ev_add ev_eql ev_neq ev_conv
end Go.V

/-
 Short names for what the user's texts write again and again; no condition.
-/
namespace Go.V
open Go
section
variable {C:Ctx} {Q:Exit → St → Prop} {σ:St}
theorem Va {a b:VC} (h:WV C a (thenQ (WV C b Q) Q) σ):WV C (.seq a b) Q σ:=WV_seq_ h
theorem Vb {id:Nat} {x:VC} (h:WV C x (inQ id Q) σ):WV C (.block id x) Q σ:=WV_block h
theorem Vc {is:List Ins} (h:AOps C.P is (Q .normal) σ):WV C (.ops is) Q σ:=WV_ops h
theorem Vd {is:List Ins} (h:AOps C.P is (Q .normal) σ):WV C (.dops is) Q σ:=WV_dops h
theorem Ve (h:Q .normal σ):WV C .skip Q σ:=WV_skip h
theorem Vf {id:Nat} (h:Q (.exit id) σ):WV C (.exit id) Q σ:=WV_exit h
theorem WV_op {v:VC} {p:Prop} (q:p) (h:p → WV C v Q σ:=by first | exact WV_ops | exact WV_dops):WV C v Q σ:=h q
theorem WV_sop {a v:VC} {p:Prop} (q:p) (h:p → WV C a (thenQ (WV C v Q) Q) σ:=by first | exact WV_ops | exact WV_dops):WV C (.seq a v) Q σ:=WV_seq_ (h q)
end
theorem init_st (args:List AV):St.init args = ⟨updL e0 0 args,o0⟩:=by unfold St.init; rw [init_env']; rfl
theorem qJ {a b:Prop} (hb:b) (ha:a:=by (fail_if_success with_reducible exact (rfl:0 = 0)); first | omega | (intros; simp_all; done) | (intros; simp_all; omega)):a ∧ b:=⟨ha,hb⟩
theorem ObjLe_au {o o':Nat → Ob} (h:ObjLe o o':=by (first | ((repeat' (first | exact ObjLe_o0 _ | exact ObjLe.rfl' _ | refine ObjLe_same ?_ | refine ObjLe_upd ?_ ?_ | refine ObjLe_new rfl ?_)) <;> rfl) | (refine ObjLe_X ?_; (repeat' (first | exact ObjLeX_o0 _ _ | refine ObjLeX_skip rfl ?_ | refine ObjLeX_upd ?_ ?_)) <;> rfl))):ObjLe o o':=h
section
variable {P:Program} {σ:St} {d:Option Nat} {f:X} {xs:List X} {K:St → Prop}
theorem AS_pu {fid:FuncId} {caps args:List AV} {r:AV} (hs:FSpec P fid args r) (hK:K (σ.put d r)) (h1:(σ.val f).dg = true:=by rfl) (h2:(xs.all fun x => (σ.val x).dg) = true:=by rfl) (h3:(σ.val f).dv = .fn fid caps:=by rfl)
  (h4:AV.portL σ.own (xs.map (fun x => (σ.val x).dv) ++ caps) = some args:=by rfl) (h5:r.pureB = true:=by rfl):ACallS P d f xs K σ:=AS_pure hs h1 h2 h3 h4 h5 hK
theorem AG_pu {G:Bool} {A B:Prop} {fid:FuncId} {caps args:List AV} {r:AV} (hs:G = true → FSpec P fid args r) (hK:K (σ.put d (.opt G r))) (h1:(σ.val f).dg = true:=by rfl)
  (h2:G = true → (xs.all fun x => (σ.val x).dg) = true:=by intro hG; first | (simp only [go_sem,init_env',Nat.reduceEqDiff,Nat.reduceAdd,Nat.reduceMul,reduceIte,Nat.reduceLeDiff,Nat.reduceLT,Nat.reduceBEq,reduceCtorEq,hG]; done) | (simp only [go_sem,init_env',Nat.reduceEqDiff,Nat.reduceAdd,Nat.reduceMul,reduceIte,Nat.reduceLeDiff,Nat.reduceLT,Nat.reduceBEq,reduceCtorEq]; revert hG; simp; done) | (simp only [go_sem,init_env',Nat.reduceEqDiff,Nat.reduceAdd,Nat.reduceMul,reduceIte,Nat.reduceLeDiff,Nat.reduceLT,Nat.reduceBEq,reduceCtorEq,hG]; simp_all; done) | (revert hG; simp; done) | simp_all)
  (h3:(σ.val f).dv = .fn fid caps:=by rfl) (h4:AV.portL σ.own (xs.map (fun x => (σ.val x).dv) ++ caps) = some args:=by rfl) (h5:r.pureB = true:=by rfl):ACallG P G d f xs K σ ∨ A ∨ B:=AG_pure hs h1 h2 h3 h4 h5 hK
end
end Go.V

/-
 Operations that the machine has no instruction of its own for: what the model does at them,for the user.
-/
namespace Go.V
theorem RawI_raw {P:Program} {d:Option Nat} {op:Op} {K:St → Prop} {σ:St} (h:∀ (C:Ctx) (loc:Nat → Value) (a:Act) (w:World) (o:Oper),C.P = P → o.op = op → o.dst = d → d.all (· < C.N) = true → G C σ loc a w → ∃ σ',Mnd C σ' a w o ∧ K σ'):RawI P d (.raw op) K σ:=by
 intro C loc a w o hP hc hd hdl hg
 have hop:o.op = op:=by
  generalize o.op = op' at hc
  cases cI_inv hc
  rfl
 subst hd
 exact h C loc a w o hP hop rfl hdl hg
theorem RawI_snd {P:Program} {d:Option Nat} {op:Op} {K:St → Prop} {σ:St} {v:AV} (h:∀ (C:Ctx) (loc:Nat → Value) (a:Act) (w:World) (o:Oper),C.P = P → o.op = op → G C σ loc a w → Snd C σ loc a w o v) (hK:K (σ.put d v)):RawI P d (.raw op) K σ :=
 RawI_raw fun C loc a w o hP ho hd hdl hg => by
  obtain ⟨u,hrun,hr⟩:=h C loc a w o hP ho hg
  exact ⟨_,⟨w,loc,.inl ⟨u,hrun,by rw [hd]; exact hg.put hdl hr⟩⟩,hK⟩
def bval (b:UInt8):Value:=.int .u8 b.toNat
end Go.V

/-
 A region step by step,with what is known of where the objects lie; calls that are lent objects at known places.
-/
namespace Go.V
def SOps (C:Ctx) (is:List Ins) (K:St → Prop) (σ:St):Prop :=
 ∀ (ops:Array Oper) (k:Nat) (Q':Exit → Act → World → Prop),(∀ σ a w,Gam C σ a w → K σ → Q' .normal a w) →
  (∀ (j:Nat) (ins:Ins),is[j]? = some ins → ∃ o,ops[k + j]? = some o ∧ INS C.P C.N ops o ins) → ∀ a w,Gam C σ a w → wpOpsIn C.F 0 C.P ops Q' (List.range' k is.length) a w
section
variable {C:Ctx} {σ σ':St} {K:St → Prop} {is js:List Ins} {i:Ins} {Q:Exit → St → Prop}
theorem SOps_ops (h:AOps C.P is K σ):SOps C is K σ:=fun _ k _ hQ hi a w hg => ops_sound hQ is k σ a w hi hg h
theorem SOps_sem (h:∀ (ops:Array Oper) (o:Oper),INS C.P C.N ops o i → ∀ (Q':Exit → Act → World → Prop) (K':Act → World → Prop),(∀ σ' a' w',Gam C σ' a' w' → SOps C is K σ' → K' a' w') → ∀ a w,Gam C σ a w →
  (if Region.wanted o (yielded ops a.tmps) = true then o.wpIn C.F 0 C.P a w K' Q' else (∀ f,o.about C.P w a.eval = some f → C.F.fn f) ∧ K' (a.put o.dst undef) w)):SOps C (i :: is) K σ:=by
 intro ops k Q' hQ hi a w hg
 obtain ⟨o,ho,hins⟩:=hi 0 i rfl
 simp only [Nat.add_zero] at ho
 have:=h ops o hins Q' (wpOpsIn C.F 0 C.P ops Q' (List.range' (k + 1) is.length)) (fun σ' a' w' hg' hs => hs ops (k + 1) Q' hQ (fun j ins hj => by
  have:=hi (j + 1) ins (by simpa using hj)
  rwa [show k + (j + 1) = k + 1 + j from by omega] at this) a' w' hg') a w hg
 simp only [List.length_cons,List.range'_succ,wpOpsIn,ho]
 exact this
theorem SOps_step (h:AStep C.P i (SOps C is K) σ):SOps C (i :: is) K σ:=SOps_sem fun ops o hins Q' K' hK' a w hg => astep_sound hg hins h (fun σ' a' w' hg' hs => hK' σ' a' w' hg' hs)
theorem SOps_part:∀ {is:List Ins} {σ:St},AOps C.P is (SOps C js K) σ → SOps C (is ++ js) K σ
 | [],σ,h => h
 | i :: is,σ,h => SOps_step (AStep_mono (fun σ1 h1 => SOps_part h1) h)
theorem WV_sops (h:SOps C is (Q .normal) σ):WV C (.ops is) Q σ:=by
 intro c hc
 obtain ⟨id,ops,rfl,hi⟩:=WV_region hc
 intro a w hg
 refine wpIn_region ?_
 have hlen:=WV_region_len hc
 have:=h ops 0 (fun e a' w' => ∃ σ',Gam C σ' a' w' ∧ Q e σ') (fun σ a w hg hk => ⟨σ,hg,hk⟩) (fun j ins hj => by simpa using hi j ins hj) a w hg
 rw [List.range_eq_range']
 rwa [hlen] at this
theorem WV_split (n:Nat) (h:AOps C.P (is.take n) (SOps C (is.drop n) (Q .normal)) σ):WV C (.ops is) Q σ:=by
 have:=SOps_part h
 rw [List.take_append_drop] at this
 exact WV_sops this
end
end Go.V

/-
 A slice of slices that is lent with its rows: object 1000,and the rows from 1001 on.
-/
namespace Go.V
section
variable {α:Type} {cds:α → List CD} {R R':List (Row α)} {j m:Nat} {o:Nat → Ob}
end
end Go.V

/-
 A range over a function that has captured objects of its own; objects that stand for those to come.
-/
namespace Go.V
end Go.V

/-
 Rows that a loop's rounds make,held together: as one object,whose rows and array are known by their addresses; and taken apart again.
-/
namespace Go.V
structure RB where
 b:Nat
 o:Nat
 l:List UInt8
 cap:Nat
def RB.val (r:RB):Value:=.slice (some ⟨r.b,r.o,none⟩) r.l.length r.cap
def holdJ (rows:List RB) (arr:Option Value) (rem:List Ent) (L:List Nat) (w:World):Prop :=
 rem = [] ∧ L.Nodup ∧ (∃ La,L = rows.map RB.b ++ La ∧ (match arr with | none => La = [] | some v => ∃ g cap rest ty,v = .slice (some ⟨g,0,none⟩) rows.length cap ∧ La = [g] ∧ AtC w g (rows.map RB.val ++ rest) ty ∧ rows.length ≤ cap ∧ cap ≤ maxLen ∧ cap ≤ rows.length + rest.length)) ∧
  ∀ r ∈ rows,∃ rest ty,AtC w r.b (r.l.map bval ++ rest) ty ∧ r.cap ≤ r.l.length + rest.length ∧ r.l.length ≤ r.cap ∧ r.cap ≤ maxLen ∧ (0 < r.cap → r.o = 0)
def gF (rows:List RB) (arr:Option Value):Gst:=⟨.bool false,fun rem L _ w => holdJ rows arr rem L w⟩
def hold (rows:List RB) (arr:Option Value):Ob:=.guest (gF rows arr) []
theorem encV_one (L:List Nat):(encV L).oneCell' = false:=rfl
section
variable {C:Ctx} {σ:St}
theorem G.reown {loc loc':Nat → Value} {a:Act} {w:World} {env':Nat → AV} {own':Nat → Ob} (hg:G C σ loc a w) (hp:∀ n,C.pin n → loc' n = loc n)
  (hs:∀ t,RepA w (MM C σ.own loc) loc' (env' t) (a.tmps.getD t undef)) (hm:∀ b o,Mut own' loc' b o → Mut σ.own loc b o) (hf:∀ b,Foot own' loc' b → Foot σ.own loc b)
  (ho:∀ n,ObOk C.P C.A w (MM C σ.own loc) loc' (loc' n) (own' n)) (hd:∀ n m b,n ≠ m → (own' n).has (loc' n) b → (own' m).has (loc' m) b → False):G C ⟨env',own'⟩ loc' a w:=by
 have hsub:∀ b o,MM C own' loc' b o → MM C σ.own loc b o:=fun b o h => h.elim .inl fun h => .inr (hm b o h)
 have hk:Keeps w w (MM C σ.own loc) (MM C own' loc'):=Keeps.less hsub
 refine ⟨hg.fr,hg.m0,hg.kp.trans hk,fun x hx => ?_,hg.mnd,fun n hn => ?_,hg.size,fun t => RepA.keep hk _ _ (hs t),fun n => ?_,hd⟩
 ·obtain ⟨D,e1,e2,e3,e4⟩:=hg.marks x hx
  exact ⟨D,e1,e2,e3,fun h => e4 (hf D h)⟩
 ·obtain ⟨p1,p2,p3⟩:=hg.pin n hn
  exact ⟨p1,(hp n hn).trans p2,p3⟩
 ·exact (ho n).keep' hk (Nat.le_refl _) (fun _ _ => rfl)
theorem encV_inj {L L':List Nat} (h:encV L = encV L'):∀ b,b ∈ L ↔ b ∈ L':=fun b => by rw [← footV_encV,← footV_encV,h]
theorem hold_nopin {loc:Nat → Value} {a:Act} {w:World} {f:Nat} {L:List Nat} (hg:G C σ loc a w) (h:loc f = encV L):¬ C.pin f:=fun hp => by
 obtain ⟨_,h2,h3⟩:=hg.pin f hp
 rw [← h2,h] at h3
 cases h3
theorem nons_rep {w:World} {M:Cells} {loc:Nat → Value}:∀ l:List Value,RepAs w M loc (List.replicate l.length .non) l
 | [] => by simp [RepAs]
 | x :: l => by simp only [List.length_cons,List.replicate_succ,RepAs,RepA]; exact ⟨x,l,rfl,trivial,nons_rep l⟩
end
end Go.V

/-
 The same of an array that a variable's cell refers to; rows that are held,taken apart.
-/
namespace Go.V
section
variable {C:Ctx} {σ:St}
end
end Go.V

/-
 Rows that are held,taken apart: a slice of slices of rows,each an object of its own.
-/
namespace Go.V
section
variable {C:Ctx} {σ:St}
end
section
variable {C:Ctx} {σ:St} {K:St → Prop} {is:List Ins} {Q:Exit → St → Prop}
theorem WV_ex {τ:Type} {v:VC} {S:τ → St} {p:τ → Prop} (h:∀ a w,Gam C σ a w → ∃ x,p x ∧ Gam C (S x) a w) (h2:∀ x,p x → WV C v Q (S x)):WV C v Q σ:=fun c hc a w hg => by
 obtain ⟨x,hp,hx⟩:=h a w hg
 exact h2 x hp c hc a w hx
end
end Go.V

/-
 Calls of functions that have no text: what the model does at them.
-/
namespace Go.V
end Go.V

/-
 A grid that the call owns: lent to others,held on to,and turned into data.
-/
namespace Go.V
section
variable {α:Type} {cds:α → List CD} {R R':List (Row α)} {j m:Nat} {o:Nat → Ob}
end
theorem grp_one (l:List CD):grp 1 l.length l = l.map fun d => [d]:=by
 induction l with
 | nil => rfl
 | cons x l ih => simp only [List.length_cons,grp,List.map_cons,← ih]; rfl
end Go.V

/-
 Drawn regions with calls at known places.
-/
namespace Go.V
section
variable {C:Ctx}
variable {ops:Array Oper} {is:List Ins} {K:St → Prop} {σ:St} {Q:Exit → St → Prop}
section
variable {α:Type} {cds:α → List CD} {R R':List (Row α)} {j m:Nat} {o:Nat → Ob}
end
end
end Go.V

/-
 More operations without an instruction of their own: new bytes of whatever value,a slice that is cut in three,copies into an own object.
-/
namespace Go.V
section
variable {C:Ctx} {σ:St} {K:St → Prop} {is:List Ins} {Q:Exit → St → Prop}
end
end Go.V

/-
 A grid that grows row by row: its rows are objects of a family.
-/
namespace Go.V
section
variable {α:Type} {cds:α → List CD} {C:Ctx} {K:St → Prop} {is:List Ins}
end
end Go.V

/-
 A grid that has grown is lent.
-/
namespace Go.V
section
variable {α:Type} {cds:α → List CD} {C:Ctx} {K:St → Prop} {is:List Ins} {Q:Exit → St → Prop} {v:VC}
end
end Go.V

/-
 A grid of any kind of cells: handed out by a call,and turned into data.
-/
namespace Go.V
section
variable {α:Type} {cds:α → List CD} {C:Ctx} {Q:Exit → St → Prop} {K:St → Prop} {is:List Ins}
end
end Go.V

/-
 Arrays by value: built,and an element taken.
-/
namespace Go.V
theorem raw_bldA {P:Program} {σ:St} {d:Option Nat} {t e:TypeId} {n sz:Nat} {parts:Array (Nat × Operand)} {z:List AV} {ps:List (Nat × Nat × X)} {p:Prop} {r:List AV} {K:St → Prop} (hu:P.underlying t = some (.array n e)) (hs:sizeB P e = some sz) (hz:zeroB P t = some z)
  (h1:(parts.toList.map fun (x:Nat × Operand) => x.2).mapM cX = some (ps.map fun x => x.2.2)) (h2:∀ (i:Nat) (q:Nat × Operand),parts.toList[i]? = some q → ∃ r:Nat × Nat × X,ps[i]? = some r ∧ some (q.1 * sz,sz) = some (r.1,r.2.1))
  (hb:bldGo σ ps z = some (p,r)) (hp:p) (hK:K (σ.put d (.agg r))):RawI P d (.raw (.build t parts)) K σ:=by
 refine RawI_snd (fun C loc a w o hP ho hg => ?_) hK
 subst hP
 obtain ⟨it,zv,hit,hzv,hone,rfl⟩:=zeroB_spec hz
 obtain ⟨arr',hf,hr⟩:=bld_sound hg (fun i => some (i * sz,sz)) parts.toList ps _ zv.cells h1 h2 hb hp (cdOfValue_reps w _ loc _ hone)
 have hie:∃ ie,C.P.info? e = some ie ∧ ie.size = sz:=by
  unfold sizeB at hs
  simpa using hs
 obtain ⟨ie,hie,rfl⟩:=hie
 have hbuilt:C.P.built t (parts.map fun (i,x) => (i,a.eval x)).toList = some arr':=by
  unfold Program.built
  simp only [hit,hu,hzv,hie]
  simpa using hf
 exact ⟨.agg arr',by simp [execOp,ho,run_build w t _ arr' hbuilt],by simp only [RepA]; exact ⟨arr'.toList,by simp,hr⟩⟩
end Go.V

/-
 An object takes another's place,also the place of one that is lent.
-/
namespace Go.V
theorem WV_moveP {C:Ctx} {Q:Exit → St → Prop} {x:VC} {env:Nat → AV} {own:Nat → Ob} (d n:Nat) (hdn:d ≠ n) (hp:¬ C.pin n) (hn:own n = .none) (h:WV C x Q ⟨rnE d n env,rnO d n own⟩):WV C x Q ⟨env,own⟩ :=
 WV_weak (fun _ _ hg => Gam_move hdn hp hn hg) h
end Go.V

/-
 An array of data that a loop's rounds make,held as one object and known by its address; taken and given again.
-/
namespace Go.V
section
variable {τ:Type}
def noLoc:Nat → Value:=fun _ => undef
def arrJ (F:τ → List CD) (sz:Nat) (l:List τ) (arr:Option Value) (rem:List Ent) (L:List Nat) (M:Nat → Nat → Prop) (w:World):Prop :=
 rem = [] ∧ match arr with
  | none => L = []
  | some v => ∃ g cap j lv ty,v = .slice (some ⟨g,0,none⟩) l.length cap ∧ L = [g] ∧ AtC w g lv ty ∧ RepAs w M noLoc (cellsG F l j) lv ∧ l.length ≤ cap ∧ cap ≤ maxLen ∧ cap * sz ≤ l.length * sz + j
def gA (F:τ → List CD) (sz:Nat) (l:List τ) (arr:Option Value):Gst:=⟨.bool false,arrJ F sz l arr⟩
def harr (F:τ → List CD) (sz:Nat) (l:List τ) (arr:Option Value):Ob:=.guest (gA F sz l arr) []
end
section
variable {C:Ctx} {σ:St} {τ:Type} {F:τ → List CD} {sz:Nat}
end
section
variable {C:Ctx} {σ:St} {K:St → Prop} {is:List Ins} {Q:Exit → St → Prop} {τ:Type} {F:τ → List CD} {sz:Nat}
end
end Go.V

/-
 Maps whose keys and values are numbers,or structs of numbers: each one object,known by its address.
-/
namespace Go.V
def kval (ag:Bool) (l:List Int):Value:=if ag then .agg (l.map (Value.int .i64)).toArray else .int .i64 (l.headD 0)
def kav (ag:Bool) (l:List Int):AV:=if ag then .agg (l.map fun n => .c (.int .i64 n)) else .c (.int .i64 (l.headD 0))
theorem reps_ints {w:World} {M:Cells} {loc:Nat → Value}:∀ (l:List Int) (vs:List Value),RepAs w M loc (l.map fun n => .c (.int .i64 n)) vs ↔ vs = l.map (Value.int .i64)
 | [],vs => by simp [RepAs]
 | n :: l,vs => by
  simp only [List.map_cons,RepAs,RepA,RepC]
  constructor
  ·rintro ⟨v,vs',rfl,rfl,h⟩
   rw [(reps_ints l vs').1 h]
  ·rintro rfl
   exact ⟨_,_,rfl,rfl,(reps_ints l _).2 rfl⟩
theorem rep_kav {w:World} {M:Cells} {loc:Nat → Value} {ag:Bool} {l:List Int} {v:Value}:RepA w M loc (kav ag l) v ↔ v = kval ag l:=by
 cases ag
 ·simp [kav,kval,RepA,RepC]
 ·simp only [kav,kval,if_true,RepA]
  constructor
  ·rintro ⟨vs,rfl,h⟩
   rw [(reps_ints l vs).1 h]
  ·rintro rfl
   exact ⟨_,rfl,(reps_ints l _).2 rfl⟩
theorem kval_inj {a b:List Int} (h:kval true a = kval true b):a = b:=by
 simp only [kval,if_true,Value.agg.injEq] at h
 have h2:=congrArg Array.toList h
 simp only at h2
 exact (List.map_inj_right fun x y h => by simpa using h).1 h2
structure KLaw (P:Program) (k:TypeId) (K:Value → Prop):Prop where
 check:∀ (w:World) (em:Bool) {v:Value},K v → (Instr.checkKey em 10000 k v).run P w = .ok () w
 find:∀ (w:World) {x:Value},K x → ∀ es:List MapEntry,(∀ e ∈ es,K e.key) →
  ((Instr.findKey k x es).run P w = .ok none w ∧ ∀ e ∈ es,e.key ≠ x) ∨ ∃ j e,(Instr.findKey k x es).run P w = .ok (some (j,e.val)) w ∧ es[j]? = some e ∧ e.key = x
 stays:∀ (w:World) {v:Value},K v → (Instr.keyThatStays v v).run P w = .ok v w
theorem KLaw.wide {P:Program} {k:TypeId} (h:WideMaps.KeyLaw P k):KLaw P k (fun v => ∃ l,keyOf P k v = some l) :=
 ⟨fun w em _ ⟨_,hv⟩ => h.check w em hv,fun w _ ⟨_,hx⟩ es hes => h.find w hx es hes,fun w _ ⟨_,hv⟩ => h.stays w hv⟩
theorem KLaw.int {P:Program} {k:TypeId} (hk:P.underlying k = some (.int .i64)):KLaw P k (fun v => ∃ n,v = .int .i64 n):=by
 refine ⟨fun w em v ⟨n,hv⟩ => ?_,fun w x ⟨n,hx⟩ es hes => ?_,fun w v ⟨n,hv⟩ => ?_⟩
 ·subst hv; exact MapKept.run_checkKey hk (by simp [MapKept.IsKey]) em 9999
 ·subst hx
  have key:∀ (es:List MapEntry) (i:Nat),(∀ e ∈ es,∃ n,e.key = .int .i64 n) → (Instr.findNow (.int .i64) (.int .i64 n) es i = some none ∧ ∀ e ∈ es,e.key ≠ .int .i64 n) ∨ ∃ j e,Instr.findNow (.int .i64) (.int .i64 n) es i = some (some (i + j,e.val)) ∧ es[j]? = some e ∧ e.key = .int .i64 n:=by
   intro es
   induction es with
   | nil => intro i _; exact .inl ⟨rfl,fun e he => by cases he⟩
   | cons e es ih =>
    intro i he
    obtain ⟨m,hm⟩:=he e (by simp)
    by_cases hnm:n = m
    ·subst hnm
     exact .inr ⟨0,e,by simp [Instr.findNow,Instr.sameNow,hm],rfl,hm⟩
    ·have hb:(n == m) = false:=by simpa using hnm
     rcases ih (i + 1) fun x hx => he x (by simp [hx]) with ⟨k1,k2⟩ | ⟨j,e',k1,k2,k3⟩
     ·refine .inl ⟨by simp only [Instr.findNow,Instr.sameNow,hm,if_true,hb,k1],fun x hx => ?_⟩
      rcases List.mem_cons.1 hx with rfl | hx
      ·rw [hm]; intro h; simp only [Value.int.injEq,true_and] at h; exact hnm h.symm
      ·exact k2 x hx
     ·exact .inr ⟨j + 1,e',by simp only [Instr.findNow,Instr.sameNow,hm,if_true,hb,k1]; rw [show i + 1 + j = i + (j + 1) by omega],by simpa using k2,k3⟩
  rcases key es 0 hes with ⟨k1,k2⟩ | ⟨j,e,k1,k2,k3⟩
  ·exact .inl ⟨MapKept.run_findKey hk k1,k2⟩
  ·exact .inr ⟨j,e,by rw [Nat.zero_add] at k1; exact MapKept.run_findKey hk k1,k2,k3⟩
 ·subst hv; exact MapKept.run_keyThatStays (d:=.int .i64) (by simp [MapKept.IsKey])
abbrev GL:=List (List Int × List Int)
def gvals (ka va:Bool) (l:GL):List (Value × Value):=l.map fun p => (kval ka p.1,kval va p.2)
def gmJ (ka va:Bool) (l:GL) (b:Nat) (rem:List Ent) (L:List Nat) (_:Nat → Nat → Prop) (w:World):Prop :=
 rem = [] ∧ L = [b] ∧ ∃ es clock,w.heap[b]? = some (.map es clock) ∧ MapKept.Stamped es clock ∧ es.toList.map (fun e => (e.key,e.val)) = gvals ka va l
def gmG (ka va:Bool) (l:GL) (b:Nat):Gst:=⟨.bool false,gmJ ka va l b⟩
def gmap (ka va:Bool) (l:GL) (b:Nat):Ob:=.guest (gmG ka va l b) []
theorem gmG_ok (P:Program) (ka va:Bool) (l:GL) (b:Nat):(gmG ka va l b).Ok P:=by
 refine ⟨rfl,?_,?_⟩
 ·rintro rem L M w M' w' ⟨h1,h2,es,clock,h3,h4⟩ hk hb hs
  exact ⟨h1,h2,es,clock,by rw [hb b (by rw [h2]; simp)]; exact h3,h4⟩
 ·rintro args wins r rem L M w loc vs ⟨h1,_⟩
  cases h1
section
variable {C:Ctx} {σ:St} {loc:Nat → Value} {a:Act} {w:World}
theorem G.setGuest (hg:G C σ loc a w) {n b:Nat} {L:List Nat} {g g':Gst} {rem rem':List Ent} {o o':Obj} (hown:σ.own n = .guest g rem) (hloc:loc n = encV L) (hbL:b ∈ L) (hh:w.heap[b]? = some o) (hnd:∀ x,o ≠ .deferred x)
  (hok:g'.Ok C.P) (hJ:∀ M,g'.J rem' L M { w with heap:=w.heap.setIfInBounds b o' }):G C ⟨σ.env,upd σ.own n (.guest g' rem')⟩ loc a { w with heap:=w.heap.setIfInBounds b o' }:=by
 have hob:=hg.objs n
 rw [hown] at hob
 obtain ⟨_,L2,hl2,_,hA⟩:=hob
 have hLL:∀ x,x ∈ L ↔ x ∈ L2:=encV_inj (hloc.symm.trans hl2)
 have hB:=(hA b ((hLL b).1 hbL)).2
 have hnb:(σ.own n).has (loc n) b:=by rw [hown,hloc]; simp only [Ob.has,footV_encV]; exact hbL
 have hset:=MapKept.heap_set (o':=o') hh
 have hhas:∀ (k b2:Nat),(upd σ.own n (.guest g' rem') k).has (loc k) b2 ↔ (σ.own k).has (loc k) b2:=by
  intro k b2
  by_cases hkn:k = n
  ·subst hkn; simp only [upd,if_true]; rw [hown]; exact Iff.rfl
  ·simp only [upd,hkn,if_false]
 have hmut:∀ (k b2 o2:Nat),(upd σ.own n (.guest g' rem') k).mut (loc k) b2 o2 ↔ (σ.own k).mut (loc k) b2 o2:=by
  intro k b2 o2
  by_cases hkn:k = n
  ·subst hkn; simp only [upd,if_true]; rw [hown]; exact Iff.rfl
  ·simp only [upd,hkn,if_false]
 have hk:Keeps w { w with heap:=w.heap.setIfInBounds b o' } (MM C σ.own loc) (MM C (upd σ.own n (.guest g' rem')) loc):=by
  refine ⟨fun p hp hm => cell_setBlock_other w b _ p (fun hpb => hm (.inr ⟨n,?_⟩)),fun p hp hm hm' => ?_⟩
  ·rw [hown,hloc]
   simp only [Ob.mut,footV_encV]
   rw [hpb]; exact hbL
  ·rcases hm' with h0 | ⟨m,h0⟩
   ·exact hm (.inl h0)
   ·exact hm (.inr ⟨m,(hmut m _ _).1 h0⟩)
 have hsz:w.heap.size ≤ ({ w with heap:=w.heap.setIfInBounds b o' }:World).heap.size:=by simp
 have hfr:Fr C { w with heap:=w.heap.setIfInBounds b o' }:=⟨hg.fr.os,hg.fr.tape,hg.fr.output,by have:=hg.fr.size; simpa using this,fun k hk hx => by
  rw [hset.2 k (by rintro rfl; rcases hB with h' | h'; omega; exact hx h')]
  exact hg.fr.block k hk hx⟩
 refine ⟨hfr,hg.m0,hg.kp.trans hk,fun x hx => ?_,hg.mnd,hg.pin,hg.size,fun t => RepA.keep hk _ _ (hg.slots t),fun m => ?_,fun m k b2 hmk hm hk2 => ?_⟩
 ·obtain ⟨D,e1,e2,e3,e4⟩:=hg.marks x hx
  refine ⟨D,e1,e2,?_,fun ⟨k,hk⟩ => e4 ⟨k,(hhas k D).1 hk⟩⟩
  rw [hset.2 D (by rintro rfl; rw [hh] at e3; exact hnd _ (Option.some.inj e3))]
  exact e3
 ·by_cases hmn:m = n
  ·subst hmn
   simp only [upd,if_true]
   exact ⟨hok,L,hloc,hJ _,fun b2 hb2 => ⟨by simpa using (hA b2 ((hLL b2).1 hb2)).1,(hA b2 ((hLL b2).1 hb2)).2⟩⟩
  ·simp only [upd,hmn,if_false]
   exact ObOk.keep' hk hsz (fun b2 hb2 => hset.2 b2 (fun hbb => hg.disj m n b hmn (hbb ▸ hb2) hnb)) (hg.objs m)
 ·exact hg.disj m k b2 hmk ((hhas m b2).1 hm) ((hhas k b2).1 hk2)
end
end Go.V

/-
 Such maps: made,looked into,written.
-/
namespace Go.V
def glook (l:GL) (k:List Int):Option (List Int):=(l.find? fun p => p.1 == k).map (·.2)
def gput (l:GL) (k v:List Int):GL:=if (glook l k).isSome = true then l.map (fun p => if p.1 = k then (k,v) else p) else l ++ [(k,v)]
theorem gv_get {ka va:Bool} {l:GL} {es:List MapEntry} (h:es.map (fun e => (e.key,e.val)) = gvals ka va l) {j:Nat} {e:MapEntry} (he:es[j]? = some e):∃ p,l[j]? = some p ∧ e.key = kval ka p.1 ∧ e.val = kval va p.2:=by
 have h1:(es.map (fun e => (e.key,e.val)))[j]? = some (e.key,e.val):=by rw [List.getElem?_map,he]; rfl
 rw [h] at h1
 unfold gvals at h1
 rw [List.getElem?_map] at h1
 obtain ⟨p,hp,h2⟩:=Option.map_eq_some_iff.1 h1
 simp only [Prod.mk.injEq] at h2
 exact ⟨p,hp,h2.1.symm,h2.2.symm⟩
theorem gv_mem {ka va:Bool} {l:GL} {es:List MapEntry} (h:es.map (fun e => (e.key,e.val)) = gvals ka va l) {p:List Int × List Int} (hp:p ∈ l):∃ e ∈ es,e.key = kval ka p.1 ∧ e.val = kval va p.2:=by
 have h1:(kval ka p.1,kval va p.2) ∈ gvals ka va l:=List.mem_map.2 ⟨p,hp,rfl⟩
 rw [← h] at h1
 obtain ⟨e,he,h2⟩:=List.mem_map.1 h1
 simp only [Prod.mk.injEq] at h2
 exact ⟨e,he,h2.1,h2.2⟩
theorem gv_nodup {ka va:Bool} {l:GL} {es:List MapEntry} (h:es.map (fun e => (e.key,e.val)) = gvals ka va l) (hn:(es.map (·.key)).Nodup):(l.map fun p => kval ka p.1).Nodup:=by
 have:es.map (·.key) = l.map fun p => kval ka p.1:=by
  have h2:=congrArg (List.map Prod.fst) h
  unfold gvals at h2
  rw [List.map_map,List.map_map] at h2
  exact h2
 rwa [← this]
theorem glook_none {ka va:Bool} {l:GL} {es:List MapEntry} {k:List Int} (h:es.map (fun e => (e.key,e.val)) = gvals ka va l) (hno:∀ e ∈ es,e.key ≠ kval ka k):glook l k = none:=by
 unfold glook
 rw [List.find?_eq_none.2 fun p hp hk => ?_]
 ·rfl
 ·obtain ⟨e,he,h1,_⟩:=gv_mem h hp
  have:p.1 = k:=by simpa using hk
  exact hno e he (by rw [h1,this])
theorem glook_some {ka va:Bool} {l:GL} {es:List MapEntry} {k:List Int} (h:es.map (fun e => (e.key,e.val)) = gvals ka va l) (hn:(es.map (·.key)).Nodup) (hinj:∀ p ∈ l,kval ka p.1 = kval ka k → p.1 = k) {j:Nat} {e:MapEntry} (he:es[j]? = some e) (hk:e.key = kval ka k) :
  ∃ v,l[j]? = some (k,v) ∧ glook l k = some v ∧ e.val = kval va v:=by
 obtain ⟨p,hp,h1,h2⟩:=gv_get h he
 have hpm:=List.mem_of_getElem? hp
 have hpk:p.1 = k:=hinj p hpm (h1.symm.trans hk)
 refine ⟨p.2,by rw [hp,← hpk],?_,h2⟩
 unfold glook
 have hs:(l.find? fun p => p.1 == k).isSome = true:=by
  rw [List.find?_isSome]; exact ⟨p,hpm,by simpa using hpk⟩
 obtain ⟨q,hq⟩:=Option.isSome_iff_exists.1 hs
 have hqm:=List.mem_of_find?_eq_some hq
 have hqk:q.1 = k:=by simpa using List.find?_some hq
 rw [hq]
 have hnd:=gv_nodup h hn
 obtain ⟨i,hi,hqi⟩:=List.getElem_of_mem hqm
 obtain ⟨hj,hpj⟩:=List.getElem?_eq_some_iff.1 hp
 have hij:i = j:=by
  have e1:(l.map fun p => kval ka p.1)[i]'(by simpa using hi) = (l.map fun p => kval ka p.1)[j]'(by simpa using hj):=by
   simp only [List.getElem_map]; rw [hqi,hpj,hqk,hpk]
  exact (List.getElem_inj hnd).1 e1
 subst hij
 rw [← hqi,hpj]; rfl
theorem gput_new {l:GL} {k v:List Int} (h:glook l k = none):gput l k v = l ++ [(k,v)]:=by unfold gput; rw [h]; rfl
theorem gput_old {l:GL} {k v u:List Int} (h:glook l k = some u):gput l k v = l.map (fun p => if p.1 = k then (k,v) else p):=by unfold gput; rw [h]; rfl
theorem gput_modify {ka va:Bool} {l:GL} {es:Array MapEntry} {k v:List Int} (h:es.toList.map (fun e => (e.key,e.val)) = gvals ka va l) (hn:(es.toList.map (·.key)).Nodup) (hinj:∀ p ∈ l,kval ka p.1 = kval ka k → p.1 = k) {j:Nat} {e:MapEntry} (he:es.toList[j]? = some e) (hk:e.key = kval ka k) :
  (es.modify j fun e => { e with key:=kval ka k,val:=kval va v }).toList.map (fun e => (e.key,e.val)) = gvals ka va (gput l k v):=by
 obtain ⟨u,hu,hlk,_⟩:=glook_some h hn hinj he hk
 rw [gput_old hlk]
 have hnd:=gv_nodup h hn
 refine List.ext_getElem? fun q => ?_
 have e1:(es.modify j fun e => { e with key:=kval ka k,val:=kval va v }).toList[q]? = if j = q then (es.toList[q]?).map (fun e => { e with key:=kval ka k,val:=kval va v }) else es.toList[q]?:=by
  rw [Array.getElem?_toList,Array.getElem?_modify,Array.getElem?_toList]
 unfold gvals at h ⊢
 rw [List.getElem?_map,e1,List.getElem?_map,List.getElem?_map]
 have h2:(es.toList.map (fun e => (e.key,e.val)))[q]? = (l.map fun p => (kval ka p.1,kval va p.2))[q]?:=by rw [h]
 rw [List.getElem?_map,List.getElem?_map] at h2
 by_cases hjq:j = q
 ·subst hjq
  rw [if_pos rfl,he,hu]
  simp
 ·rw [if_neg hjq,h2]
  cases hq:l[q]? with
  | none => rfl
  | some p =>
   have hpk:p.1 ≠ k:=by
    intro hpk
    obtain ⟨hq1,hq2⟩:=List.getElem?_eq_some_iff.1 hq
    obtain ⟨hj1,hj2⟩:=List.getElem?_eq_some_iff.1 hu
    have e2:(l.map fun p => kval ka p.1)[j]'(by simpa using hj1) = (l.map fun p => kval ka p.1)[q]'(by simpa using hq1):=by
     simp only [List.getElem_map]; rw [hj2,hq2,hpk]
    exact hjq ((List.getElem_inj hnd).1 e2)
   simp [hpk]
theorem run_zero {P:Program} {w:World} {e:TypeId} {z:Value} (hz:(P.info? e).bind (·.zero) = some z):(zeroValue e).run P w = .ok z w:=by
 cases hinf:P.info? e with
 | none => simp [hinf] at hz
 | some inf =>
  simp only [hinf,Option.bind_some] at hz
  simp [zeroValue,typeInfo,hinf,hz]
section
variable {P:Program} {σ:St} {K:St → Prop}
theorem raw_mkG {d:Nat} {t:TypeId} (ka va:Bool) (hn:(σ.own d).isNone = true) (hK:∀ b,K (St.new σ d (.c (.raw (.map (some b)))) (gmap ka va [] b))):RawI P (some d) (.raw (.makeMap t none)) K σ:=by
 refine RawI_raw fun C loc a w o hP ho hod hdl hg => ?_
 have hd:d < C.N:=by simpa using hdl
 refine ⟨_,⟨w.alloc (.map #[] 0),upd loc d (encV [w.heap.size]),.inl ⟨.map (some w.heap.size),?_,?_⟩⟩,hK w.heap.size⟩
 ·have h1:(Instr.makeMap t none).run C.P w = .ok (.map (some w.heap.size)) (w.alloc (.map #[] 0)):=rfl
  simp [execOp,ho,h1]
 ·rw [hod]
  refine hg.newblock hd hn (fun b hb => ?_) (fun M loc' hk hl hv => ?_) (fun M loc' hv => ?_)
  ·simp only [gmap,Ob.has,footV_encV,List.mem_singleton] at hb
   exact hb
  ·refine ⟨gmG_ok _ _ _ _ _,[w.heap.size],rfl,⟨rfl,rfl,#[],0,by rw [alloc_new],MapKept.stamped_empty 0,rfl⟩,fun b hb => ?_⟩
   simp only [List.mem_singleton] at hb
   subst hb
   exact ⟨by simp,.inl hg.fr.size⟩
  ·simp only [RepA,RepC]; exact ⟨trivial,rfl⟩
theorem raw_lookG {d:Option Nat} {t k e:TypeId} {x i:Operand} {x' i':X} {n b:Nat} {ka va:Bool} {l:GL} {key zs:List Int} {Kp:Value → Prop} (ht:P.underlying t = some (.map k e)) (hkl:KLaw P k Kp) (hz:(P.info? e).bind (·.zero) = some (kval va zs))
  (hx:cX x = some x') (hi:cX i = some i') (h1:(σ.val x').dg = true) (h2:(σ.val i').dg = true) (hv:(σ.val x').dv = .c (.raw (.map (some b)))) (hj:(σ.val i').dv = kav ka key) (hown:σ.own n = gmap ka va l b)
  (hkey:Kp (kval ka key)) (hkeys:∀ p ∈ l,Kp (kval ka p.1)) (hinj:∀ p ∈ l,kval ka p.1 = kval ka key → p.1 = key)
  (hK:K (σ.put d (.tup [kav va ((glook l key).getD zs),.c (.bool (glook l key).isSome)]))):RawI P d (.raw (.lookup t x i true)) K σ:=by
 refine RawI_snd (fun C loc a w o hP ho hg => ?_) hK
 subst hP
 have rx:=vald hg hx h1
 have ri:=vald hg hi h2
 rw [hv] at rx
 rw [hj,rep_kav] at ri
 simp only [RepA,RepC] at rx
 have hob:=hg.objs n
 rw [hown] at hob
 obtain ⟨_,L,hl,⟨_,rfl,es,clock,hb,hst,hes⟩,hA⟩:=hob
 have hks:∀ e ∈ es.toList,Kp e.key:=fun e he => by
  have hm:(e.key,e.val) ∈ es.toList.map (fun e => (e.key,e.val)):=List.mem_map.2 ⟨e,he,rfl⟩
  rw [hes] at hm
  obtain ⟨p,hp,h3⟩:=List.mem_map.1 hm
  simp only [Prod.mk.injEq] at h3
  rw [← h3.1]; exact hkeys p hp
 refine ⟨.tuple #[kval va ((glook l key).getD zs),.bool (glook l key).isSome],?_,?_⟩
 ·rcases hkl.find w hkey es.toList hks with ⟨f1,f2⟩ | ⟨j,e0,f1,f2,f3⟩
  ·rw [glook_none hes f2]
   simp [execOp,ho,rx.1,ri,Instr.lookup,run_underlying ht,MapKept.run_getObj_map hb,hkl.check w _ hkey,f1,run_zero hz]
  ·obtain ⟨v,g1,g2,g3⟩:=glook_some hes hst.2.2 hinj f2 f3
   rw [g2]
   simp [execOp,ho,rx.1,ri,Instr.lookup,run_underlying ht,MapKept.run_getObj_map hb,hkl.check w _ hkey,f1,g3]
 ·simp only [RepA]
  refine ⟨[_,_],rfl,?_⟩
  simp only [RepAs]
  exact ⟨_,_,rfl,rep_kav.2 rfl,_,_,rfl,by simp only [RepA,RepC],rfl⟩
theorem raw_putG {op:Op} {t k e:TypeId} {x i v:Operand} {x' i' v':X} {n b:Nat} {ka va:Bool} {l:GL} {key val:List Int} {Kp:Value → Prop} (hop:op = .mapUpdate t x i v ∨ op = .insert t x i v) (ht:P.underlying t = some (.map k e)) (hkl:KLaw P k Kp)
  (hx:cX x = some x') (hi:cX i = some i') (hvx:cX v = some v') (h1:(σ.val x').dg = true) (h2:(σ.val i').dg = true) (h3:(σ.val v').dg = true) (hv:(σ.val x').dv = .c (.raw (.map (some b)))) (hj:(σ.val i').dv = kav ka key) (hw:(σ.val v').dv = kav va val) (hown:σ.own n = gmap ka va l b)
  (hkey:Kp (kval ka key)) (hkeys:∀ p ∈ l,Kp (kval ka p.1)) (hinj:∀ p ∈ l,kval ka p.1 = kval ka key → p.1 = key)
  (hK:K ⟨σ.env,upd σ.own n (gmap ka va (gput l key val) b)⟩):RawI P none (.raw op) K σ:=by
 refine RawI_raw fun C loc a w o hP ho hod hdl hg => ?_
 subst hP
 have rx:=vald hg hx h1
 have ri:=vald hg hi h2
 have rv:=vald hg hvx h3
 rw [hv] at rx
 rw [hj,rep_kav] at ri
 rw [hw,rep_kav] at rv
 simp only [RepA,RepC] at rx
 have hob:=hg.objs n
 rw [hown] at hob
 obtain ⟨_,L,hl,⟨_,rfl,es,clock,hb,hst,hes⟩,hA⟩:=hob
 have hks:∀ e ∈ es.toList,Kp e.key:=fun e he => by
  have hm:(e.key,e.val) ∈ es.toList.map (fun e => (e.key,e.val)):=List.mem_map.2 ⟨e,he,rfl⟩
  rw [hes] at hm
  obtain ⟨p,hp,h3⟩:=List.mem_map.1 hm
  simp only [Prod.mk.injEq] at h3
  rw [← h3.1]; exact hkeys p hp
 have hrun:∃ es' clock',(Instr.mapUpdate t (.map (some b)) (kval ka key) (kval va val)).run C.P w = .ok () { w with heap:=w.heap.setIfInBounds b (.map es' clock') } ∧ MapKept.Stamped es' clock' ∧ es'.toList.map (fun e => (e.key,e.val)) = gvals ka va (gput l key val):=by
  rcases hkl.find w hkey es.toList hks with ⟨f1,f2⟩ | ⟨j,e0,f1,f2,f3⟩
  ·refine ⟨es.push { key:=kval ka key,val:=kval va val,born:=clock },clock + 1,?_,MapKept.stamped_push hst f2,?_⟩
   ·simp [Instr.mapUpdate,run_underlying ht,MapKept.run_getObj_map hb,hkl.check w _ hkey,f1,MapKept.run_setObj_map _ hb]
   ·rw [gput_new (glook_none hes f2),Array.toList_push,List.map_append,hes]
    unfold gvals
    rw [List.map_append]; rfl
  ·have hj':es[j]? = some e0:=by simpa using f2
   refine ⟨es.modify j fun e => { e with key:=kval ka key,val:=kval va val },clock,?_,MapKept.stamped_modify hst j _ (fun e _ => rfl) (fun e _ he => ?_),gput_modify hes hst.2.2 hinj f2 f3⟩
   ·simp [Instr.mapUpdate,run_underlying ht,MapKept.run_getObj_map hb,hkl.check w _ hkey,f1,hj',f3,hkl.stays w hkey,MapKept.run_setObj_map _ hb]
   ·rw [hj'] at he
    rw [← Option.some.inj he,f3]
 obtain ⟨es',clock',hr1,hr2,hr3⟩:=hrun
 refine ⟨_,⟨{ w with heap:=w.heap.setIfInBounds b (.map es' clock') },loc,.inr ⟨?_,?_⟩⟩,hK⟩
 ·rcases hop with rfl | rfl <;> simp [execOp,ho,rx.1,ri,rv,hr1]
 ·rw [hod]
  refine hg.setGuest (g:=gmG ka va l b) hown hl (by simp) hb (fun x h => by cases h) (gmG_ok _ _ _ _ _) fun M => ⟨rfl,rfl,es',clock',(MapKept.heap_set hb).1,hr2,hr3⟩
end
end Go.V

/-
 Ranges over such maps: in whatever order.
-/
namespace Go.V
def gmE (es:Array MapEntry) (clock b:Nat):Gst:=⟨.bool false,fun rem L _ w => rem = [] ∧ L = [b] ∧ w.heap[b]? = some (.map es clock)⟩
def mapE (es:Array MapEntry) (clock b:Nat):Ob:=.guest (gmE es clock b) []
def gIt (r b since:Nat) (seen:Array Nat) (last:Nat):Gst:=⟨.bool false,fun rem L _ w => rem = [] ∧ L = [r] ∧ w.heap[r]? = some (.mapIter (some b) since seen last)⟩
def iterE (r b since:Nat) (seen:Array Nat) (last:Nat):Ob:=.guest (gIt r b since seen last) []
theorem gmE_ok (P:Program) (es:Array MapEntry) (clock b:Nat):(gmE es clock b).Ok P:=by
 refine ⟨rfl,?_,?_⟩
 ·rintro rem L M w M' w' ⟨h1,h2,h3⟩ hk hb hs
  exact ⟨h1,h2,by rw [hb b (by rw [h2]; simp)]; exact h3⟩
 ·rintro args wins r rem L M w loc vs ⟨h1,_⟩
  cases h1
theorem gIt_ok (P:Program) (r b since:Nat) (seen:Array Nat) (last:Nat):(gIt r b since seen last).Ok P:=by
 refine ⟨rfl,?_,?_⟩
 ·rintro rem L M w M' w' ⟨h1,h2,h3⟩ hk hb hs
  exact ⟨h1,h2,by rw [hb r (by rw [h2]; simp)]; exact h3⟩
 ·rintro args wins r rem L M w loc vs ⟨h1,_⟩
  cases h1
section
variable {C:Ctx} {σ:St} {loc:Nat → Value} {a:Act} {w:World}
theorem G.reguest (hg:G C σ loc a w) {n:Nat} {L:List Nat} {g g':Gst} {rem rem':List Ent} (hown:σ.own n = .guest g rem) (hloc:loc n = encV L) (hok:g'.Ok C.P) (hJ:∀ M,g'.J rem' L M w):G C ⟨σ.env,upd σ.own n (.guest g' rem')⟩ loc a w:=by
 have hob:=hg.objs n
 rw [hown] at hob
 obtain ⟨_,L2,hl2,_,hA⟩:=hob
 have hLL:∀ x,x ∈ L ↔ x ∈ L2:=encV_inj (hloc.symm.trans hl2)
 have hhas:∀ (k b2:Nat),(upd σ.own n (.guest g' rem') k).has (loc k) b2 ↔ (σ.own k).has (loc k) b2:=by
  intro k b2
  by_cases hkn:k = n
  ·subst hkn; simp only [upd,if_true]; rw [hown]; exact Iff.rfl
  ·simp only [upd,hkn,if_false]
 have hmut:∀ (k b2 o2:Nat),(upd σ.own n (.guest g' rem') k).mut (loc k) b2 o2 ↔ (σ.own k).mut (loc k) b2 o2:=by
  intro k b2 o2
  by_cases hkn:k = n
  ·subst hkn; simp only [upd,if_true]; rw [hown]; exact Iff.rfl
  ·simp only [upd,hkn,if_false]
 refine hg.reown (fun _ _ => rfl) hg.slots (fun b o ⟨m,h⟩ => ⟨m,(hmut m b o).1 h⟩) (fun b ⟨m,h⟩ => ⟨m,(hhas m b).1 h⟩) (fun m => ?_) (fun m k b hmk h1 h2 => hg.disj m k b hmk ((hhas m b).1 h1) ((hhas k b).1 h2))
 by_cases hmn:m = n
 ·subst hmn
  simp only [upd,if_true]
  exact ⟨hok,L,hloc,hJ _,fun b hb => hA b ((hLL b).1 hb)⟩
 ·simp only [upd,hmn,if_false]
  exact hg.objs m
theorem Gam_openG {n b:Nat} {ka va:Bool} {l:GL} (hown:σ.own n = gmap ka va l b):∀ a w,Gam C σ a w → ∃ x:Array MapEntry × Nat,(MapKept.Stamped x.1 x.2 ∧ x.1.toList.map (fun e => (e.key,e.val)) = gvals ka va l) ∧ Gam C ⟨σ.env,upd σ.own n (mapE x.1 x.2 b)⟩ a w:=by
 rintro a w ⟨loc,hg⟩
 have hob:=hg.objs n
 rw [hown] at hob
 obtain ⟨_,L,hl,⟨_,rfl,es,clock,hb,hst,hes⟩,_⟩:=hob
 exact ⟨(es,clock),⟨hst,hes⟩,loc,hg.reguest (g:=gmG ka va l b) hown hl (gmE_ok _ _ _ _) fun M => ⟨rfl,rfl,hb⟩⟩
theorem Gam_closeG {n b:Nat} {ka va:Bool} {l:GL} {es:Array MapEntry} {clock:Nat} (hown:σ.own n = mapE es clock b) (hst:MapKept.Stamped es clock) (hes:es.toList.map (fun e => (e.key,e.val)) = gvals ka va l):∀ a w,Gam C σ a w → Gam C ⟨σ.env,upd σ.own n (gmap ka va l b)⟩ a w:=by
 rintro a w ⟨loc,hg⟩
 have hob:=hg.objs n
 rw [hown] at hob
 obtain ⟨_,L,hl,⟨_,rfl,hb⟩,_⟩:=hob
 exact ⟨loc,hg.reguest (g:=gmE es clock b) hown hl (gmG_ok _ _ _ _ _) fun M => ⟨rfl,rfl,es,clock,hb,hst,hes⟩⟩
end
section
variable {C:Ctx} {σ:St} {K:St → Prop} {is:List Ins} {Q:Exit → St → Prop}
theorem WV_openG {v:VC} (n:Nat) {b:Nat} {ka va:Bool} {l:GL} (hown:σ.own n = gmap ka va l b) (h:∀ es clock,MapKept.Stamped es clock → es.toList.map (fun e => (e.key,e.val)) = gvals ka va l → WV C v Q ⟨σ.env,upd σ.own n (mapE es clock b)⟩):WV C v Q σ :=
 WV_ex (Gam_openG hown) fun x hx => h x.1 x.2 hx.1 hx.2
theorem WV_closeG {v:VC} (n:Nat) {b:Nat} (ka va:Bool) (l:GL) {es:Array MapEntry} {clock:Nat} (hown:σ.own n = mapE es clock b) (hst:MapKept.Stamped es clock) (hes:es.toList.map (fun e => (e.key,e.val)) = gvals ka va l) (h:WV C v Q ⟨σ.env,upd σ.own n (gmap ka va l b)⟩):WV C v Q σ :=
 WV_weak (Gam_closeG hown hst hes) h
end
section
variable {P:Program} {σ:St} {K:St → Prop}
theorem raw_rangeE {d:Nat} {t k e:TypeId} {x:Operand} {x':X} {n b clock:Nat} {es:Array MapEntry} (ht:P.underlying t = some (.map k e)) (hx:cX x = some x') (h1:(σ.val x').dg = true) (hv:(σ.val x').dv = .c (.raw (.map (some b)))) (hown:σ.own n = mapE es clock b) (hn:(σ.own d).isNone = true)
  (hK:∀ r,K (St.new σ d (.c (.raw (.pointer (some ⟨r,0,none⟩)))) (iterE r b clock #[] clock))):RawI P (some d) (.raw (.range t x)) K σ:=by
 refine RawI_raw fun C loc a w o hP ho hod hdl hg => ?_
 subst hP
 have hd:d < C.N:=by simpa using hdl
 have rx:=vald hg hx h1
 rw [hv] at rx
 simp only [RepA,RepC] at rx
 have hob:=hg.objs n
 rw [hown] at hob
 obtain ⟨_,L,hl,⟨_,rfl,hb⟩,_⟩:=hob
 refine ⟨_,⟨w.alloc (.mapIter (some b) clock #[] clock),upd loc d (encV [w.heap.size]),.inl ⟨.pointer (some ⟨w.heap.size,0,none⟩),?_,?_⟩⟩,hK w.heap.size⟩
 ·have h:=run_range_map (P:=C.P) w t k e b es clock ht hb
  simp [execOp,ho,rx.1,h]
 ·rw [hod]
  refine hg.newblock hd hn (fun b hb => ?_) (fun M loc' hk hl hv => ?_) (fun M loc' hv => ?_)
  ·simp only [iterE,Ob.has,footV_encV,List.mem_singleton] at hb
   exact hb
  ·refine ⟨gIt_ok _ _ _ _ _ _,[w.heap.size],rfl,⟨rfl,rfl,by rw [alloc_new]⟩,fun b hb => ?_⟩
   simp only [List.mem_singleton] at hb
   subst hb
   exact ⟨by simp,.inl hg.fr.size⟩
  ·simp only [RepA,RepC]; exact ⟨trivial,rfl⟩
theorem raw_nextE {d:Option Nat} {x:Operand} {x':X} {n m b r since last clock:Nat} {seen:Array Nat} {es:Array MapEntry} {ka va:Bool} {l:GL} (hx:cX x = some x') (h1:(σ.val x').dg = true) (hv:(σ.val x').dv = .c (.raw (.pointer (some ⟨r,0,none⟩)))) (hown:σ.own n = mapE es clock b)
  (hit:σ.own m = iterE r b since seen last) (hold:∀ x ∈ es.toList,x.born < since) (hsl:since ≤ last) (hes:es.toList.map (fun e => (e.key,e.val)) = gvals ka va l)
  (hK0:(leftOf es seen).size = 0 → K (σ.put d (.tup [.c (.bool false)])))
  (hK1:∀ e k v,e ∈ (leftOf es seen).toList → (k,v) ∈ l → e.key = kval ka k → e.val = kval va v → K (St.put ⟨σ.env,upd σ.own m (iterE r b since (seen.push e.born) clock)⟩ d (.tup [.c (.bool true),kav ka k,kav va v]))):RawI P d (.raw (.next x false)) K σ:=by
 refine RawI_raw fun C loc a w o hP ho hod hdl hg => ?_
 subst hP
 have rx:=vald hg hx h1
 rw [hv] at rx
 simp only [RepA,RepC] at rx
 have hob:=hg.objs n
 rw [hown] at hob
 obtain ⟨_,L,hl,⟨_,rfl,hb⟩,_⟩:=hob
 have hob2:=hg.objs m
 rw [hit] at hob2
 obtain ⟨_,L2,hl2,⟨_,rfl,hr⟩,_⟩:=hob2
 rcases run_next_at (P:=C.P) w o.type r b since last seen es clock hr hb hold hsl with ⟨k1,k2⟩ | ⟨e,he,w1,hw1,k2⟩
 ·refine ⟨_,⟨w,loc,.inl ⟨.tuple #[.bool false],by simp [execOp,ho,rx.1,k2],?_⟩⟩,hK0 k1⟩
  rw [hod]
  refine hg.put hdl ?_
  simp only [RepA]
  exact ⟨[_],rfl,by simp only [RepAs,RepA,RepC]; exact ⟨_,_,rfl,rfl,rfl⟩⟩
 ·have hem:e ∈ es.toList:=by
   unfold leftOf at he
   simp at he
   simpa using he.1
  have hpm:(e.key,e.val) ∈ gvals ka va l:=by rw [← hes]; exact List.mem_map.2 ⟨e,hem,rfl⟩
  obtain ⟨⟨k,v⟩,hkv,hkv2⟩:=List.mem_map.1 hpm
  simp only [Prod.mk.injEq] at hkv2
  have hg1:G C σ loc a w1:=by rcases hw1 with rfl | rfl; exact hg; exact hg.drew
  have hr1:w1.heap[r]? = some (.mapIter (some b) since seen last):=by rcases hw1 with rfl | rfl <;> exact hr
  have hg2:=hg1.setGuest (g:=gIt r b since seen last) (g':=gIt r b since (seen.push e.born) clock) (rem':=[]) (o':=.mapIter (some b) since (seen.push e.born) clock) hit hl2 (by simp) hr1 (fun x h => by cases h) (gIt_ok _ _ _ _ _ _) fun M => ⟨rfl,rfl,(MapKept.heap_set hr1).1⟩
  refine ⟨_,⟨_,loc,.inl ⟨.tuple #[.bool true,e.key,e.val],by simp only [execOp,ho,rx.1]; simp [k2]; rfl,?_⟩⟩,hK1 e k v he hkv hkv2.1.symm hkv2.2.symm⟩
  rw [hod]
  refine hg2.put hdl ?_
  simp only [RepA]
  exact ⟨[_,_,_],rfl,by simp only [RepAs]; exact ⟨_,_,rfl,by simp only [RepA,RepC],_,_,rfl,rep_kav.2 hkv2.1.symm,_,_,rfl,rep_kav.2 hkv2.2.symm,rfl⟩⟩
theorem raw_entryE {d:Option Nat} {x:Operand} {x':X} {n m b r since clock:Nat} {seen:Array Nat} {es:Array MapEntry} {e:MapEntry} {ka va:Bool} {k v:List Int} (hx:cX x = some x') (h1:(σ.val x').dg = true) (hv:(σ.val x').dv = .c (.raw (.pointer (some ⟨r,0,none⟩)))) (hown:σ.own n = mapE es clock b)
  (hit:σ.own m = iterE r b since (seen.push e.born) clock) (hst:MapKept.Stamped es clock) (he:e ∈ es.toList) (hk:e.key = kval ka k) (hvv:e.val = kval va v) (hK:K (σ.put d (.tup [kav ka k,kav va v]))):RawI P d (.raw (.entry x)) K σ:=by
 refine RawI_snd (fun C loc a w o hP ho hg => ?_) hK
 subst hP
 have rx:=vald hg hx h1
 rw [hv] at rx
 simp only [RepA,RepC] at rx
 have hob:=hg.objs n
 rw [hown] at hob
 obtain ⟨_,L,hl,⟨_,rfl,hb⟩,_⟩:=hob
 have hob2:=hg.objs m
 rw [hit] at hob2
 obtain ⟨_,L2,hl2,⟨_,rfl,hr⟩,_⟩:=hob2
 have h:=run_entry_at (P:=C.P) w r b since seen es clock e hr hb he hst.2.1
 refine ⟨.tuple #[e.key,e.val],by simp [execOp,ho,rx.1,h],?_⟩
 simp only [RepA]
 exact ⟨[_,_],rfl,by simp only [RepAs]; exact ⟨_,_,rfl,rep_kav.2 hk,_,_,rfl,rep_kav.2 hvv,rfl⟩⟩
end
end Go.V

/-
 Slices of numbers,each one object and known by its address: made,read,cut,grown.
-/
namespace Go.V
section
variable {C:Ctx} {σ:St} {loc:Nat → Value} {a:Act} {w:World}
theorem G.turnGuest (hg:G C σ loc a w) {n:Nat} {L L':List Nat} {g g':Gst} {rem rem':List Ent} {w':World} (hown:σ.own n = .guest g rem) (hloc:loc n = encV L) (h1:w'.os = w.os) (h2:w'.tape = w.tape) (h3:w'.output = w.output)
  (hs:w.heap.size ≤ w'.heap.size) (hb:∀ k,k < w.heap.size → k ∉ L → w'.heap[k]? = w.heap[k]?) (hd:∀ D:Nat,w.heap[D]? = some markO → w'.heap[D]? = w.heap[D]?) (hL:∀ k ∈ L',k < w'.heap.size ∧ (k ∈ L ∨ w.heap.size ≤ k))
  (hok:g'.Ok C.P) (hJ:∀ M,g'.J rem' L' M w'):G C ⟨σ.env,upd σ.own n (.guest g' rem')⟩ (upd loc n (encV L')) a w':=by
 have hob:=hg.objs n
 rw [hown] at hob
 obtain ⟨_,L2,hl2,_,hA⟩:=hob
 have hLL:∀ x,x ∈ L ↔ x ∈ L2:=encV_inj (hloc.symm.trans hl2)
 have hnp:¬ C.pin n:=hold_nopin hg hloc
 have hl:∀ m,(loc m).oneCell' = true → upd loc n (encV L') m = loc m:=fun m hm => by
  by_cases e:m = n
  ·subst e; rw [hloc,encV_one] at hm; cases hm
  ·simp [upd,e]
 have hnb:∀ b,(σ.own n).has (loc n) b ↔ b ∈ L:=fun b => by rw [hown,hloc]; simp only [Ob.has,footV_encV]
 have hB:∀ b ∈ L,C.A b:=fun b hb => (hA b ((hLL b).1 hb)).2
 have hlt:∀ b ∈ L,b < w.heap.size:=fun b hb => (hA b ((hLL b).1 hb)).1
 have hfr:Fr C w':=⟨h1.trans hg.fr.os,h2.trans hg.fr.tape,h3.trans hg.fr.output,Nat.le_trans hg.fr.size hs,fun k hk hx => by
  rw [hb k (Nat.lt_of_lt_of_le hk hg.fr.size) fun hkL => by rcases hB k hkL with h | h; omega; exact hx h]
  exact hg.fr.block k hk hx⟩
 have hhas:∀ m b,(upd σ.own n (.guest g' rem') m).has (upd loc n (encV L') m) b → (m = n ∧ b ∈ L') ∨ (m ≠ n ∧ (σ.own m).has (loc m) b):=by
  intro m b h
  by_cases e:m = n
  ·subst e; simp only [upd,if_true,Ob.has,footV_encV] at h; exact .inl ⟨rfl,h⟩
  ·simp only [upd,e,if_false] at h; exact .inr ⟨e,h⟩
 have hmut:∀ m b o,(upd σ.own n (.guest g' rem') m).mut (upd loc n (encV L') m) b o → (m = n ∧ b ∈ L') ∨ (m ≠ n ∧ (σ.own m).mut (loc m) b o):=by
  intro m b o h
  by_cases e:m = n
  ·subst e; simp only [upd,if_true,Ob.mut,footV_encV] at h; exact .inl ⟨rfl,h⟩
  ·simp only [upd,e,if_false] at h; exact .inr ⟨e,h⟩
 have hk:Keeps w w' (MM C σ.own loc) (MM C (upd σ.own n (.guest g' rem')) (upd loc n (encV L'))):=by
  refine ⟨fun p hp hm => ?_,fun p hp hm hm' => ?_⟩
  ·refine World.cell?_of_block (hb _ (cell_lt hp) fun hpL => hm (.inr ⟨n,?_⟩))
   rw [hown,hloc]
   simp only [Ob.mut,footV_encV]
   exact hpL
  ·rcases hm' with h0 | ⟨m,h0⟩
   ·exact hm (.inl h0)
   ·rcases hmut m _ _ h0 with ⟨rfl,hbL⟩ | ⟨_,h4⟩
    ·rcases (hL _ hbL).2 with h5 | h5
     ·refine hm (.inr ⟨m,?_⟩)
      rw [hown,hloc]
      simp only [Ob.mut,footV_encV]
      exact h5
     ·have:=cell_lt hp; omega
    ·exact hm (.inr ⟨m,h4⟩)
 refine ⟨hfr,hg.m0,hg.kp.trans hk,fun x hx => ?_,hg.mnd,fun m hm => ?_,hg.size,fun t => RepA.reloc hl (RepA.keep hk _ _ (hg.slots t)),fun m => ?_,fun m k b hmk e1 e2 => ?_⟩
 ·obtain ⟨D,e1,e2,e3,e4⟩:=hg.marks x hx
  refine ⟨D,e1,e2,(hd D e3).trans e3,fun ⟨m,hm⟩ => ?_⟩
  rcases hhas m D hm with ⟨rfl,h5⟩ | ⟨_,h5⟩
  ·rcases (hL D h5).2 with h6 | h6
   ·exact e4 ⟨m,(hnb D).2 h6⟩
   ·have:=(Array.getElem?_eq_some_iff.1 e3).1; omega
  ·exact e4 ⟨m,h5⟩
 ·obtain ⟨p1,p2,p3⟩:=hg.pin m hm
  have:m ≠ n:=fun e => hnp (e ▸ hm)
  exact ⟨p1,by simp only [upd,this,if_false]; exact p2,p3⟩
 ·by_cases e:m = n
  ·subst e
   simp only [upd,if_true]
   refine ⟨hok,L',rfl,hJ _,fun b hbL => ⟨(hL b hbL).1,?_⟩⟩
   rcases (hL b hbL).2 with h5 | h5
   ·exact hB b h5
   ·exact .inl (Nat.le_trans hg.fr.size h5)
  ·simp only [upd,e,if_false]
   exact ObOk.reloc hl (ObOk.keep' hk hs (fun b hb' => hb b ((hg.objs m).lt hb') fun hbL => hg.disj m n b e hb' ((hnb b).2 hbL)) (hg.objs m))
 ·rcases hhas m b e1 with ⟨rfl,h5⟩ | ⟨hm,h5⟩ <;> rcases hhas k b e2 with ⟨rfl,h6⟩ | ⟨hk',h6⟩
  ·exact hmk rfl
  ·rcases (hL b h5).2 with h7 | h7
   ·exact hg.disj k m b hk' h6 ((hnb b).2 h7)
   ·have:=(hg.objs k).lt h6; omega
  ·rcases (hL b h6).2 with h7 | h7
   ·exact hg.disj m k b hm h5 ((hnb b).2 h7)
   ·have:=(hg.objs m).lt h5; omega
  ·exact hg.disj m k b hmk h5 h6
end
def qvals (xs:List (List Int)):List Value:=xs.flatten.map (Value.int .i64)
def queJ (e:TypeId) (sz:Nat) (xs:List (List Int)) (b off cap:Nat) (rem:List Ent) (L:List Nat) (_:Nat → Nat → Prop) (w:World):Prop :=
 rem = [] ∧ L = [b] ∧ ∃ cur:Array Value,w.heap[b]? = some (.cells cur e (0,0)) ∧ off + cap * sz ≤ cur.size ∧ (∀ x ∈ xs,x.length = sz) ∧ xs.length ≤ cap ∧ cap ≤ maxLen ∧ (cur.toList.drop off).take (xs.length * sz) = qvals xs
def qG (e:TypeId) (sz:Nat) (xs:List (List Int)) (b off cap:Nat):Gst:=⟨.bool false,queJ e sz xs b off cap⟩
def qO (e:TypeId) (sz:Nat) (xs:List (List Int)) (b off cap:Nat):Ob:=.guest (qG e sz xs b off cap) []
def qv (b off n cap:Nat):AV:=.c (.raw (.slice (some ⟨b,off,none⟩) n cap))
def qp (b off:Nat):AV:=.c (.raw (.pointer (some ⟨b,off,none⟩)))
def icds (xs:List (List Int)):List (List CD):=xs.map fun x => x.map (CD.int .i64)
theorem qG_ok (P:Program) (e:TypeId) (sz:Nat) (xs:List (List Int)) (b off cap:Nat):(qG e sz xs b off cap).Ok P:=by
 refine ⟨rfl,?_,?_⟩
 ·rintro rem L M w M' w' ⟨h1,h2,cur,h3,h4⟩ hk hb hs
  exact ⟨h1,h2,cur,by rw [hb b (by rw [h2]; simp)]; exact h3,h4⟩
 ·rintro args wins r rem L M w loc vs ⟨h1,_⟩
  cases h1
theorem add_at (b off j:Nat):(⟨b,off,none⟩ : Addr).add j = ⟨b,off + j,none⟩:=by unfold Addr.add; split <;> simp_all
theorem icds_flat (xs:List (List Int)):(icds xs).flatten = xs.flatten.map (CD.int .i64):=by unfold icds; rw [List.map_flatten]
theorem reps_icds {w:World} {M:Cells} {loc:Nat → Value} {xs:List (List Int)} {l:List Value}:RepAs w M loc ((icds xs).flatten.map .c) l ↔ l = qvals xs:=by
 rw [icds_flat,List.map_map]
 exact reps_ints (xs.flatten) l
theorem qlen {sz:Nat} {xs:List (List Int)} (h:∀ x ∈ xs,x.length = sz):(qvals xs).length = xs.length * sz:=by
 unfold qvals
 rw [List.length_map]
 induction xs with
 | nil => simp
 | cons x xs ih => rw [List.flatten_cons,List.length_append,ih fun y hy => h y (by simp [hy]),h x (by simp),List.length_cons,Nat.add_mul]; omega
theorem qvals_app (xs ys:List (List Int)):qvals (xs ++ ys) = qvals xs ++ qvals ys:=by unfold qvals; simp
theorem qvals_drop {sz:Nat}:∀ {xs:List (List Int)} (k:Nat),(∀ x ∈ xs,x.length = sz) → qvals (xs.drop k) = (qvals xs).drop (k * sz)
 | xs,0,_ => by simp
 | [],k + 1,_ => by simp [qvals]
 | x :: xs,k + 1,h => by
  rw [List.drop_succ_cons,qvals_drop k fun y hy => h y (by simp [hy])]
  have hx:=h x (by simp)
  have:qvals (x :: xs) = x.map (Value.int .i64) ++ qvals xs:=by simp [qvals]
  rw [this,show (k + 1) * sz = sz + k * sz by rw [Nat.add_mul]; omega,← List.drop_drop,List.drop_left' (by rw [List.length_map,hx])]
theorem qvals_at {sz:Nat} {xs:List (List Int)} {i:Nat} {x:List Int} (h:∀ x ∈ xs,x.length = sz) (hi:xs[i]? = some x) {j:Nat} (hj:j < sz):(qvals xs)[i * sz + j]? = (x.map (Value.int .i64))[j]?:=by
 have h1:=qvals_drop (sz:=sz) i h
 obtain ⟨hlt,hx⟩:=List.getElem?_eq_some_iff.1 hi
 rw [List.drop_eq_getElem_cons hlt,hx] at h1
 have h2:qvals (x :: xs.drop (i + 1)) = x.map (Value.int .i64) ++ qvals (xs.drop (i + 1)):=by simp [qvals]
 rw [← List.getElem?_drop,← h1,h2,List.getElem?_append_left (by rw [List.length_map,h x (List.mem_of_getElem? hi)]; exact hj)]
section
variable {P:Program} {σ:St} {K:St → Prop}
theorem RawI_sndI {d:Option Nat} {i:I} {v:AV} (h:∀ (C:Ctx) (loc:Nat → Value) (a:Act) (w:World) (o:Oper),C.P = P → CI P o.op i → G C σ loc a w → Snd C σ loc a w o v) (hK:K (σ.put d v)):RawI P d i K σ:=by
 intro C loc a w o hP hc hd hdl hg
 obtain ⟨u,hrun,hr⟩:=h C loc a w o hP (by rw [← hP]; exact cI_inv hc) hg
 exact ⟨_,⟨w,loc,.inl ⟨u,hrun,by rw [hd] at hdl ⊢; exact hg.put hdl hr⟩⟩,hK⟩
theorem raw_ia {d:Option Nat} {sz:Nat} {x i:X} {b off n cap:Nat} {k:IntKind} {j:Int} (h1:(σ.val x).dg = true) (h2:(σ.val i).dg = true) (hv:(σ.val x).dv = qv b off n cap) (hj:(σ.val i).dv = .c (.int k j)) (h0:0 ≤ j) (hn:j < n)
  (hK:K (σ.put d (qp b (off + j.toNat * sz)))):RawI P d (.ia sz x i) K σ:=by
 refine RawI_sndI (fun C loc a w o hP hci hg => ?_) hK
 subst hP
 generalize ho:o.op = op at hci
 cases hci with
 | ia ht hs hx hi =>
  have rx:=vald hg hx h1
  have ri:=vald hg hi h2
  rw [hv] at rx
  rw [hj] at ri
  simp only [qv,RepA,RepC] at rx ri
  refine ⟨.pointer (some ⟨b,off + j.toNat * sz,none⟩),?_,by simp only [qp,RepA,RepC]; exact ⟨trivial,rfl⟩⟩
  unfold sizeB at hs
  rename_i t e _ _
  cases hinf:C.P.info? e with
  | none => simp [hinf] at hs
  | some inf =>
   simp [hinf] at hs
   simp [execOp,ho,rx.1,ri,Instr.indexAt,asIntOf,run_underlying ht,h0,hn,sizeOf,typeInfo,hinf,hs,add_at]
theorem raw_qld {d:Option Nat} {sz:Nat} {x:X} {n b off cap i:Nat} {e:TypeId} {xs:List (List Int)} {r:List Int} (h1:(σ.val x).dg = true) (hv:(σ.val x).dv = qp b (off + i * sz)) (hown:σ.own n = qO e sz xs b off cap) (hi:xs[i]? = some r)
  (hK:K (σ.put d (.agg (r.map fun m => .c (.int .i64 m))))):RawI P d (.ld false sz x) K σ:=by
 refine RawI_sndI (fun C loc a w o hP hci hg => ?_) hK
 subst hP
 generalize ho:o.op = op at hci
 generalize hone:false = one at hci
 cases hci with
 | load ha hs hx =>
  rename_i t ag
  cases ag with
  | false => cases hone
  | true =>
  have rx:=vald hg hx h1
  rw [hv] at rx
  simp only [qp,RepA,RepC] at rx
  have hob:=hg.objs n
  rw [hown] at hob
  obtain ⟨_,L,_,⟨_,_,cur,hb,hcs,hsz,hle,hcm,hcur⟩,_⟩:=hob
  have hr:=hsz r (List.mem_of_getElem? hi)
  obtain ⟨hil,_⟩:=List.getElem?_eq_some_iff.1 hi
  refine ⟨.agg (r.map (Value.int .i64)).toArray,?_,?_⟩
  ·refine (show _ from by simp [execOp,ho,rx.1,Instr.loadAt,Instr.sureAddr,run_loadVar_agg (ad:=⟨b,off + i * sz,none⟩) (l:=r.map (Value.int .i64)) ha hs (by simpa using hr) (w:=w) (fun j u hj => by
    rw [add_at,cell_of_row w b _ cur e (0,0) hb]
    have hjl:j < sz:=by have:=(List.getElem?_eq_some_iff.1 hj).1; simpa [hr] using this
    have h2:=qvals_at hsz hi hjl
    rw [← hcur,List.getElem?_take] at h2
    have h3:i * sz + j < xs.length * sz:=by
     have:(i + 1) * sz ≤ xs.length * sz:=Nat.mul_le_mul_right _ hil
     rw [Nat.add_mul] at this; omega
    rw [if_pos h3,List.getElem?_drop,hj] at h2
    rw [← Array.getElem?_toList,Nat.add_assoc]; exact h2)])
  ·simp only [RepA]
   exact ⟨_,rfl,(reps_ints r _).2 rfl⟩
theorem raw_qslc {d:Option Nat} {sz:Nat} {x lo:X} {n b off cap l m:Nat} {k:IntKind} {e:TypeId} {xs:List (List Int)} (h1:(σ.val x).dg = true) (h2:(σ.val lo).dg = true) (hv:(σ.val x).dv = qv b off m cap) (hm:xs.length = m) (hlo:(σ.val lo).dv = .c (.int k l)) (hown:σ.own n = qO e sz xs b off cap) (hl:l ≤ m)
  (hK:∀ off',K (St.put ⟨σ.env,upd σ.own n (qO e sz (xs.drop l) b off' (cap - l))⟩ d (qv b off' (m - l) (cap - l)))):RawI P d (.slc sz x (some lo) none) K σ:=by
 subst hm
 intro C loc a w o hP hc hd hdl hg
 subst hP
 have hci:=cI_inv hc
 generalize ho:o.op = op at hci
 generalize hlo':some lo = lo' at hci
 generalize hhi':(none:Option X) = hi' at hci
 cases hci with
 | slc ht hs hx hcl hch =>
  subst hlo'; subst hhi'
  rename_i t e0 x0 lo0 hi0
  obtain ⟨lo1,rfl,hlo1⟩ : ∃ l1,lo0 = some l1 ∧ cX l1 = some lo:=by
   cases lo0 with
   | none => simp [cOX] at hcl
   | some l1 => simp [cOX] at hcl; exact ⟨l1,rfl,hcl⟩
  have hnone:hi0 = none:=by
   cases hi0 with
   | none => rfl
   | some l1 => simp [cOX] at hch
  subst hnone
  have rx:=vald hg hx h1
  have rl:=vald hg hlo1 h2
  rw [hv] at rx
  rw [hlo] at rl
  simp only [qv,RepA,RepC] at rx rl
  have hob:=hg.objs n
  rw [hown] at hob
  obtain ⟨_,L,hL,⟨_,rfl,cur,hb,hcs,hsz,hle,hcm,hcur⟩,_⟩:=hob
  unfold sizeB at hs
  cases hinf:C.P.info? e0 with
  | none => simp [hinf] at hs
  | some inf =>
  simp [hinf] at hs
  obtain ⟨off',hoff',ho2⟩ : ∃ off',(if cap = l then (some ⟨b,off,none⟩ : Option Addr) else some ((⟨b,off,none⟩ : Addr).add (l * sz))) = some ⟨b,off',none⟩ ∧ (l < cap → off' = off + l * sz) ∧ (cap = l → off' = off):=by
   by_cases h:cap = l
   ·exact ⟨off,by rw [if_pos h],fun h' => by omega,fun _ => rfl⟩
   ·exact ⟨off + l * sz,by rw [if_neg h,add_at],fun _ => rfl,fun h' => absurd h' h⟩
  have hg1:=hg.setGuest (g:=qG e sz xs b off cap) (g':=qG e sz (xs.drop l) b off' (cap - l)) (rem':=[]) hown hL (by simp) hb (fun x h => by cases h) (o':=.cells cur e (0,0)) (qG_ok _ _ _ _ _ _ _) fun M => by
   refine ⟨rfl,rfl,cur,(MapKept.heap_set hb).1,?_,fun x hx => hsz x (List.mem_of_mem_drop hx),by simp; omega,by omega,?_⟩
   ·by_cases h:cap = l
    ·rw [ho2.2 h,h]; simp
     have:off + cap * sz ≤ cur.size:=hcs
     omega
    ·rw [ho2.1 (by omega)]
     have h5:l * sz + (cap - l) * sz = cap * sz:=by rw [← Nat.add_mul,show l + (cap - l) = cap by omega]
     omega
   ·rw [qvals_drop l hsz,← hcur,List.drop_take,List.length_drop,← Nat.sub_mul]
    by_cases h:cap = l
    ·have:xs.length - l = 0:=by omega
     rw [this]; simp
    ·rw [ho2.1 (by omega),List.drop_drop]
  have hww:({ w with heap:=w.heap.setIfInBounds b (.cells cur e (0,0)) }:World) = w:=by
   have:w.heap.setIfInBounds b (.cells cur e (0,0)) = w.heap:=by
    apply Array.ext_getElem?
    intro i
    rw [Array.getElem?_setIfInBounds]
    split
    ·rename_i h; subst h; split
     ·exact hb.symm
     ·rename_i h; rw [Array.getElem?_eq_none (by omega)]
    ·rfl
   rw [this]
  rw [hww] at hg1
  refine ⟨_,⟨w,loc,.inl ⟨.slice (some ⟨b,off',none⟩) (xs.length - l) (cap - l),?_,?_⟩⟩,hK off'⟩
  ·by_cases h:cap = l
   ·rw [ho2.2 h]
    have:xs.length = cap:=by omega
    subst h
    simp [execOp,ho,rx.1,rl,Instr.sliceAt,Instr.slice,run_underlying ht,Instr.sliceBounds,Instr.sliceBound,asIntOf,sizeOf,typeInfo,hinf,hs,this]
   ·rw [ho2.1 (by omega)]
    simp [execOp,ho,rx.1,rl,Instr.sliceAt,Instr.slice,run_underlying ht,Instr.sliceBounds,Instr.sliceBound,asIntOf,sizeOf,typeInfo,hinf,hs,hl,h,add_at]
  ·rw [hd] at hdl ⊢
   exact hg1.put hdl (by simp only [qv,RepA,RepC]; exact ⟨trivial,rfl⟩)
end
theorem run_append_at {P:Program} (w:World) (t ty e:TypeId) (i:TypeInfo) (ht:P.underlying t = some (.slice e)) (hi:P.info? e = some i)
  (g off sLen sCap:Nat) (cur:Array Value) (hg:w.heap[g]? = some (.cells cur e (0,0)))
  (a:Addr) (m c:Nat) (news:List Value) (hl:news.length = m * i.size) (hnews:∀ j u,news[j]? = some u → w.cell? (a.add j) = some u) (h1:∀ u ∈ news,u.oneCell' = true)
  (hroom:sLen + m ≤ sCap) (hfit:off + sLen * i.size + news.length ≤ cur.size) :
  (Builtin.append_ #[t,t] ty #[.slice (some ⟨g,off,none⟩) sLen sCap,.slice (some a) m c]).run P w =
   .ok (.slice (some ⟨g,off,none⟩) (sLen + m) sCap) (w.setRow g (cur.toList.take (off + sLen * i.size) ++ news ++ cur.toList.drop (off + sLen * i.size + news.length)).toArray):=by
 have hf:=run_firstCells_some (P:=P) w i.size m a m c news hl hnews
 have hst:=run_storeCells_at P g (off + sLen * i.size) e news 0 cur w hg (by simpa using hfit) h1
 simp only [Nat.add_zero] at hst
 simp [Builtin.append_,run_underlying ht,sizeOf,typeInfo,hi,Builtin.lenOf,hroom,hf,Addr.add_lit,hst]
theorem qones (ys:List (List Int)):∀ u ∈ qvals ys,u.oneCell' = true:=fun u hu => by
 unfold qvals at hu
 obtain ⟨n,_,rfl⟩:=List.mem_map.1 hu
 rfl
section
variable {P:Program} {σ:St} {K:St → Prop}
theorem append_q {P:Program} {w:World} (t ty e:TypeId) (i:TypeInfo) (z:Value) (ht:P.underlying t = some (.slice e)) (hi:P.info? e = some i) (hz:i.zero = some z) (hzs:z.cells.size = i.size)
  {b off cap:Nat} {xs ys:List (List Int)} {A:Option Addr} {m c:Nat} {L:List Nat} {rem:List Ent} {Mx:Nat → Nat → Prop} (hq:queJ e i.size xs b off cap rem L Mx w) (hm:m = ys.length) (hys:∀ y ∈ ys,y.length = i.size) (hA:ys = [] ∨ ∃ ad,A = some ad ∧ ∀ j u,(qvals ys)[j]? = some u → w.cell? (ad.add j) = some u)
  (h63:xs.length + m ≤ maxLen) (hbytes:(xs.length + m) * i.bytes ≤ 140737488355328) :
  ∃ b' off' cap' w',(Builtin.append_ #[t,t] ty #[.slice (some ⟨b,off,none⟩) xs.length cap,.slice A m c]).run P w = .ok (.slice (some ⟨b',off',none⟩) (xs.length + m) cap') w' ∧ (∀ M,queJ e i.size (xs ++ ys) b' off' cap' [] [b'] M w') ∧
   w'.os = w.os ∧ w'.tape = w.tape ∧ w'.output = w.output ∧ w.heap.size ≤ w'.heap.size ∧ (∀ k,k < w.heap.size → k ≠ b → w'.heap[k]? = w.heap[k]?) ∧ b' < w'.heap.size ∧ (b' = b ∨ w.heap.size ≤ b'):=by
 obtain ⟨rfl,rfl,cur,hb,hcs,hsz,hle,hcm,hcur⟩:=hq
 have hbl:b < w.heap.size:=(Array.getElem?_eq_some_iff.1 hb).1
 have h63':xs.length + m ≤ 9223372036854775807:=by simp only [maxLen] at h63; omega
 rcases hA with rfl | ⟨ad,rfl,hnews⟩
 ·simp only [List.length_nil] at hm
  subst hm
  refine ⟨b,off,cap,w,?_,fun M => ⟨rfl,rfl,cur,hb,hcs,by simpa using hsz,by simpa using hle,hcm,by simpa using hcur⟩,rfl,rfl,rfl,Nat.le_refl _,fun _ _ _ => rfl,hbl,.inl rfl⟩
  cases A <;> simp [Builtin.append_,run_underlying ht,sizeOf,typeInfo,hi,Builtin.lenOf,Builtin.firstCells,hle,storeCells,loadCells,loadCellsFrom]
 ·subst hm
  have hl:(qvals ys).length = ys.length * i.size:=qlen hys
  have hall:∀ x ∈ xs ++ ys,x.length = i.size:=fun x hx => by rcases List.mem_append.1 hx with h | h; exact hsz x h; exact hys x h
  have hxl:(qvals xs).length = xs.length * i.size:=qlen hsz
  by_cases hroom:xs.length + ys.length ≤ cap
  ·have hsum:xs.length * i.size + ys.length * i.size ≤ cap * i.size:=by rw [← Nat.add_mul]; exact Nat.mul_le_mul_right _ hroom
   have hr:=run_append_at (P:=P) w t ty e i ht hi b off xs.length cap cur hb ad ys.length c (qvals ys) hl hnews (qones ys) hroom (by rw [hl]; omega)
   refine ⟨b,off,cap,_,hr,fun M => ⟨rfl,rfl,_,setRow_heap w b cur _ e _ hb,?_,hall,by simpa using hroom,hcm,?_⟩,rfl,rfl,rfl,by simp,fun k _ hk => setRow_other w b k _ hk,by simpa using hbl,.inl rfl⟩
   ·simp only [List.size_toArray,List.length_append,List.length_take,List.length_drop,Array.length_toList,hl]
    omega
   ·have e1:(cur.toList.take (off + xs.length * i.size)).drop off = qvals xs:=by rw [List.drop_take,Nat.add_sub_cancel_left,hcur]
    have e2:off ≤ (cur.toList.take (off + xs.length * i.size)).length:=by have hx2:cur.toList.length = cur.size:=Array.length_toList; rw [List.length_take,hx2]; omega
    rw [List.append_assoc,List.drop_append_of_le_length e2,e1,qvals_app,← List.append_assoc,List.take_append_of_le_length (by rw [List.length_append,List.length_append,hxl,hl,Nat.add_mul]; exact Nat.le_refl _),List.take_of_length_le (by rw [List.length_append,List.length_append,hxl,hl,Nat.add_mul]; exact Nat.le_refl _)]
  ·have holds:∀ j u,(qvals xs)[j]? = some u → w.cell? ((⟨b,off,none⟩ : Addr).add j) = some u:=fun j u hj => by
    rw [add_at,cell_of_row w b _ cur e (0,0) hb]
    rw [← hcur,List.getElem?_take] at hj
    split at hj
    ·rw [List.getElem?_drop] at hj
     rw [← Array.getElem?_toList]; exact hj
    ·cases hj
   have hr:=run_append_grow (P:=P) w t ty e i z ht hi hz ⟨b,off,none⟩ xs.length cap (qvals xs) hxl holds ad ys.length c (qvals ys) hl hnews (by omega) (by omega) (growslice_fits (by omega) hbytes)
   have hge:=grownCap_ge w (xs.length + ys.length) cap e
   have hcm2:grownCap w (xs.length + ys.length) cap e ≤ maxLen:=grownCap_le_maxLen w _ cap e h63
   refine ⟨_,0,_,_,hr,fun M => ⟨rfl,rfl,_,heap_alloc_new w.drew _,?_,hall,by simpa using hge,hcm2,?_⟩,rfl,rfl,rfl,by simp,fun k hk _ => alloc_old w.drew _ k hk,by simp,.inr (Nat.le_refl _)⟩
   ·simp only [Array.size_append,List.size_toArray,size_zeroCells,hzs,hxl,hl,← Nat.add_mul,Nat.zero_add]
    exact Nat.mul_le_mul_right _ (by omega)
   ·simp only [Array.toList_append,List.append_assoc,List.drop_zero,List.length_append]
    rw [← List.append_assoc,← qvals_app,List.take_append_of_le_length (by rw [qlen hall,List.length_append]; exact Nat.le_refl _),List.take_of_length_le (by rw [qlen hall,List.length_append]; exact Nat.le_refl _)]
theorem raw_qapp {d:Option Nat} {e sz bytes:Nat} {s x:X} {n b off cap m:Nat} {xs ys:List (List Int)} (h1:(σ.val s).dg = true) (h2:(σ.val x).dg = true) (hv:(σ.val s).dv = qv b off m cap) (hm:xs.length = m) (hx:(σ.val x).dv.elems σ.own = some (icds ys)) (hown:σ.own n = qO e sz xs b off cap)
  (hys:∀ y ∈ ys,y.length = sz) (h63:m + ys.length ≤ maxLen) (hbytes:(m + ys.length) * bytes ≤ 140737488355328)
  (hK:∀ b' off' cap',K (St.put ⟨σ.env,upd σ.own n (qO e sz (xs ++ ys) b' off' cap')⟩ d (qv b' off' (m + ys.length) cap'))):RawI P d (.app e sz bytes s x) K σ:=by
 subst hm
 intro C loc a w o hP hc hd hdl hg
 subst hP
 have hci:=cI_inv hc
 generalize ho:o.op = op at hci
 cases hci with
 | app ht hi hz hzs hpos hcs hcx =>
  rename_i t s0 x0 i z
  have rs:=vald hg hcs h1
  have rx:=vald hg hcx h2
  rw [hv] at rs
  simp only [qv,RepA,RepC] at rs
  obtain ⟨szx,hrx⟩:=hg.elems rx hx
  simp only [RepC] at hrx
  obtain ⟨A,capx,hxv,_,_,hxe⟩:=hrx
  have hob:=hg.objs n
  rw [hown] at hob
  obtain ⟨_,L,hL,hq,_⟩:=hob
  have hLb:=hq.2.1
  have hA:ys = [] ∨ ∃ ad,A = some ad ∧ ∀ j u,(qvals ys)[j]? = some u → w.cell? (ad.add j) = some u:=by
   rcases hxe with h | ⟨ad,rfl,hE⟩
   ·left; simpa [icds] using h
   ·obtain ⟨news,k1,k2,k3,k4⟩:=hE.vals (loc:=fun _ => undef)
    rw [reps_icds] at k3
    subst k3
    exact .inr ⟨ad,rfl,k2⟩
  have hlen:(icds ys).length = ys.length:=by simp [icds]
  obtain ⟨b',off',cap',w',hr,hq',e1,e2,e3,e4,e5,e6,e7⟩:=append_q (P:=C.P) (A:=A) (c:=capx) (Mx:=fun _ _ => True) t o.type e i z ht hi hz hzs hq hlen hys hA (by rw [hlen]; exact h63) (by rw [hlen]; exact hbytes)
  subst hLb
  have hg1:=hg.turnGuest (g:=qG e i.size xs b off cap) (g':=qG e i.size (xs ++ ys) b' off' cap') (rem':=[]) (L':=[b']) hown hL e1 e2 e3 e4 (fun k hk hkL => e5 k hk (by simpa using hkL)) (fun D hD => e5 D (Array.getElem?_eq_some_iff.1 hD).1 (fun h => by
    subst h; obtain ⟨_,_,cur,hb,_⟩:=hq; rw [hb] at hD; cases hD)) (fun k hk => by simp only [List.mem_singleton] at hk ⊢; subst hk; exact ⟨e6,e7⟩) (qG_ok _ _ _ _ _ _ _) hq'
  refine ⟨_,⟨w',upd loc n (encV [b']),.inl ⟨.slice (some ⟨b',off',none⟩) (xs.length + ys.length) cap',?_,?_⟩⟩,hK b' off' cap'⟩
  ·rw [hlen] at hxv hr
   simp [execOp,ho,resolve,invoke,builtin,rs.1,hxv,hr]
  ·rw [hd] at hdl ⊢
   exact hg1.put hdl (by simp only [qv,RepA,RepC]; exact ⟨trivial,rfl⟩)
end
section
variable {C:Ctx} {σ:St} {K:St → Prop} {is:List Ins} {Q:Exit → St → Prop}
def I.plainB:I → Bool
 | .appv _ _ _ _ _ => false
 | .bslv _ _ _ => false
 | .ldd _ _ _ => false
 | .calln _ _ => false
 | _ => true
theorem SOps_rawI {d:Option Nat} {i:I} {s:Bool} (hp:i.plainB = true) (h:RawI C.P d i (SOps C is K) σ):SOps C (⟨d,i,none,s⟩ :: is) K σ:=by
 refine SOps_sem fun ops o hins Q' K' hK' a w hg => ?_
 obtain ⟨s1,ii,hc,hvw⟩:=hins
 simp only at hc hvw
 have hii:ii = i:=by
  rcases hvw with h | ⟨_,_,_,_,_,_,h⟩ | ⟨_,_,_,_,h⟩ | ⟨_,_,_,_,h⟩ | ⟨_,_,_,h⟩
  ·exact h.symm
  all_goals (rw [h] at hp; cases hp)
 subst hii
 obtain ⟨loc,hg⟩:=hg
 unfold cOp at hc
 split at hc
 case h_2 => cases hc
 rename_i ins g hi hgd
 split at hc
 case isFalse => cases hc
 rename_i hd
 simp only [Option.some.injEq,Ins.mk.injEq] at hc
 obtain ⟨rfl,rfl,rfl,_⟩:=hc
 have hog:o.guard = none:=by
  unfold cGuard at hgd
  split at hgd
  ·rename_i h; exact h
  ·split at hgd <;> simp at hgd
 rw [if_pos (by simp [Region.wanted,hog])]
 exact raw_sound hg hi hd h fun σ' a' w' hg' hk => hK' σ' a' w' hg' hk
end
section
variable {P:Program} {σ:St} {K:St → Prop}
theorem raw_qbsl {d e sz:Nat} {parts:List X} {xs:List (List Int)} (hes:(parts.mapM fun x => (σ.val x).dv.cds σ.own) = some (icds xs)) (hn:(σ.own d).isNone = true) (hdg:(parts.all fun x => (σ.val x).dg) = true) (hel:∀ x ∈ xs,x.length = sz)
  (hK:∀ b,K ⟨upd (prgE d σ.env) d (qv b 0 xs.length xs.length),upd (prgO d σ.own) d (qO e sz xs b 0 xs.length)⟩):RawI P (some d) (.bsl e sz parts) K σ:=by
 intro C loc a w o hP hc hd hdl hg
 subst hP
 have hci:=cI_inv hc
 generalize ho:o.op = op at hci
 cases hci with
 | bsl ht hs hz hpr hpos hlim hzl hxs =>
  rename_i t n ps z
  have hel':((icds xs).all fun e => e.length == sz) = true:=by
   unfold icds
   rw [List.all_eq_true]
   intro y hy
   obtain ⟨x,hx,rfl⟩:=List.mem_map.1 hy
   simpa using hel x hx
  obtain ⟨arr',hrun,harr,hlen,hrs⟩:=bsl_run hg ho ht hs hz hpr hpos hlim hzl hxs hes hdg hel'
  rw [reps_icds] at hrs
  have hlx:xs.length = n:=by simpa [icds] using hlen
  subst hlx
  rw [hd] at hdl
  have hdN:d < C.N:=by simpa using hdl
  refine ⟨_,⟨w.alloc (.cells arr' e),upd loc d (encV [w.heap.size]),.inl ⟨.slice (some ⟨w.heap.size,0,none⟩) xs.length xs.length,hrun,?_⟩⟩,hK w.heap.size⟩
  rw [hd]
  refine hg.newblock (ob:=qO e sz xs w.heap.size 0 xs.length) hdN hn (fun b hb => ?_) (fun M loc' hk hl' hv => ?_) (fun M loc' hv => ?_)
  ·simp only [qO,Ob.has,footV_encV,List.mem_singleton] at hb
   exact hb
  ·refine ⟨qG_ok _ _ _ _ _ _ _,[w.heap.size],rfl,⟨rfl,rfl,arr',by rw [alloc_new],by omega,hel,Nat.le_refl _,?_,?_⟩,fun b hb => ?_⟩
   ·simp only [maxLen]
    have:xs.length ≤ xs.length * sz:=Nat.le_mul_of_pos_right _ hpos
    omega
   ·rw [List.drop_zero,hrs,List.take_of_length_le (by rw [qlen hel]; exact Nat.le_refl _)]
   ·simp only [List.mem_singleton] at hb
    subst hb
    exact ⟨by simp,.inl hg.fr.size⟩
  ·simp only [qv,RepA,RepC]
   exact ⟨trivial,rfl⟩
end
end Go.V

/-
 Arrays of four numbers compared; a look into a map that does not tell whether there is something.
-/
namespace Go.V
theorem run_eqA {P:Program} (w:World) {t e:TypeId} {k:IntKind} {a b c d a' b' c' d':Int} (ht:P.underlying t = some (.array 4 e)) (he:P.underlying e = some (.int k)) (hs:sizeB P e = some 1) (ha:isAggB P e = some false) :
  (Op.equal t (.agg #[.int .i64 a,.int .i64 b,.int .i64 c,.int .i64 d]) (.agg #[.int .i64 a',.int .i64 b',.int .i64 c',.int .i64 d'])).run P w = .ok (a == a' && (b == b' && (c == c' && d == d'))) w:=by
 have hie:∃ ie,P.info? e = some ie ∧ ie.size = 1:=by
  unfold sizeB at hs
  simpa using hs
 obtain ⟨ie,hie,hsz⟩:=hie
 have hsr:(sizeOf e).run P w = .ok 1 w:=by simp [sizeOf,typeInfo,hie,hsz]
 have hpart:∀ (cs:Array Value) (i:Nat) (v:Value),cs[i]? = some v → (part e cs i).run P w = .ok v w:=fun cs i v h => run_part_one (w:=w) ha h
 have hint:∀ (n:Nat) (x y:Int),(Op.equalIn (n + 1) e (.int .i64 x) (.int .i64 y)).run P w = .ok (x == y) w:=fun n x y => by simp [Op.equalIn,run_underlying he]
 have hgen:∀ n:Nat,(Op.equalIn (n + 1 + 1) t (.agg #[.int .i64 a,.int .i64 b,.int .i64 c,.int .i64 d]) (.agg #[.int .i64 a',.int .i64 b',.int .i64 c',.int .i64 d'])).run P w = .ok (a == a' && (b == b' && (c == c' && d == d'))) w:=by
  intro n
  rw [Op.equalIn]
  simp only [Sem.run_bind,run_underlying ht,Result.andThen_ok,hsr]
  simp only [Std.Legacy.Range.forIn_eq_forIn_range',Std.Legacy.Range.size]
  by_cases h1:a = a' <;> by_cases h2:b = b' <;> by_cases h3:c = c' <;> by_cases h4:d = d' <;> simp [List.range',hpart,hint,h1,h2,h3,h4]
 exact hgen 9998
section
variable {P:Program} {σ:St} {K:St → Prop}
theorem raw_eqA {d:Option Nat} {t t' e:TypeId} {k:IntKind} {x y:Operand} {x' y':X} {a b c f a' b' c' f':Int} (ht:P.underlying t = some (.array 4 e)) (he:P.underlying e = some (.int k)) (hs:sizeB P e = some 1) (ha:isAggB P e = some false) (hgt:P.eqGuardType P.depth t = false)
  (hx:cX x = some x') (hy:cX y = some y') (h1:(σ.val x').dg = true) (h2:(σ.val y').dg = true) (hv:(σ.val x').dv = kav true [a,b,c,f]) (hw:(σ.val y').dv = kav true [a',b',c',f'])
  (hK:K (σ.put d (.c (.bool (a == a' && (b == b' && (c == c' && f == f'))))))):RawI P d (.raw (.binOp .eql t x y t')) K σ:=by
 refine RawI_snd (fun C loc ac w o hP ho hg => ?_) hK
 subst hP
 have rx:=vald hg hx h1
 have ry:=vald hg hy h2
 rw [hv,rep_kav] at rx
 rw [hw,rep_kav] at ry
 refine ⟨.bool (a == a' && (b == b' && (c == c' && f == f'))),?_,by simp only [RepA,RepC]⟩
 have hr:=run_eqA (a:=a) (b:=b) (c:=c) (d:=f) (a':=a') (b':=b') (c':=c') (d':=f') w ht he hs ha
 simp only [kval,if_true,List.map_cons,List.map_nil] at rx ry
 simp [execOp,ho,rx,ry,run_eqGuard_agg w _ _ _ _ _ _ hgt,binOp,hr]
theorem raw_lookN {d:Option Nat} {t k e:TypeId} {x i:Operand} {x' i':X} {n b:Nat} {ka va:Bool} {l:GL} {key zs:List Int} {Kp:Value → Prop} (ht:P.underlying t = some (.map k e)) (hkl:KLaw P k Kp) (hz:(P.info? e).bind (·.zero) = some (kval va zs))
  (hx:cX x = some x') (hi:cX i = some i') (h1:(σ.val x').dg = true) (h2:(σ.val i').dg = true) (hv:(σ.val x').dv = .c (.raw (.map (some b)))) (hj:(σ.val i').dv = kav ka key) (hown:σ.own n = gmap ka va l b)
  (hkey:Kp (kval ka key)) (hkeys:∀ p ∈ l,Kp (kval ka p.1)) (hinj:∀ p ∈ l,kval ka p.1 = kval ka key → p.1 = key)
  (hK:K (σ.put d (kav va ((glook l key).getD zs)))):RawI P d (.raw (.lookup t x i false)) K σ:=by
 refine RawI_snd (fun C loc a w o hP ho hg => ?_) hK
 subst hP
 have rx:=vald hg hx h1
 have ri:=vald hg hi h2
 rw [hv] at rx
 rw [hj,rep_kav] at ri
 simp only [RepA,RepC] at rx
 have hob:=hg.objs n
 rw [hown] at hob
 obtain ⟨_,L,hl,⟨_,rfl,es,clock,hb,hst,hes⟩,hA⟩:=hob
 have hks:∀ e ∈ es.toList,Kp e.key:=fun e he => by
  have hm:(e.key,e.val) ∈ es.toList.map (fun e => (e.key,e.val)):=List.mem_map.2 ⟨e,he,rfl⟩
  rw [hes] at hm
  obtain ⟨p,hp,h3⟩:=List.mem_map.1 hm
  simp only [Prod.mk.injEq] at h3
  rw [← h3.1]; exact hkeys p hp
 refine ⟨kval va ((glook l key).getD zs),?_,rep_kav.2 rfl⟩
 rcases hkl.find w hkey es.toList hks with ⟨f1,f2⟩ | ⟨j,e0,f1,f2,f3⟩
 ·rw [glook_none hes f2]
  simp [execOp,ho,rx.1,ri,Instr.lookup,run_underlying ht,MapKept.run_getObj_map hb,hkl.check w _ hkey,f1,run_zero hz]
 ·obtain ⟨v,g1,g2,g3⟩:=glook_some hes hst.2.2 hinj f2 f3
  rw [g2]
  simp [execOp,ho,rx.1,ri,Instr.lookup,run_underlying ht,MapKept.run_getObj_map hb,hkl.check w _ hkey,f1,g3]
def bndJ (P:Program) (f:FuncId) (av:AV) (fv:Value) (rem:List Ent) (L:List Nat) (M:Nat → Nat → Prop) (w:World):Prop :=
 L = [] ∧ fv.oneCell' = true ∧ (∃ wv,fv = .func (.func f) #[wv] #[] ∧ RepA w M noLoc av wv) ∧ ∀ e ∈ rem,AV.pureL e.args = true ∧ e.res.scal = true ∧ FSpec P f (av :: e.args) e.res
def gB (P:Program) (f:FuncId) (av:AV) (fv:Value):Gst:=⟨fv,bndJ P f av fv⟩
theorem gB_ok (f:FuncId) (av:AV) (fv:Value) (h1:fv.oneCell' = true):(gB P f av fv).Ok P:=by
 refine ⟨h1,?_,?_⟩
 ·rintro rem L M w M' w' ⟨k1,k2,⟨wv,k3,k4⟩,k5⟩ hk hb hs
  exact ⟨k1,k2,⟨wv,k3,RepA.keep hk _ _ k4⟩,k5⟩
 ·rintro args wins r rem L M w loc vs ⟨k1,k2,⟨wv,k3,k4⟩,k5⟩ hM hL hr hl hw hd
  obtain ⟨j1,j2,j3,j4⟩:=k5 ⟨args,wins,r⟩ (by simp)
  simp only at j1 j2 j4
  subst k1
  refine ⟨j2,.inl ⟨f,#[wv],#[],k3,j3,?_⟩⟩
  have h5:=j4 w M (wv :: vs) hM (by simp only [RepAs]; exact ⟨wv,vs,rfl,k4,pures_loc j1 hr⟩)
  have e1:#[wv] ++ vs.toArray ++ #[] = (wv :: vs).toArray:=by apply Array.ext'; simp
  show Calls P f (#[wv] ++ vs.toArray ++ #[]) w _
  rw [e1]
  refine h5.mono fun e w' ⟨v,e2,e3,e4⟩ => ⟨v,[],e2,scal_rep j2 e3,⟨e4.os,e4.tape,e4.output,e4.size,fun k hk _ => e4.block k hk⟩,(fun b hb => by cases hb),⟨rfl,k2,⟨wv,k3,?_⟩,fun e he => k5 e (List.mem_cons_of_mem _ he)⟩⟩
  have hsub:∀ b o,(M b o ∧ b ∉ ([]:List Nat)) ∨ b ∈ ([]:List Nat) → M b o:=fun b o h => by
   rcases h with h | h
   ·exact h.1
   ·cases h
  exact RepA.keep (⟨fun p hp _ => World.cell?_of_block (e4.block _ (cell_lt hp)),fun p hp hm hm' => hm (hsub _ _ hm')⟩ : Keeps w w' M _) _ _ k4
theorem raw_bound {d:Nat} {f:FuncId} {x:Operand} {x':X} {av:AV} (rem:List Ent) (hx:cX x = some x') (h1:(σ.val x').dg = true) (hv:(σ.val x').dv = av) (hp:av.pureB = true) (hn:(σ.own d).isNone = true)
  (hrem:∀ e ∈ rem,AV.pureL e.args = true ∧ e.res.scal = true ∧ FSpec P f (av :: e.args) e.res)
  (hK:∀ g:Gst,K ⟨upd (prgE d σ.env) d (.c (.raw g.fv)),upd (prgO d σ.own) d (.guest g rem)⟩):RawI P (some d) (.raw (.makeFunc (.func f) #[x] #[])) K σ:=by
 refine RawI_raw fun C loc a w o hP ho hod hdl hg => ?_
 subst hP
 have hd:d < C.N:=by simpa using hdl
 have rx:=vald hg hx h1
 rw [hv] at rx
 have hnone:σ.own d = .none:=by cases h:σ.own d <;> simp_all [Ob.isNone]
 have hpd:¬ C.pin d:=fun h => by have:=(hg.pin d h).1.1; omega
 have h2:=hg.forget hnone hpd
 have hk0:=Keeps.less (w:=w) (M:=MM C σ.own loc) (M':=MM C (prgO d σ.own) (upd loc d undef)) (fun b o h => by
  rcases h with h | ⟨m,h⟩
  ·exact .inl h
  ·simp only [prgO,Ob.mut_prg] at h
   by_cases hm:m = d
   ·subst hm; rw [hnone] at h; exact (Ob.has_none _ _ (Ob.has_of_mut h)).elim
   ·exact .inr ⟨m,by simpa [upd,hm] using h⟩)
 have rx2:=RepA.keep hk0 _ _ rx
 obtain ⟨fv,hfv⟩ : ∃ fv,fv = Value.func (.func f) #[a.eval x] #[]:=⟨_,rfl⟩
 have hone:fv.oneCell' = true:=by rw [hfv]; rfl
 have hl:∀ m,(upd loc d undef m).oneCell' = true → upd loc d (encV []) m = upd loc d undef m:=by
  intro m hm
  by_cases e:m = d
  ·subst e; simp [upd] at hm; cases hm
  ·simp [upd,e]
 have hfo:∀ m b,(upd (prgO d σ.own) d (.guest (gB C.P f av fv) rem) m).has (upd loc d (encV []) m) b → (prgO d σ.own m).has (upd loc d undef m) b:=by
  intro m b h
  by_cases e':m = d
  ·subst e'
   simp only [upd,if_true,Ob.has,footV_encV] at h
   cases h
  ·simp only [upd,e',if_false] at h ⊢
   exact h
 have h3:G C ⟨prgE d σ.env,upd (prgO d σ.own) d (.guest (gB C.P f av fv) rem)⟩ (upd loc d (encV [])) a w:=by
  refine h2.reown (fun n hn' => ?_) (fun t => RepA.reloc hl (h2.slots t)) (fun b o hm => ?_) (fun b ⟨n,h⟩ => ⟨n,hfo n b h⟩) (fun n => ?_) (fun n m b hnm k1 k2 => h2.disj n m b hnm (hfo n b k1) (hfo m b k2))
  ·have:n ≠ d:=fun e => hpd (e ▸ hn')
   simp [upd,this]
  ·obtain ⟨n,h⟩:=hm
   by_cases e':n = d
   ·subst e'
    simp only [upd,if_true,Ob.mut,footV_encV] at h
    cases h
   ·exact ⟨n,by simp only [upd,e',if_false] at h ⊢; exact h⟩
  ·by_cases e':n = d
   ·subst e'
    simp only [upd,if_true]
    exact ⟨gB_ok _ _ _ hone,[],rfl,⟨rfl,hone,⟨_,hfv,pure_loc hp rx2⟩,hrem⟩,fun b hb => by cases hb⟩
   ·have:=h2.objs n
    simp only [upd,e',if_false] at this ⊢
    exact ObOk.reloc (loc:=upd loc d undef) hl this
 refine ⟨_,⟨w,upd loc d (encV []),.inl ⟨fv,?_,?_⟩⟩,hK (gB C.P f av fv)⟩
 ·simp [execOp,ho,Instr.makeFunc,hfv]
 ·rw [hod]
  exact h3.put (d:=some d) hdl (by simp only [gB,RepA,RepC]; first | exact ⟨trivial,hone⟩ | exact ⟨hone,trivial⟩)
theorem raw_idx1 {d:Option Nat} {t e:TypeId} {n:Nat} {x i:Operand} {x' i':X} {k:IntKind} {j:Int} {cs:List AV} {v:AV} (hu:P.underlying t = some (.array n e)) (ha:isAggB P e = some false) (hs:sizeB P e = some 1)
  (hx:cX x = some x') (hi:cX i = some i') (h1:(σ.val x').dg = true) (h2:(σ.val i').dg = true) (hv:(σ.val x').dv = .agg cs) (hj:(σ.val i').dv = .c (.int k j)) (hr:0 ≤ j ∧ j < n) (hc:cs[j.toNat]? = some v)
  (hK:K (σ.put d v)):RawI P d (.raw (.index t x i)) K σ:=by
 refine RawI_snd (fun C loc a w o hP ho hg => ?_) hK
 subst hP
 have rx:=vald hg hx h1
 have ri:=vald hg hi h2
 rw [hv] at rx
 rw [hj] at ri
 simp only [RepA,RepC] at rx ri
 obtain ⟨l,ex,hrs⟩:=rx
 have hie:∃ ie,C.P.info? e = some ie ∧ ie.size = 1:=by
  unfold sizeB at hs
  simpa using hs
 obtain ⟨ie,hie,hsz⟩:=hie
 have hsr:(sizeOf e).run C.P w = .ok 1 w:=by simp [sizeOf,typeInfo,hie,hsz]
 obtain ⟨u,hu2,hru⟩:=hrs.get _ hc
 refine ⟨u,?_,hru⟩
 simp [execOp,ho,ex,ri,Instr.index,run_underlying hu,asIntOf,hr.1,hr.2,hsr,run_part_one (w:=w) ha (cs:=l.toArray) (off:=j.toNat) (by simpa using hu2)]
end
attribute [go_sem] gmap qO qv qp
end Go.V

/-
 Ranges over maps,with the entries that are left; an empty guest,which something can come back as.
-/
namespace Go.V
def restOf (ka va:Bool) (es:Array MapEntry) (seen:Array Nat) (rest:GL):Prop:=(leftOf es seen).toList.map (fun e => (e.key,e.val)) = gvals ka va rest
theorem leftOf_list (es:Array MapEntry) (seen:Array Nat):(leftOf es seen).toList = es.toList.filter fun x => !seen.contains x.born:=by unfold leftOf; exact Array.toList_filter
theorem restOf_all {ka va:Bool} {es:Array MapEntry} {l:GL} (h:es.toList.map (fun e => (e.key,e.val)) = gvals ka va l):restOf ka va es #[] l:=by
 unfold restOf
 rw [leftOf_list,List.filter_eq_self.2 fun x _ => by simp,h]
theorem filter_ne {e:MapEntry}:∀ {A B:List MapEntry},((A ++ e :: B).map (·.born)).Nodup → (A ++ e :: B).filter (fun x => !(x.born == e.born)) = A ++ B:=by
 intro A B h
 rw [List.map_append,List.map_cons,List.nodup_append] at h
 obtain ⟨_,h2,h3⟩:=h
 rw [List.nodup_cons] at h2
 rw [List.filter_append,List.filter_cons]
 simp only [beq_self_eq_true,Bool.not_true,Bool.false_eq_true,if_false]
 rw [List.filter_eq_self.2 fun x hx => ?_,List.filter_eq_self.2 fun x hx => ?_]
 ·simp only [Bool.not_eq_true',beq_eq_false_iff_ne]
  exact fun hb => h2.1 (hb ▸ List.mem_map_of_mem hx)
 ·simp only [Bool.not_eq_true',beq_eq_false_iff_ne]
  exact h3 _ (List.mem_map_of_mem hx) _ (by simp)
theorem rest_next {ka va:Bool} {es:Array MapEntry} {clock:Nat} {seen:Array Nat} {rest:GL} (hst:MapKept.Stamped es clock) (h:restOf ka va es seen rest) {e:MapEntry} (he:e ∈ (leftOf es seen).toList) :
  ∃ pre k v post,rest = pre ++ (k,v) :: post ∧ e.key = kval ka k ∧ e.val = kval va v ∧ restOf ka va es (seen.push e.born) (pre ++ post):=by
 unfold restOf at h
 obtain ⟨A,B,hAB⟩:=List.append_of_mem he
 have hpush:(leftOf es (seen.push e.born)).toList = (leftOf es seen).toList.filter fun x => !(x.born == e.born):=by
  rw [leftOf_list,leftOf_list,List.filter_filter]
  refine List.filter_congr fun x _ => ?_
  rw [Array.contains_push]
  cases seen.contains x.born <;> cases (x.born == e.born) <;> rfl
 have hnd:((A ++ e :: B).map (·.born)).Nodup:=by
  rw [← hAB,leftOf_list]
  exact (hst.2.1).sublist (List.Sublist.map _ List.filter_sublist)
 rw [hAB,List.map_append,List.map_cons] at h
 unfold gvals at h
 obtain ⟨pre,r2,rfl,h1,h2⟩:=List.map_eq_append_iff.1 h.symm
 obtain ⟨p,post,rfl,h3,h4⟩:=List.map_eq_cons_iff.1 h2
 simp only [Prod.mk.injEq] at h3
 refine ⟨pre,p.1,p.2,post,rfl,h3.1.symm,h3.2.symm,?_⟩
 unfold restOf gvals
 rw [hpush,hAB,filter_ne hnd,List.map_append,List.map_append,h1,h4]
theorem kav_of_kval {ag:Bool} {a b:List Int} (h:kval ag a = kval ag b):kav ag a = kav ag b:=by
 cases ag
 ·simp only [kval,Bool.false_eq_true,if_false,Value.int.injEq,true_and] at h
  simp only [kav,Bool.false_eq_true,if_false,h]
 ·rw [kval_inj h]
section
variable {P:Program} {σ:St} {K:St → Prop}
theorem raw_nextR {d:Option Nat} {x:Operand} {x':X} {n m b r since last clock:Nat} {seen:Array Nat} {es:Array MapEntry} {ka va:Bool} {l rest:GL} (hx:cX x = some x') (h1:(σ.val x').dg = true) (hv:(σ.val x').dv = .c (.raw (.pointer (some ⟨r,0,none⟩)))) (hown:σ.own n = mapE es clock b)
  (hit:σ.own m = iterE r b since seen last) (hst:MapKept.Stamped es clock) (hold:since = clock) (hsl:last = clock) (hes:es.toList.map (fun e => (e.key,e.val)) = gvals ka va l) (hrest:restOf ka va es seen rest)
  (hK0:rest = [] → K (σ.put d (.tup [.c (.bool false)])))
  (hK1:∀ e pre k v post,rest = pre ++ (k,v) :: post → e ∈ es.toList → e.key = kval ka k → e.val = kval va v → restOf ka va es (seen.push e.born) (pre ++ post) → K (St.put ⟨σ.env,upd σ.own m (iterE r b since (seen.push e.born) clock)⟩ d (.tup [.c (.bool true),kav ka k,kav va v]))):RawI P d (.raw (.next x false)) K σ:=by
 refine raw_nextE (l:=l) hx h1 hv hown hit (by rw [hold]; exact hst.1) (by omega) hes (fun h0 => hK0 ?_) fun e k v he _ h2 h3 => ?_
 ·have:=congrArg List.length hrest
  rw [List.length_map,Array.length_toList,h0] at this
  unfold gvals at this
  rw [List.length_map] at this
  exact List.eq_nil_of_length_eq_zero this.symm
 ·obtain ⟨pre,k',v',post,e1,e2,e3,e4⟩:=rest_next hst hrest he
  have:=hK1 e pre k' v' post e1 (by rw [leftOf_list] at he; exact (List.mem_filter.1 he).1) e2 e3 e4
  have ek:kav ka k' = kav ka k:=by
   have h5:kval ka k' = kval ka k:=by rw [← e2,h2]
   exact kav_of_kval h5
  have ev:kav va v' = kav va v:=by
   have h5:kval va v' = kval va v:=by rw [← e3,h3]
   exact kav_of_kval h5
  rwa [ek,ev] at this
end
def gE:Gst:=⟨.bool false,fun rem L _ _ => rem = [] ∧ L = []⟩
def empO:Ob:=.guest gE []
theorem gE_ok (P:Program):gE.Ok P:=by
 refine ⟨rfl,?_,?_⟩
 ·rintro rem L M w M' w' h hk hb hs; exact h
 ·rintro args wins r rem L M w loc vs ⟨h1,_⟩; cases h1
section
variable {C:Ctx} {σ:St}
theorem Gam_holdE {f:Nat} (hn:σ.own f = .none) (hp:¬ C.pin f):∀ a w,Gam C σ a w → Gam C ⟨prgE f σ.env,upd (prgO f σ.own) f empO⟩ a w:=by
 rintro a w ⟨loc,hg⟩
 have h1:=hg.forget hn hp
 have hl:∀ m,(upd loc f undef m).oneCell' = true → upd loc f (encV []) m = upd loc f undef m:=by
  intro m hm
  by_cases e:m = f
  ·subst e; simp [upd] at hm; cases hm
  ·simp [upd,e]
 have hfo:∀ m b,(upd (prgO f σ.own) f empO m).has (upd loc f (encV []) m) b → (prgO f σ.own m).has (upd loc f undef m) b:=by
  intro m b h
  by_cases e':m = f
  ·subst e'
   simp only [upd,if_true,empO,Ob.has,footV_encV] at h
   cases h
  ·simp only [upd,e',if_false] at h ⊢
   exact h
 refine ⟨upd loc f (encV []),h1.reown (fun n hn' => ?_) (fun t => RepA.reloc hl (h1.slots t)) (fun b o hm => ?_) (fun b ⟨n,h⟩ => ⟨n,hfo n b h⟩) (fun n => ?_) (fun n m b hnm k1 k2 => h1.disj n m b hnm (hfo n b k1) (hfo m b k2))⟩
 ·have:n ≠ f:=fun e => hp (e ▸ hn')
  simp [upd,this]
 ·obtain ⟨n,h⟩:=hm
  by_cases e':n = f
  ·subst e'
   simp only [upd,if_true,empO,Ob.mut,footV_encV] at h
   cases h
  ·exact ⟨n,by simp only [upd,e',if_false] at h ⊢; exact h⟩
 ·by_cases e':n = f
  ·subst e'
   simp only [upd,if_true]
   exact ⟨gE_ok _,[],rfl,⟨rfl,rfl⟩,fun b hb => by cases hb⟩
  ·have:=h1.objs n
   simp only [upd,e',if_false] at this ⊢
   exact ObOk.reloc (loc:=upd loc f undef) hl this
theorem WV_holdE {v:VC} {Q:Exit → St → Prop} (f:Nat) (hf:f < 1000) (hn:σ.own f = .none) (h:WV C v Q ⟨prgE f σ.env,upd (prgO f σ.own) f empO⟩):WV C v Q σ :=
 WV_weak (fun a w hg => Gam_holdE hn (fun hp => by obtain ⟨_,hg'⟩:=hg; have:=(hg'.pin f hp).1; omega) a w hg) h
end
attribute [go_sem] empO mapE iterE
end Go.V

/-
 A contract out of a call that leaves all that lay there as it was.
-/
namespace Go.V
open Go.RowKit
theorem FSpecL_keep {P:Program} {f:FuncId} {args:List AV} {l:List Ob} {Post:AV → Prop} (hf:callable P f) (hl:l.length ≤ 1000)
  (h:∀ (w:World) (M:Cells) (loc:Nat → Value) (vs:List Value),LentOk P w M loc (ownW l []) → RepAs w (AddM M (ownW l []) loc) loc args vs →
   Calls P f vs.toArray w fun e w' => ∃ v r,e = .returned v ∧ Post r ∧ Below w.heap.size w w' ∧ ∀ M':Cells,(∀ b o,M' b o → b < w.heap.size) → RepA w' M' loc r v) :
  FSpecL P f args l [] (fun r l' => Post r ∧ l' = l):=by
 refine ⟨hf,hl,fun w M loc vs hM hLO hrep => (h w M loc vs hLO hrep).mono ?_⟩
 rintro e w' ⟨v,r,rfl,hp,hb,hr⟩
 have hlt:∀ b o,AddM M (ownW l []) loc b o → b < w.heap.size:=by
  rintro b o (h | ⟨n,h⟩)
  ·exact (hM b o h).1
  ·exact (hLO.objs n).lt (Ob.has_of_mut h)
 have hk:Keeps w w' (AddM M (ownW l []) loc) (AddM M (ownW l []) loc):=⟨fun p hp _ => World.cell?_of_block (hb.block _ (cell_lt hp)),fun p hp h => h⟩
 exact ⟨v,r,l,loc,rfl,⟨hp,rfl⟩,rfl,⟨hb.os,hb.tape,hb.output,hb.size,fun k hk _ => hb.block k hk⟩,hk,⟨fun n => ObOk.keep' hk hb.size (fun b hb' => hb.block b ((hLO.objs n).lt hb')) (hLO.objs n),hLO.disj⟩,fun n b h => .inl ⟨n,h⟩,fun n h => ⟨h,rfl⟩,hr _ hlt⟩
end Go.V
