/-
  An abstract machine over small instructions, sound over the model; no condition.
-/
import Derived.Test.YtdoidahbimonhaaDoorV2
import Derived.Laws.IdiomStrings
import Derived.Lib.AppendStr
import Derived.Laws.Externs
import Derived.Lib.Bytealg
import Derived.Lib.MakeNoZero
set_option linter.unusedVariables false
set_option linter.unusedSimpArgs false
/-
 Families of objects: rows of a slice of slices,each an object of its own.
-/
namespace Go.V
structure Row (α:Type) where
 l:List α
 j:Nat
 cap:Nat
section
variable {α:Type} {cds:α → List CD} {b sz m:Nat} {R:List (Row α)} {own:Nat → Ob}
def Row.ob (cds:α → List CD) (r:Row α):Ob:=.box (cellsG cds r.l r.j)
theorem Row.ob_box (r:Row α):r.ob cds = .box (cellsG cds r.l r.j):=rfl
def fam (b:Nat) (cds:α → List CD) (R:List (Row α)) (own:Nat → Ob):Nat → Ob:=fun n =>
 if b ≤ n then (match R[n - b]? with | some r => r.ob cds | none => own n) else own n
theorem fam_lo {n:Nat} (h:n < b):fam b cds R own n = own n:=by unfold fam; rw [if_neg (by omega)]
theorem fam_at {i:Nat} (h:i < R.length):fam b cds R own (i + b) = (R[i]).ob cds:=by
 unfold fam; rw [if_pos (by omega),Nat.add_sub_cancel,List.getElem?_eq_getElem h]
theorem fam_hi {n:Nat} (h:R.length + b ≤ n):fam b cds R own n = own n:=by
 unfold fam
 split
 ·rw [List.getElem?_eq_none (by omega)]
 ·rfl
theorem fam_nil:fam b cds [] own = own:=by
 funext n; unfold fam; split <;> rfl
theorem fam_upd {t:Nat} (h:t < b) (v:Ob):upd (fam b cds R own) t v = fam b cds R (upd own t v):=by
 funext n
 by_cases e:n = t
 ·subst e; rw [fam_lo h]; simp [upd]
 ·unfold fam upd; rw [if_neg e,if_neg e]
theorem fam_snoc (r:Row α):upd (fam b cds R own) (R.length + b) (r.ob cds) = fam b cds (R ++ [r]) own:=by
 funext n
 by_cases e:n = R.length + b
 ·subst e
  rw [upd_app,if_pos rfl,fam_at (by simp)]; simp
 ·rw [upd_app,if_neg e]
  unfold fam
  split
  ·by_cases h:n - b < R.length
   ·rw [List.getElem?_append_left h]
   ·rw [List.getElem?_eq_none (by omega),List.getElem?_eq_none (by simp; omega)]
  ·rfl
theorem fam_set {i:Nat} (h:i < R.length) (r:Row α):upd (fam b cds R own) (i + b) (r.ob cds) = fam b cds (R.set i r) own:=by
 funext n
 by_cases e:n = i + b
 ·subst e
  rw [upd_app,if_pos rfl,fam_at (by simpa using h)]; simp
 ·rw [upd_app,if_neg e]
  unfold fam
  split
  ·rw [List.getElem?_set,if_neg (by omega)]
  ·rfl
theorem fam_fun (g:Ob → Ob) (hg:∀ r:Row α,g (r.ob cds) = r.ob cds) (n:Nat):g (fam b cds R own n) = fam b cds R (fun n => g (own n)) n:=by
 unfold fam
 split
 ·cases R[n - b]? with
  | none => rfl
  | some r => exact hg r
 ·rfl
theorem prgO_fam (d:Nat):prgO d (fam b cds R own) = fam b cds R (prgO d own):=by
 funext n
 show (fam b cds R own n).prg d = _
 rw [fam_fun (fun o => o.prg d) fun r => by simp only [Row.ob,Ob.prg,prg_cellsG]]
 rfl
theorem rnP_fam (d n:Nat):rnP d n (fam b cds R own) = fam b cds R (rnP d n own):=by
 funext k
 show (fam b cds R own k).rn d n = _
 rw [fam_fun (fun o => o.rn d n) fun r => by simp only [Row.ob,Ob.rn,rn_cellsG]]
 rfl
theorem rnO_fam {d:Nat} (h:d < b) (r:Row α) (ho:own d = r.ob cds):rnO d (R.length + b) (fam b cds R own) = fam b cds (R ++ [r]) (upd (rnP d (R.length + b) own) d .none):=by
 unfold rnO
 rw [rnP_fam,fam_lo h,ho]
 rw [show (r.ob cds).rn d (R.length + b) = r.ob cds by simp only [Row.ob,Ob.rn,rn_cellsG]]
 rw [fam_snoc,fam_upd h]
theorem rnP_app' (d n:Nat) (f:Nat → Ob) (t:Nat):rnP d n f t = (f t).rn d n:=rfl
theorem ObjLe_fam {f g:Nat → Ob} (h:ObjLe f g):ObjLe (fam b cds R f) (fam b cds R g):=fun n => by
 unfold fam
 split
 ·cases R[n - b]? with
  | none => exact h n
  | some r => exact .inl rfl
 ·exact h n
def refs (b sz:Nat):Nat → List (Row α) → List AV
 | _,[] => []
 | k,r :: R => .vw sz (k + b) 0 r.l.length r.cap :: refs b sz (k + 1) R
theorem refs_len:∀ (R:List (Row α)) (k:Nat),(refs b sz k R).length = R.length
 | [],_ => rfl
 | r :: R,k => by simp only [refs,List.length_cons,refs_len R]
theorem refs_snoc:∀ (R:List (Row α)) (k:Nat) (r:Row α),refs b sz k (R ++ [r]) = refs b sz k R ++ [.vw sz (R.length + k + b) 0 r.l.length r.cap]
 | [],k,r => by simp [refs]
 | a :: R,k,r => by
  simp only [List.cons_append,refs,refs_snoc R,List.length_cons,List.cons.injEq,true_and,List.append_cancel_left_eq,List.cons.injEq,and_true]
  rw [show R.length + (k + 1) + b = R.length + 1 + k + b from by omega]
theorem refs_get? : ∀ {R:List (Row α)} {i:Nat} (k:Nat) (h:i < R.length),(refs b sz k R)[i]? = some (.vw sz (i + k + b) 0 (R[i]).l.length (R[i]).cap)
 | [],i,k,h => by simp at h
 | a :: R,0,k,h => by simp [refs]
 | a :: R,i + 1,k,h => by
  simp only [refs,List.getElem?_cons_succ,List.getElem_cons_succ]
  rw [refs_get? (k + 1) (by simpa using h),show i + (k + 1) + b = i + 1 + k + b from by omega]
theorem refs_get {i:Nat} (h:i < R.length) (l:List AV) (x:AV):(refs b sz 0 R ++ l).getD i x = .vw sz (i + b) 0 (R[i]).l.length (R[i]).cap:=by
 rw [List.getD_eq_getElem?_getD,List.getElem?_append_left (by rw [refs_len]; exact h),refs_get? 0 h]; rfl
theorem refs_set {i:Nat} (h:i < R.length) (r:Row α) (h1:r.l.length = (R[i]).l.length) (h2:r.cap = (R[i]).cap):refs b sz 0 (R.set i r) = refs b sz 0 R:=by
 refine List.ext_getElem? fun k => ?_
 by_cases hk:k < R.length
 ·rw [refs_get? 0 (by simpa using hk),refs_get? 0 hk]
  simp only [List.getElem_set]
  split
  ·rename_i e; subst e; rw [h1,h2]
  ·rfl
 ·rw [List.getElem?_eq_none (by rw [refs_len,List.length_set]; omega),List.getElem?_eq_none (by rw [refs_len]; omega)]
theorem refs_prg {d:Nat} (h:d < b):∀ (R:List (Row α)) (k:Nat),AV.prgL d (refs b sz k R) = refs b sz k R
 | [],_ => rfl
 | r :: R,k => by simp only [refs,AV.prgL,AV.prg,refs_prg h R]; rw [if_neg (by omega)]
theorem refs_rn {d n:Nat} (h:d < b):∀ (R:List (Row α)) (k:Nat),R.length + k + b ≤ n → AV.rnL d n (refs b sz k R) = refs b sz k R
 | [],_,_ => rfl
 | r :: R,k,hn => by
  simp only [List.length_cons] at hn
  have e1:¬ k + b = d:=by omega
  have e2:¬ k + b = n:=by omega
  simp only [refs,AV.rnL,AV.rn,if_neg e1,if_neg e2]
  rw [refs_rn h R (k + 1) (by omega)]
theorem refs_take (l:List AV):List.take (R.length * 1) (refs b sz 0 R ++ l) = refs b sz 0 R:=by
 rw [Nat.mul_one,List.take_left' (refs_len R 0)]
theorem ne_add {n m k:Nat} (h:n < k):(n = m + k) = False:=by simp; omega
def rng (b m:Nat):List Nat:=(List.range m).map (· + b)
theorem rng_len:(rng b m).length = m:=by simp [rng]
theorem rng_get? {i:Nat} (h:i < m):(rng b m)[i]? = some (i + b):=by simp [rng,h]
theorem rng_mem {n:Nat} (h:n ∈ rng b m):b ≤ n ∧ n < m + b:=by
 obtain ⟨i,hi,rfl⟩:=List.mem_map.1 h
 have:=List.mem_range.1 hi
 omega
theorem rng_nodup:(rng b m).Nodup:=List.Pairwise.map _ (fun a c (h:a ≠ c) => by show a + b ≠ c + b; omega) List.nodup_range
theorem rng_idx {i:Nat} (h:i < m):(rng b m).idxOf (i + b) = i:=by
 have:=(rng_nodup (b:=b) (m:=m)).idxOf_getElem i (by rw [rng_len]; exact h)
 have e:(rng b m)[i]'(by rw [rng_len]; exact h) = i + b:=by simp [rng]
 rwa [e] at this
theorem nodup_rng {L:List Nat} (h:L.Nodup) (hl:∀ n ∈ L,n < b):(L ++ rng b m).Nodup:=by
 refine List.nodup_append.2 ⟨h,rng_nodup,fun x hx y hy => ?_⟩
 have:=hl x hx
 have:=rng_mem hy
 omega
theorem refs_lend {L:List Nat} (hl:∀ n ∈ L,n < b) (f:Nat → Ob) (c:Nat):∀ (R:List (Row α)) (k:Nat),R.length + k ≤ m → AV.lendL c (L ++ rng b m) f (refs b sz k R) = some (refs (c + L.length) sz k R)
 | [],_,_ => rfl
 | r :: R,k,hm => by
  simp only [List.length_cons] at hm
  have h1:k + b ∉ L:=fun hh => by have:=hl _ hh; omega
  have h2:k + b ∈ L ++ rng b m:=List.mem_append_right _ (List.mem_of_getElem? (rng_get? (b:=b) (m:=m) (i:=k) (by omega)))
  have h3:(L ++ rng b m).idxOf (k + b) = L.length + k:=by
   rw [List.idxOf_append,if_neg h1,rng_idx (by omega),Nat.add_comm]
  simp only [refs,AV.lendL,AV.lend,if_pos h2,h3,refs_lend hl f c R (k + 1) (by omega)]
  rw [show c + (L.length + k) = k + (c + L.length) from by omega]
theorem refs_back {L:List Nat} (hb:1000 ≤ sz + 1000):∀ (R:List (Row α)) (k:Nat),R.length + k ≤ m → AV.backL (L ++ rng b m) (refs (1000 + L.length) sz k R) = some (refs b sz k R)
 | [],_,_ => rfl
 | r :: R,k,hm => by
  simp only [List.length_cons] at hm
  have h1:(L ++ rng b m)[k + (1000 + L.length) - 1000]? = some (k + b):=by
   rw [List.getElem?_append_right (by omega),show k + (1000 + L.length) - 1000 - L.length = k from by omega,rng_get? (by omega)]
  simp only [refs,AV.backL,AV.back,refs_back hb R (k + 1) (by omega),h1]
  rw [if_pos (by omega)]
  rfl
theorem obsLend_append {L:List Nat} {f:Nat → Ob}:∀ {A B:List Nat} {x y:List Ob},obsLend L f A = some x → obsLend L f B = some y → obsLend L f (A ++ B) = some (x ++ y)
 | [],B,x,y,h1,h2 => by
  simp only [obsLend,Option.some.injEq] at h1
  subst h1
  simpa using h2
 | n :: A,B,x,y,h1,h2 => by
  simp only [obsLend] at h1
  cases h3:(f n).lend L f with
  | none => rw [h3] at h1; cases h1
  | some o =>
   cases h4:obsLend L f A with
   | none => rw [h3,h4] at h1; cases h1
   | some os =>
    rw [h3,h4] at h1
    simp only [Option.some.injEq] at h1
    subst h1
    simp only [List.cons_append,obsLend,h3,obsLend_append h4 h2]
theorem obsLend_fam {L:List Nat} {f:Nat → Ob} (hf:∀ i (h:i < R.length),f (i + b) = (R[i]).ob cds):obsLend L f (rng b R.length) = some (R.map (Row.ob cds)):=by
 suffices h:∀ (k:Nat),k ≤ R.length → obsLend L f ((rng b R.length).drop (R.length - k)) = some ((R.map (Row.ob cds)).drop (R.length - k)) by
  simpa using h R.length (Nat.le_refl _)
 intro k
 induction k with
 | zero => intro _; rw [Nat.sub_zero,List.drop_of_length_le (by rw [rng_len]; exact Nat.le_refl _),List.drop_of_length_le (by simp)]; rfl
 | succ k ih =>
  intro hk
  have hi:R.length - (k + 1) < R.length:=by omega
  have e:R.length - k = R.length - (k + 1) + 1:=by omega
  rw [List.drop_eq_getElem_cons (l:=rng b R.length) (by rw [rng_len]; exact hi),List.drop_eq_getElem_cons (l:=R.map (Row.ob cds)) (by simpa using hi)]
  have e2:(rng b R.length)[R.length - (k + 1)]'(by rw [rng_len]; exact hi) = R.length - (k + 1) + b:=by simp [rng]
  have ih:=ih (by omega)
  rw [e] at ih
  simp only [e2,obsLend,hf _ hi,Row.ob,Ob.lend,lend_cellsG,Option.map_some,ih,List.getElem_map]
theorem obsBack_rows (L:List Nat):∀ R:List (Row α),obsBack L (R.map (Row.ob cds)) = some (R.map (Row.ob cds))
 | [] => rfl
 | r :: R => by simp only [List.map_cons,obsBack,Row.ob,Ob.back,back_cellsG,Option.map_some]; rw [show obsBack L (R.map (Row.ob cds)) = some (R.map (Row.ob cds)) from obsBack_rows L R]
theorem ownBack_fam:ownBack own (rng b R.length) (R.map (Row.ob cds)) = fam b cds R own:=by
 funext n
 by_cases hn:b ≤ n ∧ n < R.length + b
 ·obtain ⟨i,rfl⟩ : ∃ i,n = i + b:=⟨n - b,by omega⟩
  have hi:i < R.length:=by omega
  rw [fam_at hi]
  exact ownBack_in rng_nodup (rng_get? hi) (by simp [hi])
 ·rw [ownBack_out (fun h => hn (rng_mem h))]
  unfold fam
  split
  ·rw [List.getElem?_eq_none (by omega)]
  ·rfl
def AV.prgs (L:List Nat) (x:AV):AV:=L.foldr AV.prg x
theorem prgEs_app (L:List Nat) (f:Nat → AV) (t:Nat):prgEs L f t = (f t).prgs L:=by
 induction L with
 | nil => rfl
 | cons n L ih => simp only [prgEs,prgE,ih]; rfl
theorem prgs_stay {x:AV}:∀ {L:List Nat},(∀ n ∈ L,x.prg n = x) → x.prgs L = x
 | [],_ => rfl
 | n :: L,h => by
  have e:x.prgs (n :: L) = (x.prgs L).prg n:=rfl
  rw [e,prgs_stay fun k hk => h k (List.mem_cons_of_mem _ hk),h n (by simp)]
theorem prgEs_stay {L:List Nat} {f:Nat → AV} (h:∀ n ∈ L,prgE n f = f):prgEs L f = f:=by
 funext t
 rw [prgEs_app]
 exact prgs_stay fun n hn => congrFun (h n hn) t
theorem prgOs_stay {f:Nat → Ob}:∀ {L:List Nat},(∀ n ∈ L,prgO n f = f) → prgOs L f = f
 | [],_ => rfl
 | n :: L,h => by simp only [prgOs]; rw [prgOs_stay fun k hk => h k (List.mem_cons_of_mem _ hk),h n (by simp)]
def datas (cds:α → List CD) (sz:Nat) (R:List (Row α)):List AV:=R.map fun r => .c (.sl sz (r.l.map cds))
def frzEs (b:Nat) (cds:α → List CD) (R:List (Row α)):Nat → (Nat → AV) → Nat → AV
 | 0,f => f
 | k + 1,f => frzEs b cds R k (frzE (k + b) (match R[k]? with | some r => flatG cds r.l | none => []) f)
def frzPs (b:Nat) (cds:α → List CD) (R:List (Row α)):Nat → (Nat → Ob) → Nat → Ob
 | 0,f => f
 | k + 1,f => frzPs b cds R k (frzO (k + b) (match R[k]? with | some r => flatG cds r.l | none => []) f)
theorem frzO_top {k:Nat} {r:Row α} {ds:List CD} (hk:k = R.length) (hno:own (k + b) = .none):frzO (k + b) ds (fam b cds (R ++ [r]) own) = fam b cds R (frzO (k + b) ds own):=by
 subst hk
 funext n
 rw [frzO_app]
 by_cases e:n = R.length + b
 ·subst e; rw [if_pos rfl,fam_hi (Nat.le_refl _),frzO_app,if_pos rfl]
 ·rw [if_neg e,fam_fun (fun o => o.frz _ ds) fun r => by simp only [Row.ob,Ob.frz,frz_cellsG]]
  unfold fam
  have e2:frzO (R.length + b) ds own n = (own n).frz (R.length + b) ds:=by rw [frzO_app,if_neg e]
  rw [e2]
  split
  ·by_cases h:n - b < R.length
   ·rw [List.getElem?_append_left h]
   ·rw [List.getElem?_eq_none (by simp; omega),List.getElem?_eq_none (by omega)]
  ·rfl
variable {C:Ctx} {Q:Exit → St → Prop} {v:VC} {env:Nat → AV}
theorem WV_frzFam:∀ (k:Nat) (own:Nat → Ob) (env:Nat → AV),k = R.length → (∀ i,i < k → own (i + b) = .none) → WV C v Q ⟨frzEs b cds R k env,frzPs b cds R k own⟩ → WV C v Q ⟨env,fam b cds R own⟩:=by
 suffices hs:∀ (k:Nat) (own:Nat → Ob) (env:Nat → AV),k ≤ R.length → (∀ i,i < k → own (i + b) = .none) → WV C v Q ⟨frzEs b cds R k env,frzPs b cds R k own⟩ → WV C v Q ⟨env,fam b cds (R.take k) own⟩ by
  intro k own env hk ho h
  have:=hs k own env (by omega) ho h
  rwa [hk,List.take_length] at this
 intro k
 induction k with
 | zero => intro own env _ _ h; rw [List.take_zero,fam_nil]; exact h
 | succ k ih =>
  intro own env hk ho h
  have hk2:k < R.length:=by omega
  rw [List.take_succ_eq_append_getElem hk2]
  have hb:fam b cds (R.take k ++ [R[k]]) own (k + b) = .box ((flatG cds (R[k]).l).map .c ++ List.replicate (R[k]).j .non):=by
   have e:(R.take k ++ [R[k]]).length = k + 1:=by simp; omega
   rw [fam_at (by omega)]
   simp only [Row.ob]
   have:(R.take k ++ [R[k]])[k]'(by omega) = R[k]:=by
    rw [List.getElem_append_right (by simp; omega)]; simp
   rw [this]; rfl
  refine WV_freezeJ (k + b) hb ?_
  rw [frzO_top (by simp; omega) (ho k (by omega))]
  refine ih _ _ (by omega) (fun i hi => ?_) ?_
  ·rw [frzO_app,if_neg (by omega),ho i (by omega)]; rfl
  ·simp only [frzEs,frzPs,List.getElem?_eq_getElem hk2] at h
   exact h
theorem frzEs_stay {env:Nat → AV} (h:∀ n ds,b ≤ n → frzE n ds env = env):∀ k,frzEs b cds R k env = env
 | 0 => rfl
 | k + 1 => by simp only [frzEs]; rw [h _ _ (by omega)]; exact frzEs_stay h k
theorem frzPs_refs {own:Nat → Ob} {t:Nat} {pre post:List AV} (hm:∀ a,(cds a).length = sz) (ht:t < b) (h1:∀ n ds,b ≤ n → frzO n ds own = own) (h2:∀ n ds,b ≤ n → AV.frzL n ds post = post) :
  ∀ k,k ≤ R.length → frzPs b cds R k (upd own t (.box (refs b sz 0 (R.take k) ++ (datas cds sz (R.drop k) ++ post)))) = upd own t (.box (datas cds sz R ++ post))
 | 0,_ => by simp [frzPs,refs]
 | k + 1,hk => by
  have hk2:k < R.length:=by omega
  simp only [frzPs,List.getElem?_eq_getElem hk2]
  rw [frzO_upd,if_neg (by omega),h1 _ _ (by omega)]
  have e:(Ob.box (refs b sz 0 (R.take (k + 1)) ++ (datas cds sz (R.drop (k + 1)) ++ post))).frz (k + b) (flatG cds (R[k]).l) = .box (refs b sz 0 (R.take k) ++ (datas cds sz (R.drop k) ++ post)):=by
   simp only [Ob.frz]
   rw [List.take_succ_eq_append_getElem hk2,refs_snoc,frzL_append,frzL_append,frzL_append,h2 _ _ (by omega)]
   have e1:AV.frzL (k + b) (flatG cds (R[k]).l) (refs b sz 0 (R.take k)) = refs b sz 0 (R.take k):=by
    have:∀ (S:List (Row α)) (i:Nat),S.length + i ≤ k → AV.frzL (k + b) (flatG cds (R[k]).l) (refs b sz i S) = refs b sz i S:=by
     intro S
     induction S with
     | nil => intro i _; rfl
     | cons r S ih => intro i hi; simp only [List.length_cons] at hi; simp only [refs,AV.frzL,AV.frz]; rw [if_neg (by omega),ih (i + 1) (by omega)]
    exact this _ 0 (by simp; omega)
   have e2:AV.frzL (k + b) (flatG cds (R[k]).l) (datas cds sz (R.drop (k + 1))) = datas cds sz (R.drop (k + 1)):=by
    generalize R.drop (k + 1) = S
    induction S with
    | nil => rfl
    | cons r S ih => simp only [datas,List.map_cons,AV.frzL,AV.frz] at ih ⊢; rw [ih]
   have e3:(R.take k).length + 0 + b = k + b:=by simp; omega
   rw [e1,e2,e3]
   have e4:AV.frzL (k + b) (flatG cds (R[k]).l) [.vw sz (k + b) 0 (R[k]).l.length (R[k]).cap] = [.c (.sl sz ((R[k]).l.map cds))]:=by
    simp only [AV.frzL,AV.frz,if_true]
    rw [if_pos (by rw [flatG_len hm]; omega),List.drop_zero,grp_cellsG hm]
   have e5:datas cds sz (R.drop k) = [.c (.sl sz ((R[k]).l.map cds))] ++ datas cds sz (R.drop (k + 1)):=by
    rw [List.drop_eq_getElem_cons hk2]; rfl
   rw [e4,e5]
   simp only [List.append_assoc]
  rw [e]
  exact frzPs_refs (pre:=pre) hm ht h1 h2 k (by omega)
end
end Go.V

/-
 The primitives at the user's level.
-/
namespace Go.V
theorem primV_1 (p:Prim) (d:CD) (g:Bool):primV p [.c d] g = (match p.ev [d] with | some (q,e) => some (g = true ∧ q,.c e) | none => primD p):=rfl
theorem primV_2 (p:Prim) (d d':CD) (g:Bool):primV p [.c d,.c d'] g = (match p.ev [d,d'] with | some (q,e) => some (g = true ∧ q,.c e) | none => primD p):=rfl
theorem primV_3 (p:Prim) (d d' d'':CD) (g:Bool):primV p [.c d,.c d',.c d''] g = (match p.ev [d,d',d''] with | some (q,e) => some (g = true ∧ q,.c e) | none => primD p):=rfl
theorem ev_slen (s:List UInt8):Prim.ev .slen [.str s] = some (True,.int .i64 s.length):=rfl
theorem ev_sidx (s:List UInt8) (k:IntKind) (j:Int):Prim.ev .sidx [.str s,.int k j] = some (0 ≤ j ∧ j < s.length,.int .u8 (s.getD j.toNat 0).toNat):=rfl
theorem ev_sslc0 (s:List UInt8):Prim.ev (.sslc false false) [.str s] = some (True,.str s):=rfl
theorem ev_sslc1 (s:List UInt8) (k:IntKind) (j:Int):Prim.ev (.sslc true false) [.str s,.int k j] = some (0 ≤ j ∧ j ≤ s.length,.str (s.drop j.toNat)):=rfl
theorem ev_sslc2 (s:List UInt8) (k:IntKind) (j:Int):Prim.ev (.sslc false true) [.str s,.int k j] = some (0 ≤ j ∧ j ≤ s.length,.str (s.take j.toNat)):=rfl
theorem ev_sslc3 (s:List UInt8) (k k':IntKind) (i j:Int):Prim.ev (.sslc true true) [.str s,.int k i,.int k' j] = some (0 ≤ i ∧ i ≤ j ∧ j ≤ s.length,.str ((s.drop i.toNat).take (j.toNat - i.toNat))):=rfl
theorem ev_add (a b:List UInt8):Prim.ev (.sbin .add) [.str a,.str b] = some (a.length + b.length ≤ maxLen,.str (a ++ b)):=rfl
theorem ev_eql (a b:List UInt8):Prim.ev (.sbin .eql) [.str a,.str b] = some (True,.bool (a == b)):=rfl
theorem ev_neq (a b:List UInt8):Prim.ev (.sbin .neq) [.str a,.str b] = some (True,.bool (!(a == b))):=rfl
theorem ev_conv (k k':IntKind) (n:Int):Prim.ev (.conv k) [.int k' n] = some (True,.int k (k.wrap n)):=rfl
attribute [go_sem] primV_1 primV_2 primV_3 ev_slen ev_sidx ev_sslc0 ev_sslc1 ev_sslc2 ev_sslc3 ev_add ev_eql ev_neq ev_conv
end Go.V

/-
 Short names for what the user's texts write again and again; no condition.
-/
namespace Go.V
open Go
section
variable {C:Ctx} {Q:Exit → St → Prop} {σ:St}
theorem Va {a b:VC} (h:WV C a (thenQ (WV C b Q) Q) σ):WV C (.seq a b) Q σ:=WV_seq_ h
theorem Vb {id:Nat} {x:VC} (h:WV C x (inQ id Q) σ):WV C (.block id x) Q σ:=WV_block h
theorem Vc {is:List Ins} (h:AOps C.P is (Q .normal) σ):WV C (.ops is) Q σ:=WV_ops h
theorem Vd {is:List Ins} (h:AOps C.P is (Q .normal) σ):WV C (.dops is) Q σ:=WV_dops h
theorem Ve (h:Q .normal σ):WV C .skip Q σ:=WV_skip h
theorem Vf {id:Nat} (h:Q (.exit id) σ):WV C (.exit id) Q σ:=WV_exit h
theorem WV_op {v:VC} {p:Prop} (q:p) (h:p → WV C v Q σ:=by first | exact WV_ops | exact WV_dops):WV C v Q σ:=h q
end
theorem init_st (args:List AV):St.init args = ⟨updL e0 0 args,o0⟩:=by unfold St.init; rw [init_env']; rfl
theorem qJ {a b:Prop} (hb:b) (ha:a:=by (fail_if_success with_reducible exact (rfl:0 = 0)); first | omega | (intros; simp_all; done) | (intros; simp_all; omega)):a ∧ b:=⟨ha,hb⟩
theorem EnvLe_au {o:Nat → Ob} {e e':Nat → AV} (h:EnvLe o e e':=by ((repeat' (first | exact EnvLe_e0 _ _ | refine EnvLe_upd ?_ ?_)) <;> ((try simp only [upd_app,e0_app,o0_app,Nat.reduceEqDiff,reduceIte]); first | exact AWk.refl _ _ | exact AWk.int (by omega) | exact AWk.int (by rw [w64 (by omega) (by omega)]; omega) | exact AWk.grow rfl | exact AWk.nil _ | exact AWk.of (by simp)))):EnvLe o e e':=h
theorem ObjLe_au {o o':Nat → Ob} (h:ObjLe o o':=by (first | ((repeat' (first | exact ObjLe_o0 _ | exact ObjLe.rfl' _ | refine ObjLe_same ?_ | refine ObjLe_upd ?_ ?_ | refine ObjLe_new rfl ?_)) <;> rfl) | (refine ObjLe_X ?_; (repeat' (first | exact ObjLeX_o0 _ _ | refine ObjLeX_skip rfl ?_ | refine ObjLeX_upd ?_ ?_)) <;> rfl))):ObjLe o o':=h
section
variable {P:Program} {σ:St} {d:Option Nat} {f:X} {xs:List X} {K:St → Prop}
theorem AS_pu {fid:FuncId} {caps args:List AV} {r:AV} (hs:FSpec P fid args r) (hK:K (σ.put d r)) (h1:(σ.val f).dg = true:=by rfl) (h2:(xs.all fun x => (σ.val x).dg) = true:=by rfl) (h3:(σ.val f).dv = .fn fid caps:=by rfl)
  (h4:AV.portL σ.own (xs.map (fun x => (σ.val x).dv) ++ caps) = some args:=by rfl) (h5:r.pureB = true:=by rfl):ACallS P d f xs K σ:=AS_pure hs h1 h2 h3 h4 h5 hK
theorem AG_pu {G:Bool} {A B:Prop} {fid:FuncId} {caps args:List AV} {r:AV} (hs:G = true → FSpec P fid args r) (hK:K (σ.put d (.opt G r))) (h1:(σ.val f).dg = true:=by rfl)
  (h2:G = true → (xs.all fun x => (σ.val x).dg) = true:=by intro hG; first | (simp only [go_sem,init_env',Nat.reduceEqDiff,Nat.reduceAdd,Nat.reduceMul,reduceIte,Nat.reduceLeDiff,Nat.reduceLT,Nat.reduceBEq,reduceCtorEq,hG]; done) | (simp only [go_sem,init_env',Nat.reduceEqDiff,Nat.reduceAdd,Nat.reduceMul,reduceIte,Nat.reduceLeDiff,Nat.reduceLT,Nat.reduceBEq,reduceCtorEq]; revert hG; simp; done) | (simp only [go_sem,init_env',Nat.reduceEqDiff,Nat.reduceAdd,Nat.reduceMul,reduceIte,Nat.reduceLeDiff,Nat.reduceLT,Nat.reduceBEq,reduceCtorEq,hG]; simp_all; done) | (revert hG; simp; done) | simp_all)
  (h3:(σ.val f).dv = .fn fid caps:=by rfl) (h4:AV.portL σ.own (xs.map (fun x => (σ.val x).dv) ++ caps) = some args:=by rfl) (h5:r.pureB = true:=by rfl):ACallG P G d f xs K σ ∨ A ∨ B:=AG_pure hs h1 h2 h3 h4 h5 hK
end
end Go.V

/-
 Operations that the machine has no instruction of its own for: what the model does at them,for the user.
-/
namespace Go.V
theorem RawI_raw {P:Program} {d:Option Nat} {op:Op} {K:St → Prop} {σ:St} (h:∀ (C:Ctx) (loc:Nat → Value) (a:Act) (w:World) (o:Oper),C.P = P → o.op = op → o.dst = d → d.all (· < C.N) = true → G C σ loc a w → ∃ σ',Mnd C σ' a w o ∧ K σ'):RawI P d (.raw op) K σ:=by
 intro C loc a w o hP hc hd hdl hg
 have hop:o.op = op:=by
  generalize o.op = op' at hc
  cases cI_inv hc
  rfl
 subst hd
 exact h C loc a w o hP hop rfl hdl hg
theorem RawI_snd {P:Program} {d:Option Nat} {op:Op} {K:St → Prop} {σ:St} {v:AV} (h:∀ (C:Ctx) (loc:Nat → Value) (a:Act) (w:World) (o:Oper),C.P = P → o.op = op → G C σ loc a w → Snd C σ loc a w o v) (hK:K (σ.put d v)):RawI P d (.raw op) K σ :=
 RawI_raw fun C loc a w o hP ho hd hdl hg => by
  obtain ⟨u,hrun,hr⟩:=h C loc a w o hP ho hg
  exact ⟨_,⟨w,loc,.inl ⟨u,hrun,by rw [hd]; exact hg.put hdl hr⟩⟩,hK⟩
def bcd (b:UInt8):List CD:=[.int .u8 b.toNat]
def bval (b:UInt8):Value:=.int .u8 b.toNat
theorem bytes_rep {w:World} {M:Cells} {loc:Nat → Value}:∀ s:List UInt8,RepAs w M loc (cellsG bcd s 0) (s.map bval)
 | [] => by simp [cellsG,flatG,RepAs]
 | b :: s => by
  have ih:=bytes_rep (w:=w) (M:=M) (loc:=loc) s
  simp only [cellsG,flatG,List.replicate_zero,List.append_nil,List.map_cons,List.flatten_cons,List.map_append,bcd,List.map_nil,List.cons_append,List.nil_append,RepAs] at ih ⊢
  exact ⟨_,_,rfl,by simp only [RepA,RepC]; rfl,ih⟩
theorem raw_sb {P:Program} {σ:St} {d:Nat} {src dst e:TypeId} {x:Operand} {x':X} {s:List UInt8} {K:St → Prop} (hs:P.underlying src = some .string) (hd:P.underlying dst = some (.slice e)) (he:P.underlying e = some (.int .u8))
  (hx:cX x = some x') (hdg:(σ.val x').dg = true) (hv:(σ.val x').dv = .c (.str s)) (hn:(σ.own d).isNone = true) (hl:s.length ≤ maxLen)
  (hK:∀ cap j,s.length ≤ cap → cap ≤ maxLen → cap ≤ s.length + j → K (St.new σ d (.vw 1 d 0 s.length cap) (.box (cellsG bcd s j)))):RawI P (some d) (.raw (.convert src dst x)) K σ:=by
 refine RawI_raw fun C loc a w o hP ho hod hdl hg => ?_
 subst hP
 have hdN:d < C.N:=by simpa using hdl
 have hr:=vald hg hx hdg
 rw [hv] at hr
 simp only [RepA,RepC] at hr
 have hsz:(ByteArray.mk s.toArray).size = s.length:=by simp [ByteArray.size]
 have hrun:=run_bytes_of_string (P:=C.P) w src dst e ⟨s.toArray⟩ hs hd he
 rw [hsz] at hrun
 have hge:=grownCap_ge w s.length 0 e
 have hle:=grownCap_le_maxLen w s.length 0 e hl
 obtain ⟨cap,hcap⟩ : ∃ cap,grownCap w s.length 0 e = cap:=⟨_,rfl⟩
 rw [hcap] at hrun hge hle
 have hbl:(bytesRow ⟨s.toArray⟩ cap).toList = s.map bval ++ List.replicate (cap - s.length) (.int .u8 0):=by
  simp [bytesRow,hsz,bval]
 have hbs:(bytesRow ⟨s.toArray⟩ cap).size = cap:=by
  have:=congrArg List.length hbl
  simp at this
  omega
 rw [hbs] at hrun
 have happ:AppRun C σ loc a w o none s.length 1 (cellsG bcd s 0) w.heap.size (w.drew.alloc (.cells (bytesRow ⟨s.toArray⟩ cap) e (cap,cap + 1))) cap (bytesRow ⟨s.toArray⟩ cap).toList (e,(cap,cap + 1)) (s.map bval):=by
  refine ⟨?_,⟨?_,fun j hj => ?_⟩,⟨hge,hle⟩,?_,?_,?_,bytes_rep s,⟨rfl,rfl,rfl,by simp,fun b hb _ => alloc_old w.drew _ b hb⟩,.inl rfl,fun k b h => (by cases h),fun k b off h => (by cases h),fun k b h => (by cases h)⟩
  ·simp [execOp,ho,hr,hrun]
  ·rw [show (w.heap.size) = w.drew.heap.size from rfl,alloc_new]
  ·simp [hbs] at hj; simp; omega
  ·simp [hbs]
  ·rw [hbl,Nat.mul_one]; exact List.take_left' (by simp)
  ·simp
 obtain ⟨j,hj,hm⟩:=appv_end hg hod hdN (n:=none) (by simpa [rmv] using hn) happ
 refine ⟨_,hm,?_⟩
 have e1:cellsG bcd s 0 ++ List.replicate j .non = cellsG bcd s j:=by simp [cellsG]
 rw [e1]
 exact hK cap j hge hle (by omega)
theorem bytes_of {w:World} {M:Cells} {s:List UInt8} {v:Value} (h:RepC w M (.sl 1 (s.map bcd)) v):∃ A cap,v = .slice A s.length cap ∧ (s = [] ∨ ∃ ad,A = some ad ∧ ∀ j (hj:j < s.length),w.cell? (ad.add j) = some (.int .u8 (s[j].toNat:Int))):=by
 simp only [RepC,List.length_map] at h
 obtain ⟨A,cap,hv,_,_,hE⟩:=h
 refine ⟨A,cap,hv,?_⟩
 rcases hE with hE | ⟨ad,rfl,hE⟩
 ·exact .inl (by simpa using hE)
 ·refine .inr ⟨ad,rfl,fun j hj => ?_⟩
  obtain ⟨_,h2⟩:=hE.get _ ad j (by simpa using hj)
  rw [List.getD_eq_getElem?_getD,List.getElem?_map,List.getElem?_eq_getElem hj] at h2
  simp only [Option.map_some,Option.getD_some,bcd,RepL,RepC,Nat.mul_one,and_true] at h2
  obtain ⟨u,h3,_,rfl⟩:=h2
  exact h3
theorem raw_bs {P:Program} {σ:St} {d:Option Nat} {src dst e:TypeId} {x:Operand} {x':X} {s:List UInt8} {K:St → Prop} (hs:P.underlying src = some (.slice e)) (he:P.underlying e = some (.int .u8)) (hd:P.underlying dst = some .string)
  (hx:cX x = some x') (hdg:(σ.val x').dg = true) (hv:(σ.val x').dv.vport σ.own = some (.c (.sl 1 (s.map bcd)))) (hK:K (σ.put d (.c (.str s)))):RawI P d (.raw (.convert src dst x)) K σ:=by
 refine RawI_snd (fun C loc a w o hP ho hg => ?_) hK
 subst hP
 have hr:=vport_rep hg (vald hg hx hdg) hv
 simp only [RepA] at hr
 obtain ⟨A,cap,hv,hc⟩:=bytes_of hr
 refine ⟨.string ⟨s.toArray⟩,?_,by simp only [RepA,RepC]⟩
 rcases hc with rfl | ⟨ad,rfl,hc⟩
 ·have:=run_convert_bytes_string (P:=C.P) w src dst e A 0 cap hs he hd
  simp only [List.length_nil] at hv
  simp only [execOp,ho,hv]
  simp [this,Conv.bytesToString]
  cases A <;> simp [loadCells,loadCellsFrom] <;> rfl
 ·have:=run_convert_bytes_back (P:=C.P) w src dst e ad cap s hs he hd hc
  simp [execOp,ho,hv,this]
end Go.V

/-
 A region step by step,with what is known of where the objects lie; calls that are lent objects at known places.
-/
namespace Go.V
def SOps (C:Ctx) (is:List Ins) (K:St → Prop) (σ:St):Prop :=
 ∀ (ops:Array Oper) (k:Nat) (Q':Exit → Act → World → Prop),(∀ σ a w,Gam C σ a w → K σ → Q' .normal a w) →
  (∀ (j:Nat) (ins:Ins),is[j]? = some ins → ∃ o,ops[k + j]? = some o ∧ INS C.P C.N ops o ins) → ∀ a w,Gam C σ a w → wpOpsIn C.F 0 C.P ops Q' (List.range' k is.length) a w
section
variable {C:Ctx} {σ σ':St} {K:St → Prop} {is js:List Ins} {i:Ins} {Q:Exit → St → Prop}
theorem SOps_ops (h:AOps C.P is K σ):SOps C is K σ:=fun _ k _ hQ hi a w hg => ops_sound hQ is k σ a w hi hg h
theorem SOps_weak (h:∀ a w,Gam C σ a w → Gam C σ' a w) (h2:SOps C is K σ'):SOps C is K σ:=fun ops k Q' hQ hi a w hg => h2 ops k Q' hQ hi a w (h a w hg)
theorem SOps_sem (h:∀ (ops:Array Oper) (o:Oper),INS C.P C.N ops o i → ∀ (Q':Exit → Act → World → Prop) (K':Act → World → Prop),(∀ σ' a' w',Gam C σ' a' w' → SOps C is K σ' → K' a' w') → ∀ a w,Gam C σ a w →
  (if Region.wanted o (yielded ops a.tmps) = true then o.wpIn C.F 0 C.P a w K' Q' else (∀ f,o.about C.P w a.eval = some f → C.F.fn f) ∧ K' (a.put o.dst undef) w)):SOps C (i :: is) K σ:=by
 intro ops k Q' hQ hi a w hg
 obtain ⟨o,ho,hins⟩:=hi 0 i rfl
 simp only [Nat.add_zero] at ho
 have:=h ops o hins Q' (wpOpsIn C.F 0 C.P ops Q' (List.range' (k + 1) is.length)) (fun σ' a' w' hg' hs => hs ops (k + 1) Q' hQ (fun j ins hj => by
  have:=hi (j + 1) ins (by simpa using hj)
  rwa [show k + (j + 1) = k + 1 + j from by omega] at this) a' w' hg') a w hg
 simp only [List.length_cons,List.range'_succ,wpOpsIn,ho]
 exact this
theorem SOps_step (h:AStep C.P i (SOps C is K) σ):SOps C (i :: is) K σ:=SOps_sem fun ops o hins Q' K' hK' a w hg => astep_sound hg hins h (fun σ' a' w' hg' hs => hK' σ' a' w' hg' hs)
theorem SOps_part:∀ {is:List Ins} {σ:St},AOps C.P is (SOps C js K) σ → SOps C (is ++ js) K σ
 | [],σ,h => h
 | i :: is,σ,h => SOps_step (AStep_mono (fun σ1 h1 => SOps_part h1) h)
theorem WV_sops (h:SOps C is (Q .normal) σ):WV C (.ops is) Q σ:=by
 intro c hc
 obtain ⟨id,ops,rfl,hi⟩:=WV_region hc
 intro a w hg
 refine wpIn_region ?_
 have hlen:=WV_region_len hc
 have:=h ops 0 (fun e a' w' => ∃ σ',Gam C σ' a' w' ∧ Q e σ') (fun σ a w hg hk => ⟨σ,hg,hk⟩) (fun j ins hj => by simpa using hi j ins hj) a w hg
 rw [List.range_eq_range']
 rwa [hlen] at this
theorem WV_split (n:Nat) (h:AOps C.P (is.take n) (SOps C (is.drop n) (Q .normal)) σ):WV C (.ops is) Q σ:=by
 have:=SOps_part h
 rw [List.take_append_drop] at this
 exact WV_sops this
theorem SOps_split (n:Nat) (h:AOps C.P (is.take n) (SOps C (is.drop n) K) σ):SOps C is K σ:=by
 have:=SOps_part h
 rwa [List.take_append_drop] at this
theorem SOps_nil (h:K σ):SOps C [] K σ:=SOps_ops h
def ptrV (b o:Nat):Value:=.pointer (some ⟨b,o,none⟩)
theorem Gam_raw {n o b t:Nat} (hp:C.pin n) (hl:C.l0 n = ptrV b 0) (ht:σ.env t = .bp n o):∀ a w,Gam C σ a w → Gam C ⟨upd σ.env t (.c (.raw (ptrV b o))),σ.own⟩ a w:=by
 rintro a w ⟨loc,hg⟩
 refine ⟨loc,hg.fr,hg.m0,hg.kp,hg.marks,hg.mnd,hg.pin,hg.size,fun s => ?_,hg.objs,hg.disj⟩
 by_cases hs:s = t
 ·subst hs
  have:=hg.slots s
  rw [ht] at this
  simp only [RepA] at this
  obtain ⟨b',h1,h2⟩:=this
  have h3:=(hg.pin n hp).2.1
  rw [hl,h1] at h3
  simp only [ptrV,Value.pointer.injEq,Option.some.injEq,Addr.mk.injEq,and_true] at h3
  subst h3
  simp only [upd,if_true,RepA,RepC]
  exact ⟨h2,rfl⟩
 ·simp only [upd,if_neg hs]
  exact hg.slots s
theorem Gam_unraw {n o b t:Nat} (hp:C.pin n) (hl:C.l0 n = ptrV b 0) (ht:σ.env t = .c (.raw (ptrV b o))):∀ a w,Gam C σ a w → Gam C ⟨upd σ.env t (.bp n o),σ.own⟩ a w:=by
 rintro a w ⟨loc,hg⟩
 refine ⟨loc,hg.fr,hg.m0,hg.kp,hg.marks,hg.mnd,hg.pin,hg.size,fun s => ?_,hg.objs,hg.disj⟩
 by_cases hs:s = t
 ·subst hs
  have:=hg.slots s
  rw [ht] at this
  simp only [RepA,RepC] at this
  simp only [upd,if_true,RepA]
  exact ⟨b,by rw [(hg.pin n hp).2.1,hl]; rfl,this.1⟩
 ·simp only [upd,if_neg hs]
  exact hg.slots s
theorem SOps_raw (n o b t:Nat) (hp:C.pin n) (hl:C.l0 n = ptrV b 0) (ht:σ.env t = .bp n o) (h:SOps C is K ⟨upd σ.env t (.c (.raw (ptrV b o))),σ.own⟩):SOps C is K σ:=SOps_weak (Gam_raw hp hl ht) h
theorem WV_unraw {v:VC} (n o b t:Nat) (hp:C.pin n) (hl:C.l0 n = ptrV b 0) (ht:σ.env t = .c (.raw (ptrV b o))) (h:WV C v Q ⟨upd σ.env t (.bp n o),σ.own⟩):WV C v Q σ:=WV_weak (Gam_unraw hp hl ht) h
def FSpecB (P:Program) (f:FuncId) (bs:Nat → Nat) (args:List AV) (l:List Ob) (Post:AV → List Ob → Prop):Prop :=
 callable P f ∧ l.length ≤ 1000 ∧ ∀ (w:World) (M:Cells) (loc:Nat → Value) (vs:List Value),(∀ i,i < l.length → loc (1000 + i) = ptrV (bs i) 0) → (∀ b o,M b o → b < w.heap.size ∧ ¬ Foot (ownW l []) loc b) → LentOk P w M loc (ownW l []) → RepAs w (AddM M (ownW l []) loc) loc args vs →
  Calls P f vs.toArray w fun e w' => ∃ v r l' loc',e = .returned v ∧ Post r l' ∧ l'.length = l.length ∧ Fx w w' (Foot (ownL 1000 l) loc) ∧ Keeps w w' (AddM M (ownW l []) loc) (AddM M (ownW l' []) loc') ∧ LentOk P w' M loc' (ownW l' []) ∧
   (∀ n b,(ownL 1000 l' n).has (loc' n) b → Foot (ownL 1000 l) loc b ∨ w.heap.size ≤ b) ∧ (∀ n,(ownW l [] n).isPlace = true → (ownW l' [] n).isPlace = true ∧ loc' n = loc n) ∧ RepA w' (AddM M (ownW l' []) loc') loc' r v
def AtP (C:Ctx) (bs:Nat → Nat) (n:Nat):Prop:=∀ i,i < n → C.pin (1000 + i) ∧ C.l0 (1000 + i) = ptrV (bs i) 0
def Ob.isBx:Ob → Bool
 | .box _ => true
 | _ => false
theorem FSpecB_of {P:Program} {m:List Nat} {f:FuncId} {fc:FC} (hc:compM P m f = some fc) {bs:Nat → Nat} {args:List AV} {l:List Ob} {Post:AV → List Ob → Prop} (hbx:l.all Ob.isBx = true) (hl:l.length ≤ 1000) (hn:args.length ≤ fc.np) (hnp:fc.np ≤ fc.N) (hN:fc.N ≤ 1000)
  (h:∀ C:Ctx,C.P = P → C.N = fc.N → C.Ok → AtP C bs l.length → AV.lensL args → WV C fc.body (RetQL fc.rs l [] Post) ⟨fun t => args.getD t .non,ownW l []⟩):FSpecB P f bs args l Post:=by
 obtain ⟨hcl,hb⟩:=body_call hc
 refine ⟨hcl,hl,fun w M loc vs hbs hM hok hr => ?_⟩
 have hlen:=hr.length
 refine hb (Ctx.lentC P fc.N m w M l [] loc none) (RetQL fc.rs l [] Post) _ loc vs _ rfl rfl rfl rfl (by omega) (h _ rfl rfl (fun _ h => by cases h) (fun i hi => ⟨?_,hbs i hi⟩) hr.lens) (fun tm hs ht => G_initL hl hN hM hok hs (fun t => by rw [ht t]; exact init_slots fc.N args vs hr t)) (fun l₀ hl₀ σ loc' a w' hg hq => ?_) (fun e σ hq => by cases e <;> first | exact .inl rfl | exact .inr rfl | exact hq.elim)
 ·show (ownW l [] (1000 + i)).isPlace = true
  rw [ownW_small (by omega),ownL_some hi]
  have:=List.all_eq_true.1 hbx (l.getD i .none) (by rw [List.getD_eq_getElem?_getD,List.getElem?_eq_getElem hi]; exact List.getElem_mem hi)
  cases hx:l.getD i .none <;> rw [hx] at this <;> first | rfl | cases this
 have hret:RetOkL fc.rs l [] Post σ:=hq.elim id id
 unfold RetOkL at hret
 split at hret
 case h_2 => exact hret.elim
 rename_i q avs hres
 obtain ⟨hq,r,l',hkr,hkl,hpost⟩:=hret
 obtain ⟨us,hus,hrus⟩:=resAll_sound hg l₀ fc.rs hl₀ hres hq
 obtain ⟨k1,k2,k3,k4,k5,k6⟩:=lentC_end hl rfl rfl rfl rfl rfl hg hkl
 exact ⟨us,hus,_,r,l',loc',rfl,hpost,hkl.len,k1,k2,k3,k4,k5,k6 _ _ _ hkr (tup_rep hrus)⟩
theorem FSpecL_ofB {P:Program} {f:FuncId} {args:List AV} {l:List Ob} {Post:AV → List Ob → Prop} (hbx:l.all Ob.isBx = true) (h:∀ bs,FSpecB P f bs args l Post):FSpecL P f args l [] Post:=by
 refine ⟨(h fun _ => 0).1,(h fun _ => 0).2.1,fun w M loc vs hM hok hr => ?_⟩
 have hb:∀ i,i < l.length → ∃ b,loc (1000 + i) = ptrV b 0:=by
  intro i hi
  have h1:=hok.objs (1000 + i)
  have hi1:=(h fun _ => 0).2.1
  rw [ownW_small (by omega),ownL_some hi] at h1
  have:=List.all_eq_true.1 hbx (l.getD i .none) (by rw [List.getD_eq_getElem?_getD,List.getElem?_eq_getElem hi]; exact List.getElem_mem hi)
  cases hx:l.getD i .none <;> rw [hx] at this h1 <;> first | (cases this; done) | skip
  obtain ⟨b,_,_,h2,_⟩:=h1
  exact ⟨b,h2⟩
 obtain ⟨bs,hbs⟩ : ∃ bs:Nat → Nat,∀ i,i < l.length → loc (1000 + i) = ptrV (bs i) 0:=by
  refine ⟨fun i => match loc (1000 + i) with | .pointer (some a) => a.block | _ => 0,fun i hi => ?_⟩
  obtain ⟨b,h1⟩:=hb i hi
  show loc (1000 + i) = ptrV (match loc (1000 + i) with | .pointer (some a) => a.block | _ => 0) 0
  rw [h1]; rfl
 exact (h bs).2.2 w M loc vs hbs hM hok hr
theorem ins_call {ops:Array Oper} {o:Oper} {d:Option Nat} {f:X} {xs:List X} {s:Bool} (h:INS C.P C.N ops o ⟨d,.call f xs,none,s⟩):cI C.P o.op = some (.call f xs) ∧ o.dst = d ∧ o.dst.all (· < C.N) = true ∧ o.guard = none:=by
 obtain ⟨s',ii,hc,hv⟩:=h
 have hii:ii = .call f xs:=by
  rcases hv with hv | ⟨_,_,_,_,_,_,hv⟩ | ⟨_,_,_,_,hv⟩ | ⟨_,_,_,_,hv⟩ | ⟨_,_,_,hv⟩
  ·exact hv.symm
  ·cases hv
  ·cases hv
  ·cases hv
  ·cases hv
 subst hii
 unfold cOp at hc
 split at hc
 ·rename_i ins g hi hgd
  split at hc
  ·rename_i hd
   simp only [Option.some.injEq,Ins.mk.injEq] at hc
   obtain ⟨rfl,rfl,rfl,_⟩:=hc
   refine ⟨hi,rfl,hd,?_⟩
   unfold cGuard at hgd
   cases hog:o.guard with
   | none => rfl
   | some jw =>
    rw [hog] at hgd
    obtain ⟨j,want⟩:=jw
    simp only at hgd
    split at hgd
    ·cases hgd
    ·cases hgd
  ·cases hc
 ·cases hc
theorem SOps_callB {d:Option Nat} {f:X} {xs:List X} {s:Bool} {fid:FuncId} {caps args:List AV} {L:List Nat} {l:List Ob} {bs:Nat → Nat} {Post:AV → List Ob → Prop}
  (hs:FSpecB C.P fid bs args l Post) (hfd:(σ.val f).dg = true) (hxd:(xs.all fun x => (σ.val x).dg) = true) (hf:(σ.val f).dv = .fn fid caps) (hL:L.Nodup) (hp:AV.lendL 1000 L σ.own (xs.map (fun x => (σ.val x).dv) ++ caps) = some args) (hl:obsLend L σ.own L = some l)
  (hbs:∀ i n,L[i]? = some n → C.pin n ∧ C.l0 n = ptrV (bs i) 0)
  (hpost:∀ r l',Post r l' → ∃ r' os,r.back L = some r' ∧ obsBack L l' = some os ∧ SOps C is K (St.put ⟨prgEs (growsOf σ.own L) σ.env,ownBack (prgOs (growsOf σ.own L) σ.own) L os⟩ d r')):SOps C (⟨d,.call f xs,none,s⟩ :: is) K σ:=by
 refine SOps_sem fun ops o hins Q' K' hK a w hg => ?_
 obtain ⟨hc,rfl,hd,hog⟩:=ins_call hins
 rw [if_pos (by simp [Region.wanted,hog])]
 obtain ⟨loc,hg⟩:=hg
 obtain ⟨hcl,hlen,hs⟩:=hs
 obtain ⟨s1,s2,s3,s4,s5,s6⟩:=lent_start hg hL hlen hl
 have hll:=(obsLend_get hl).1
 refine wpIn_callF hg hc hfd hxd hf hcl (fun vs hvs => hs w (McL C σ loc L) (locL 1000 loc L) vs (fun i hi => ?_) (fun b k hm => s1 b k hm) s3 (RepAs.keep (Keeps.less s2) _ _ (lends_rep hg hvs hp))) fun e w' h => ?_
 ·have h1:L[i]? = some (L[i]'(by omega)):=List.getElem?_eq_getElem _
  rw [locL_at h1]
  obtain ⟨k1,k2⟩:=hbs i _ h1
  rw [(hg.pin _ k1).2.1,k2]
 obtain ⟨v,r,l',loc',rfl,hP,hll,fx,kp,ok,has,plc,hr⟩:=h
 obtain ⟨r',os,hb,hbk,hk'⟩:=hpost r l' hP
 obtain ⟨loc'',hg',hre⟩:=lent_end hg hL hlen hl hll fx kp ok has (fun n hn => (plc n hn).2) hbk
 exact ⟨v,rfl,hK _ _ _ ⟨loc'',hg'.put hd (hre r r' v hb hr)⟩ hk'⟩
theorem SOps_callP {d:Option Nat} {f:X} {xs:List X} {s:Bool} (h:ACallP C d f xs (SOps C is K) σ):SOps C (⟨d,.call f xs,none,s⟩ :: is) K σ:=by
 refine SOps_sem fun ops o hins Q' K' hK a w hg => ?_
 obtain ⟨hc,rfl,hd,hog⟩:=ins_call hins
 rw [if_pos (by simp [Region.wanted,hog])]
 obtain ⟨loc,hg⟩:=hg
 exact call_newP hg hc hd h fun σ' a' w' hg' hs => hK σ' a' w' hg' hs
open Classical in
theorem WV_pin {v:VC} (S:Nat → Prop) (h1:∀ n,S n → 1000 ≤ n ∧ C.N ≤ n ∧ (σ.own n).isBx = true) (h:∀ C':Ctx,C'.P = C.P → C'.N = C.N → C'.m = C.m → (C.Ok → C'.Ok) → (∀ b,C'.X b ↔ C.X b) → (∀ n,C.pin n → C'.pin n ∧ C'.l0 n = C.l0 n) → (∀ n,S n → C'.pin n ∧ ∃ b,C'.l0 n = ptrV b 0) → WV C' v Q σ):WV C v Q σ:=by
 intro c hc a w hg
 obtain ⟨loc,hg⟩:=hg
 have hS:∀ n,S n → ∃ b,loc n = ptrV b 0:=by
  intro n hn
  have h2:=hg.objs n
  have:=(h1 n hn).2.2
  cases hx:σ.own n <;> rw [hx] at this h2 <;> first | (cases this; done) | skip
  obtain ⟨b,_,_,h3,_⟩:=h2
  exact ⟨b,h3⟩
 obtain ⟨C',hC'⟩ : ∃ C':Ctx,C' = { C with pin:=fun n => C.pin n ∨ S n,l0:=fun n => if S n then loc n else C.l0 n }:=⟨_,rfl⟩
 have hl0:∀ n,C.pin n → C'.l0 n = C.l0 n:=by
  intro n hn
  rw [hC']
  simp only
  split
  ·exact (hg.pin n hn).2.1
  ·rfl
 have hgC:G C' σ loc a w:=by
  subst hC'
  refine ⟨⟨hg.fr.os,hg.fr.tape,hg.fr.output,hg.fr.size,hg.fr.block⟩,hg.m0,hg.kp,hg.marks,hg.mnd,fun n hn => ?_,hg.size,hg.slots,hg.objs,hg.disj⟩
  simp only
  by_cases hs:S n
  ·rw [if_pos hs]
   obtain ⟨k1,k2,_⟩:=h1 n hs
   obtain ⟨b,hb⟩:=hS n hs
   exact ⟨⟨k2,k1⟩,rfl,by rw [hb]; rfl⟩
  ·rw [if_neg hs]
   rcases hn with hn | hn
   ·exact hg.pin n hn
   ·exact (hs hn).elim
 have hw:=h C' (by rw [hC']) (by rw [hC']) (by rw [hC']) (fun hok => by rw [hC']; exact hok) (fun b => by rw [hC']) (fun n hn => ⟨by rw [hC']; exact .inl hn,hl0 n hn⟩) (fun n hn => ⟨by rw [hC']; exact .inr hn,by
  obtain ⟨b,hb⟩:=hS n hn
  refine ⟨b,?_⟩
  rw [hC']
  simp only
  rw [if_pos hn,hb]⟩) c (by rw [hC']; exact hc) a w ⟨loc,hgC⟩
 have hback:∀ σ' loc' a' w',G C' σ' loc' a' w' → G C σ' loc' a' w':=by
  intro σ' loc' a' w' hg'
  subst hC'
  refine ⟨⟨hg'.fr.os,hg'.fr.tape,hg'.fr.output,hg'.fr.size,hg'.fr.block⟩,hg'.m0,hg'.kp,hg'.marks,hg'.mnd,fun n hn => ?_,hg'.size,hg'.slots,hg'.objs,hg'.disj⟩
  obtain ⟨p1,p2,p3⟩:=hg'.pin n (.inl hn)
  have e:=hl0 n hn
  exact ⟨p1,p2.trans e,by rw [e] at p3; exact p3⟩
 have hF:C'.F = C.F:=by rw [hC']; rfl
 have hP:C'.P = C.P:=by rw [hC']
 rw [hF,hP] at hw
 refine wpIn_mono hw ?_
 rintro e a' w' ⟨σ',⟨loc',hg'⟩,hq⟩
 exact ⟨σ',⟨loc',hback _ _ _ _ hg'⟩,hq⟩
end
end Go.V

/-
 A slice of slices that is lent with its rows: object 1000,and the rows from 1001 on.
-/
namespace Go.V
section
variable {α:Type} {cds:α → List CD} {R R':List (Row α)} {j m:Nat} {o:Nat → Ob}
def gridOb (m:Nat) (R:List (Row α)) (j:Nat):Ob:=.box (refs 1001 m 0 R ++ List.replicate j .non)
def gridL (cds:α → List CD) (m:Nat) (R:List (Row α)) (j:Nat):List Ob:=gridOb m R j :: R.map (Row.ob cds)
def gown (cds:α → List CD) (m:Nat) (R:List (Row α)) (j:Nat) (o:Nat → Ob):Nat → Ob:=fam 1001 cds R (upd o 1000 (gridOb m R j))
theorem gridL_len:(gridL cds m R j).length = R.length + 1:=by simp [gridL]
theorem gridL_bx:(gridL cds m R j).all Ob.isBx = true:=by
 rw [List.all_eq_true]
 intro x hx
 simp only [gridL,List.mem_cons,List.mem_map] at hx
 rcases hx with rfl | ⟨r,_,rfl⟩ <;> rfl
theorem gridL_get {i:Nat} (h:i < R.length):(gridL cds m R j).getD (i + 1) .none = (R[i]).ob cds:=by
 simp [gridL,List.getElem?_eq_getElem h]
theorem gown_lo {n:Nat} (h:n < 1000):gown cds m R j o n = o n:=by
 unfold gown
 rw [fam_lo (by omega)]
 simp only [upd]
 rw [if_neg (by omega)]
theorem gown_grid:gown cds m R j o 1000 = gridOb m R j:=by
 unfold gown
 rw [fam_lo (by omega)]
 simp [upd]
theorem gown_row {i:Nat} (h:i < R.length):gown cds m R j o (i + 1001) = (R[i]).ob cds:=by
 unfold gown
 exact fam_at h
theorem gown_hi {n:Nat} (h:R.length + 1001 ≤ n):gown cds m R j o n = o n:=by
 unfold gown
 rw [fam_hi h]
 simp only [upd]
 rw [if_neg (by omega)]
theorem gown_upd {t:Nat} (h:t < 1000) (v:Ob):upd (gown cds m R j o) t v = gown cds m R j (upd o t v):=by
 unfold gown
 rw [fam_upd (by omega)]
 congr 1
 funext n
 simp only [upd]
 split
 ·rw [if_neg (by omega)]
 ·rfl
theorem ownW_grid (h:R.length + 1 ≤ 1000):ownW (gridL cds m R j) [] = gown cds m R j o0:=by
 funext n
 rcases ownW_eq (l:=gridL cds m R j) (wl:=[]) (by rw [gridL_len]; exact h) n with ⟨i,h1,rfl,h3,_⟩ | ⟨_,h1,_⟩ | ⟨h3,h4⟩
 ·rw [h3]
  rw [gridL_len] at h1
  match i,h1 with
  | 0,_ => rw [show 1000 + 0 = 1000 from rfl,gown_grid]; rfl
  | i + 1,h1 => rw [gridL_get (by omega),show 1000 + (i + 1) = i + 1001 from by omega,gown_row (by omega)]
 ·simp at h1
 ·rw [h3]
  by_cases hn:n < 1000
  ·rw [gown_lo hn]; rfl
  ·by_cases hn2:n < R.length + 1001
   ·have:=ownL_some (l:=gridL cds m R j) (i:=n - 1000) (by rw [gridL_len]; omega)
    rw [show 1000 + (n - 1000) = n from by omega,h4] at this
    match h5:n - 1000,this with
    | 0,this => simp [gridL,gridOb] at this
    | i + 1,this =>
     rw [gridL_get (by omega)] at this
     simp [Row.ob] at this
   ·rw [gown_hi (by omega)]; rfl
theorem prgO_gown {d:Nat} (h:d < 1000):prgO d (gown cds m R j o) = gown cds m R j (prgO d o):=by
 unfold gown
 rw [prgO_fam]
 congr 1
 funext n
 simp only [prgO,upd]
 split
 ·have hnon:∀ j:Nat,AV.prgL d (List.replicate j .non) = List.replicate j .non:=by
   intro j; induction j with
   | zero => rfl
   | succ j ih => simp only [List.replicate_succ,AV.prgL,AV.prg,ih]
  have happ:∀ a b:List AV,AV.prgL d (a ++ b) = AV.prgL d a ++ AV.prgL d b:=by
   intro a b; induction a with
   | nil => rfl
   | cons x a ih => simp only [List.cons_append,AV.prgL,ih]
  simp only [gridOb,Ob.prg,happ,refs_prg (show d < 1001 by omega),hnon]
 ·rfl
theorem rnO_gown {d n:Nat} (hd:d < 1000) (hn:n < 1000):rnO d n (gown cds m R j o) = gown cds m R j (rnO d n o):=by
 have hP:rnP d n (gown cds m R j o) = gown cds m R j (rnP d n o):=by
  unfold gown
  rw [rnP_fam]
  congr 1
  funext k
  simp only [rnP_app',upd]
  split
  ·have hnon:∀ j:Nat,AV.rnL d n (List.replicate j .non) = List.replicate j .non:=by
    intro j; induction j with
    | zero => rfl
    | succ j ih => simp only [List.replicate_succ,AV.rnL,AV.rn,ih]
   have happ:∀ a b:List AV,AV.rnL d n (a ++ b) = AV.rnL d n a ++ AV.rnL d n b:=by
    intro a b; induction a with
    | nil => rfl
    | cons x a ih => simp only [List.cons_append,AV.rnL,ih]
   have hr:∀ (S:List (Row α)) (k:Nat),AV.rnL d n (refs 1001 m k S) = refs 1001 m k S:=by
    intro S
    induction S with
    | nil => intro k; rfl
    | cons r S ih =>
     intro k
     have e1:¬ k + 1001 = d:=by omega
     have e2:¬ k + 1001 = n:=by omega
     simp only [refs,AV.rnL,AV.rn,if_neg e1,if_neg e2,ih]
   simp only [gridOb,Ob.rn,happ,hr,hnon]
  ·rfl
 unfold rnO
 rw [hP,gown_lo hd,gown_upd hn,gown_upd hd]
theorem ObLe_gown {f g:Nat → Ob} (h:ObjLe f g):ObjLe (gown cds m R j f) (gown cds m R j g):=by
 unfold gown
 refine ObjLe_fam fun n => ?_
 simp only [upd]
 split
 ·exact .inl rfl
 ·exact h n
def gnum (n:Nat):List Nat:=[1000] ++ rng 1001 n
theorem gnum_nodup (n:Nat):(gnum n).Nodup:=nodup_rng (by simp) (by simp)
theorem gnum_get {n i:Nat} (h:i < n + 1):(gnum n)[i]? = some (1000 + i):=by
 match i,h with
 | 0,_ => rfl
 | i + 1,h =>
  unfold gnum
  rw [List.getElem?_append_right (by simp)]
  simp only [List.length_singleton,Nat.add_sub_cancel]
  rw [rng_get? (by omega)]
  congr 1; omega
theorem gnum_len (n:Nat):(gnum n).length = n + 1:=by simp [gnum,rng_len]
theorem obsLend_grid (hf:R.length + 1 ≤ 1000):obsLend (gnum R.length) (gown cds m R j o) (gnum R.length) = some (gridL cds m R j):=by
 have h1:obsLend (gnum R.length) (gown cds m R j o) [1000] = some [gridOb m R j]:=by
  simp only [obsLend,gown_grid,gridOb,Ob.lend]
  have happ:∀ a b:List AV,∀ x y,AV.lendL 1000 (gnum R.length) (gown cds m R j o) a = some x → AV.lendL 1000 (gnum R.length) (gown cds m R j o) b = some y → AV.lendL 1000 (gnum R.length) (gown cds m R j o) (a ++ b) = some (x ++ y):=by
   intro a
   induction a with
   | nil => intro b x y h1 h2; simp only [AV.lendL,Option.some.injEq] at h1; subst h1; simpa using h2
   | cons a as ih =>
    intro b x y h1 h2
    simp only [AV.lendL] at h1
    split at h1
    ·rename_i u us e1 e2
     simp only [Option.some.injEq] at h1
     subst h1
     simp only [List.cons_append,AV.lendL,e1,ih b us y e2 h2]
    ·cases h1
  have hnon:∀ k:Nat,AV.lendL 1000 (gnum R.length) (gown cds m R j o) (List.replicate k .non) = some (List.replicate k .non):=by
   intro k; induction k with
   | zero => rfl
   | succ k ih => simp only [List.replicate_succ,AV.lendL,AV.lend,ih]
  have hr:=refs_lend (b:=1001) (sz:=m) (m:=R.length) (L:=[1000]) (by simp) (gown cds m R j o) 1000 R 0 (by omega)
  rw [happ _ _ _ _ hr (hnon j)]
  rfl
 have h2:obsLend (gnum R.length) (gown cds m R j o) (rng 1001 R.length) = some (R.map (Row.ob cds)):=obsLend_fam fun i h => gown_row h
 exact obsLend_append h1 h2
theorem obsBack_grid:obsBack (gnum R.length) (gridL cds m R j) = some (gridL cds m R j):=by
 unfold gridL
 simp only [obsBack,obsBack_rows,gridOb,Ob.back]
 have happ:∀ a b:List AV,∀ x y,AV.backL (gnum R.length) a = some x → AV.backL (gnum R.length) b = some y → AV.backL (gnum R.length) (a ++ b) = some (x ++ y):=by
  intro a
  induction a with
  | nil => intro b x y h1 h2; simp only [AV.backL,Option.some.injEq] at h1; subst h1; simpa using h2
  | cons a as ih =>
   intro b x y h1 h2
   simp only [AV.backL] at h1
   split at h1
   ·rename_i u us e1 e2
    simp only [Option.some.injEq] at h1
    subst h1
    simp only [List.cons_append,AV.backL,e1,ih b us y e2 h2]
   ·cases h1
 have hnon:∀ k:Nat,AV.backL (gnum R.length) (List.replicate k .non) = some (List.replicate k .non):=by
  intro k; induction k with
  | zero => rfl
  | succ k ih => simp only [List.replicate_succ,AV.backL,AV.back,ih]
 have hr:=refs_back (b:=1001) (sz:=m) (m:=R.length) (L:=[1000]) (by omega) R 0 (by omega)
 have e:AV.backL (gnum R.length) (refs 1001 m 0 R) = some (refs 1001 m 0 R):=hr
 rw [happ _ _ _ _ e (hnon j)]
 rfl
theorem ownBack_grid (hl:R'.length = R.length):ownBack (gown cds m R j o) (gnum R.length) (gridL cds m R' j) = gown cds m R' j o:=by
 have e:ownBack (gown cds m R j o) (rng 1001 R.length) (R'.map (Row.ob cds)) = fam 1001 cds R' (gown cds m R j o):=by rw [← hl]; exact ownBack_fam
 show upd (ownBack (gown cds m R j o) (rng 1001 R.length) (R'.map (Row.ob cds))) 1000 (gridOb m R' j) = _
 rw [e]
 funext n
 simp only [upd]
 split
 ·rename_i h; subst h; rw [gown_grid]
 ·rename_i h
  by_cases h1:n < 1000
  ·rw [fam_lo (by omega),gown_lo h1,gown_lo h1]
  ·by_cases h2:n < R.length + 1001
   ·obtain ⟨i,rfl⟩ : ∃ i,n = i + 1001:=⟨n - 1001,by omega⟩
    rw [fam_at (by omega),gown_row (by omega)]
   ·rw [fam_hi (by omega),gown_hi (by omega),gown_hi (by omega)]
theorem growsOf_grid:growsOf (gown cds m R j o) (gnum R.length) = []:=by
 have:∀ L:List Nat,(∀ n ∈ L,(gown cds m R j o n).isGrow = false) → growsOf (gown cds m R j o) L = []:=by
  intro L
  induction L with
  | nil => intro _; rfl
  | cons n L ih => intro h; simp only [growsOf,h n (by simp),Bool.false_eq_true,if_false]; exact ih fun k hk => h k (by simp [hk])
 refine this _ fun n hn => ?_
 simp only [gnum,List.mem_append,List.mem_singleton] at hn
 rcases hn with rfl | hn
 ·rw [gown_grid]; rfl
 ·have:=rng_mem hn
  obtain ⟨i,rfl⟩ : ∃ i,n = i + 1001:=⟨n - 1001,by omega⟩
  rw [gown_row (by omega)]; rfl
theorem KeepL_grid {env:Nat → AV} (hl:R'.length = R.length) (h1:R.length + 1 ≤ 1000):KeepL (gridL cds m R j) [] ⟨env,gown cds m R' j o⟩ (gridL cds m R' j):=by
 refine ⟨by rw [gridL_len,gridL_len,hl],?_,fun i hi => ?_,fun k hk => by simp at hk,fun i hi _ => ?_⟩
 ·rw [List.all_eq_true]
  intro x hx
  have:=List.all_eq_true.1 (gridL_bx (cds:=cds) (m:=m) (R:=R') (j:=j)) x hx
  cases x <;> first | rfl | cases this
 ·rw [gridL_len] at hi
  match i,hi with
  | 0,_ =>
   show (gown cds m R' j o 1000).keepP _ = some (gridOb m R' j)
   rw [gown_grid]
   have happ:∀ a b:List AV,AV.keepPL (gown cds m R' j o) a = some a → AV.keepPL (gown cds m R' j o) b = some b → AV.keepPL (gown cds m R' j o) (a ++ b) = some (a ++ b):=by
    intro a
    induction a with
    | nil => intro b _ h2; simpa using h2
    | cons a as ih =>
     intro b h1 h2
     simp only [AV.keepPL] at h1
     split at h1
     ·rename_i u us e1 e2
      simp only [Option.some.injEq,List.cons.injEq] at h1
      obtain ⟨rfl,rfl⟩:=h1
      simp only [List.cons_append,AV.keepPL,e1,ih b e2 h2]
     ·cases h1
   have hnon:∀ k:Nat,AV.keepPL (gown cds m R' j o) (List.replicate k .non) = some (List.replicate k .non):=by
    intro k; induction k with
    | zero => rfl
    | succ k ih => simp only [List.replicate_succ,AV.keepPL,AV.keepP,ih]
   have hr:∀ (S:List (Row α)) (k:Nat),AV.keepPL (gown cds m R' j o) (refs 1001 m k S) = some (refs 1001 m k S):=by
    intro S
    induction S with
    | nil => intro k; rfl
    | cons r S ih => intro k; simp only [refs,AV.keepPL,AV.keepP,ih]; rw [if_pos (by omega)]
   simp only [gridOb,Ob.keepP,happ _ _ (hr R' 0) (hnon j),Option.map_some]
  | i + 1,hi =>
   show (gown cds m R' j o (1000 + (i + 1))).keepP _ = _
   rw [show 1000 + (i + 1) = i + 1001 from by omega,gown_row (by omega),gridL_get (by omega)]
   simp only [Row.ob,Ob.keepP]
   have hc:∀ (l:List CD) (k:Nat),AV.keepPL (gown cds m R' j o) (l.map .c ++ List.replicate k .non) = some (l.map .c ++ List.replicate k .non):=by
    intro l k
    induction l with
    | nil =>
     simp only [List.map_nil,List.nil_append]
     induction k with
     | zero => rfl
     | succ k ih => simp only [List.replicate_succ,AV.keepPL,AV.keepP,ih]
    | cons x l ih => simp only [List.map_cons,List.cons_append,AV.keepPL,AV.keepP,ih]
   unfold cellsG
   rw [hc]; rfl
 ·rw [gridL_len] at hi
  match i,hi with
  | 0,_ => rfl
  | i + 1,hi => rw [gridL_get (by omega)]; rfl
theorem SOps_grid {P:Program} {C:Ctx} {d:Option Nat} {f:X} {xs:List X} {s:Bool} {is:List Ins} {K:St → Prop} {env:Nat → AV} {fid:FuncId} {caps args:List AV} {bs:Nat → Nat} {Post:AV → List Ob → Prop}
  (hPe:C.P = P) (hs:FSpecB P fid bs args (gridL cds m R j) Post) (hat:AtP C bs (R.length + 1)) (hfd:(St.val ⟨env,gown cds m R j o⟩ f).dg = true) (hxd:(xs.all fun x => (St.val ⟨env,gown cds m R j o⟩ x).dg) = true) (hf:(St.val ⟨env,gown cds m R j o⟩ f).dv = .fn fid caps)
  (hp:AV.lendL 1000 (gnum R.length) (gown cds m R j o) (xs.map (fun x => (St.val ⟨env,gown cds m R j o⟩ x).dv) ++ caps) = some args)
  (hpost:∀ r l',Post r l' → ∃ R',R'.length = R.length ∧ l' = gridL cds m R' j ∧ r.pureB = true ∧ SOps C is K (St.put ⟨env,gown cds m R' j o⟩ d r)):SOps C (⟨d,.call f xs,none,s⟩ :: is) K ⟨env,gown cds m R j o⟩:=by
 subst hPe
 have hlen:R.length + 1 ≤ 1000:=by have:=hs.2.1; rwa [gridL_len] at this
 refine SOps_callB hs hfd hxd hf (gnum_nodup _) hp (obsLend_grid hlen) (fun i n hi => ?_) fun r l' hP => ?_
 ·have hlt:i < R.length + 1:=by
   have:=(List.getElem?_eq_some_iff.1 hi).1
   rwa [gnum_len] at this
  rw [gnum_get hlt] at hi
  simp only [Option.some.injEq] at hi
  subst hi
  exact hat i hlt
 ·obtain ⟨R',h1,rfl,h2,h3⟩:=hpost r l' hP
  refine ⟨r,gridL cds m R' j,back_pure h2,by rw [← h1]; exact obsBack_grid,?_⟩
  show SOps C is K (St.put ⟨prgEs (growsOf (gown cds m R j o) (gnum R.length)) env,ownBack (prgOs (growsOf (gown cds m R j o) (gnum R.length)) (gown cds m R j o)) (gnum R.length) (gridL cds m R' j)⟩ d r)
  rw [growsOf_grid]
  simp only [prgEs,prgOs]
  rw [ownBack_grid h1]
  exact h3
theorem lend_grid {f:Nat → Ob} {n off len cap sz:Nat}:AV.lend 1000 (gnum n) f (.vw sz 1000 off len cap) = some (.vw sz 1000 off len cap):=by
 simp only [AV.lend]
 rw [if_pos (by simp [gnum])]
 simp [gnum]
end
end Go.V

/-
 A range over a function that has captured objects of its own; objects that stand for those to come.
-/
namespace Go.V
mutual
theorem back_more {L:List Nat} (L2:List Nat):∀ {x y:AV},x.back L = some y → x.back (L ++ L2) = some y
 | .c d,y,h => h
 | .non,y,h => h
 | .opt g x,y,h => by
  simp only [AV.back,Option.map_eq_some_iff] at h ⊢
  obtain ⟨z,h,rfl⟩:=h
  exact ⟨z,back_more L2 h,rfl⟩
 | .bp n off,y,h => by
  simp only [AV.back] at h ⊢
  split at h
  ·rename_i hn
   rw [if_pos hn]
   simp only [Option.map_eq_some_iff] at h ⊢
   obtain ⟨m,hm,rfl⟩:=h
   exact ⟨m,by rw [List.getElem?_append_left (List.getElem?_eq_some_iff.1 hm).1]; exact hm,rfl⟩
  ·cases h
 | .gr n,y,h => by
  simp only [AV.back] at h ⊢
  split at h
  ·rename_i hn
   rw [if_pos hn]
   simp only [Option.map_eq_some_iff] at h ⊢
   obtain ⟨m,hm,rfl⟩:=h
   exact ⟨m,by rw [List.getElem?_append_left (List.getElem?_eq_some_iff.1 hm).1]; exact hm,rfl⟩
  ·cases h
 | .vw sz n off len cap,y,h => by
  simp only [AV.back] at h ⊢
  split at h
  ·rename_i hn
   rw [if_pos hn]
   simp only [Option.map_eq_some_iff] at h ⊢
   obtain ⟨m,hm,rfl⟩:=h
   exact ⟨m,by rw [List.getElem?_append_left (List.getElem?_eq_some_iff.1 hm).1]; exact hm,rfl⟩
  ·cases h
 | .agg cs,y,h => by
  simp only [AV.back,Option.map_eq_some_iff] at h ⊢
  obtain ⟨z,h,rfl⟩:=h
  exact ⟨z,backL_more L2 h,rfl⟩
 | .tup cs,y,h => by
  simp only [AV.back,Option.map_eq_some_iff] at h ⊢
  obtain ⟨z,h,rfl⟩:=h
  exact ⟨z,backL_more L2 h,rfl⟩
 | .fn f cs,y,h => by
  simp only [AV.back,Option.map_eq_some_iff] at h ⊢
  obtain ⟨z,h,rfl⟩:=h
  exact ⟨z,backL_more L2 h,rfl⟩
theorem backL_more {L:List Nat} (L2:List Nat):∀ {xs ys:List AV},AV.backL L xs = some ys → AV.backL (L ++ L2) xs = some ys
 | [],ys,h => h
 | x :: xs,ys,h => by
  simp only [AV.backL] at h ⊢
  split at h
  ·rename_i u us h1 h2
   simp only [back_more L2 h1,backL_more L2 h2]
   exact h
  ·cases h
end
theorem Ob.back_more {L:List Nat} (L2:List Nat) {o o':Ob} (h:o.back L = some o'):o.back (L ++ L2) = some o':=by
 cases o <;> simp only [Ob.back,Option.map_eq_some_iff,Option.some.injEq] at h ⊢
 ·exact h
 ·obtain ⟨z,h,rfl⟩:=h; exact ⟨z,backL_more L2 h,rfl⟩
 ·exact h
 ·obtain ⟨z,h,rfl⟩:=h; exact ⟨z,backL_more L2 h,rfl⟩
 ·exact h
 ·exact h
theorem obsBack_more {L:List Nat} (L2:List Nat):∀ {l os:List Ob},obsBack L l = some os → obsBack (L ++ L2) l = some os
 | [],os,h => h
 | o :: l,os,h => by
  simp only [obsBack] at h ⊢
  split at h
  ·rename_i u us h1 h2
   simp only [Ob.back_more L2 h1,obsBack_more L2 h2]
   exact h
  ·cases h
theorem obsBack_app {L:List Nat}:∀ {a b x y:List Ob},obsBack L a = some x → obsBack L b = some y → obsBack L (a ++ b) = some (x ++ y)
 | [],b,x,y,h1,h2 => by simp only [obsBack,Option.some.injEq] at h1; subst h1; simpa using h2
 | o :: a,b,x,y,h1,h2 => by
  simp only [obsBack] at h1
  split at h1
  ·rename_i u us e1 e2
   simp only [Option.some.injEq] at h1
   subst h1
   simp only [List.cons_append,obsBack,e1,obsBack_app e2 h2]
  ·cases h1
theorem WV_rngC {C : Ctx} {σ : St} {Q : Exit → St → Prop} (hC : C.Ok) {g : X} {ps : List Nat} {assign body : VC} {fid : FuncId} {caps caps' : List AV} {L L2 : List Nat} {l l2 : List Ob} {env' : Nat → AV} {rem : List Ent} {Fin : Option Exit → List Ob → Prop}
    (hgd : (σ.val g).dg = true) (hgf : (σ.val g).dv = .fn fid caps) (hcp : AV.lendL 1001 L2 σ.own caps = some caps') (hLn : (L ++ L2).Nodup) (hl2 : l2.length = L2.length) (hL2 : L2.length ≤ 500) (h2o : ∀ (i n : Nat), L2[i]? = some n → l2[i]? = some (σ.own n)) (h2b : ∀ o ∈ l2, ∃ cs, o = .box cs ∧ AV.pureL cs = true) (hLl : L.length ≤ 1000) (hl : obsLend L σ.own L = some l) (hN : C.N ≤ 1000) (henv : LendE L σ.own σ.env env')
    (hspec : ∀ g : Gst, ∃ Post, FSpecL C.P fid (.c (.raw g.fv) :: caps') (.guest g rem :: l2) [] Post ∧ ∀ r l', Post r l' → ∃ l2', l' = .guest g [] :: l2')
    (hrun : RunR C.P C.N ps assign body env' Fin rem l)
    (hK : ∀ pend lf, Fin pend lf → ∃ os, obsBack L lf = some os ∧ lf.length = L.length ∧ Q (exitOf pend) ⟨σ.env, ownBack (fun n => if n ∈ L2 then .none else σ.own n) L os⟩) : WV C (.rng g ps assign body) Q σ := by
  have hL : L.Nodup := (List.nodup_append.1 hLn).1
  have hd2 : ∀ n ∈ L, ∀ m ∈ L2, n ≠ m := (List.nodup_append.1 hLn).2.2
  intro c hc
  cases c
  case rangeFunc g' pars ca cb =>
    simp only [comp] at hc
    split at hc
    case isFalse => cases hc
    rename_i hall
    simp only [Option.bind_eq_bind, Option.bind_eq_some_iff, Option.some.injEq, VC.rng.injEq] at hc
    obtain ⟨g'', hcg, assign', hca, body', hcb, rfl, rfl, rfl, rfl⟩ := hc
    rintro a w ⟨loc, hg⟩
    refine wpIn_rangeFunc fun fn _ => ?_
    obtain ⟨lp, mark, w1, D, hent, hrec, hlp, hlpF, hg1⟩ := enter_G hg hC fn pars ca cb
    obtain ⟨a', ha'⟩ : ∃ a' : Act, a' = { a with defers := mark ++ a.defers } := ⟨_, rfl⟩
    have hat : a'.tmps = a.tmps := by rw [ha']
    rw [← ha'] at hg1
    have hev : ∀ o, a'.eval o = a.eval o := fun o => by rw [ha']; cases o <;> rfl
    have hlp1 : lp < w1.heap.size := (Array.getElem?_eq_some_iff.1 hrec).1
    have hrg := vald hg1 hcg hgd
    rw [hgf, hev] at hrg
    simp only [RepA] at hrg
    obtain ⟨lb, hgv, hrb⟩ := hrg
    have hcl : callable C.P fid := by
      obtain ⟨Post, h, _⟩ := hspec ⟨undef, fun _ _ _ _ => False⟩
      exact h.1
    refine ⟨lp, mark, w1, { target := .fn (.func fid) lb.toArray, args := #[.func (.yield lp) #[] #[]] }, w1, fid, #[.func (.yield lp) #[] #[]] ++ lb.toArray, w1, hent, ?_, fun f' hf' => ?_, ?_, fun h => (by rw [C.F_depth] at h; cases h), ?_⟩
    · simp only [resolve, hgv]
      simp [go_sem]
    · exact C.F_fn f'
    · obtain ⟨fn', hfn', hbody', hname'⟩ := hcl
      obtain ⟨bd, hbn⟩ := Option.isSome_iff_exists.1 hbody'
      simp [invoke, callFunc, hfn', hname', hbn]
    · rw [← ha']
      refine callsIn_C C ?_
      obtain ⟨e1, e2, e3⟩ := obsLend_get hl
      have hlen : l.length ≤ 1000 := by omega
      have hsol : l.all (Ob.solid l.length) = true := by cases rem <;> exact hrun.1
      obtain ⟨s1, s2, s3, s4, s5, s6⟩ := lent_start hg1 hL hlen hl
      obtain ⟨rc, hrc⟩ : ∃ rc : Loop, rc = { state := .ready, pending := none, fn, tmps := a.tmps, params := pars, assign := ca, body := cb, defers := D } := ⟨_, rfl⟩
      obtain ⟨R, hR⟩ : ∃ R : RC, R = ⟨C.P, C.N, C.m, pars.toList, assign', body', env', Fin, lp, rc, locL 1000 loc L⟩ := ⟨_, rfl⟩
      have hRok : R.Ok := by
        rw [hR, hrc]
        exact ⟨hca, hcb, rfl, by have := hg1.size; rw [hat] at this; exact this, fun p hp => by have := List.all_eq_true.1 hall p hp; simpa using this, hN⟩
      have hundef : Value.oneCell' undef = false := rfl
      have hloc1 : ∀ n, (locL 1000 loc L n).oneCell' = true → (ownL 1000 l n).isPlace = true ∧ n < 2000 := by
        intro n hn
        unfold locL at hn
        split at hn
        · rename_i hge
          cases hm : L[n - 1000]? with
          | none => rw [hm, hundef] at hn; cases hn
          | some m =>
            rw [hm] at hn
            simp only at hn
            obtain ⟨ob, ho, hlo⟩ := e2 _ _ hm
            have hlt := (List.getElem?_eq_some_iff.1 hm).1
            have := ownL_at ho
            rw [show 1000 + (n - 1000) = n from by omega] at this
            rw [this]
            refine ⟨?_, by omega⟩
            have hob := hg1.objs m
            cases hx : σ.own m <;> rw [hx] at hlo hob <;> simp only [Ob.lend, Option.map_eq_some_iff, Option.some.injEq, reduceCtorEq] at hlo
            · obtain ⟨cs, _, rfl⟩ := hlo; rfl
            · subst hlo; have := List.all_eq_true.1 hsol _ (List.mem_of_getElem? ho); cases this
            · obtain ⟨_, Lg, h0, _⟩ := hob
              rw [h0] at hn
              cases hn
            · subst hlo; rfl
        · rw [hundef] at hn; cases hn
      have hout : ∀ n, n < 1000 ∨ 1000 + l.length ≤ n → locL 1000 loc L n = undef := by
        intro n hn
        unfold locL
        split
        · rw [List.getElem?_eq_none (by omega)]
        · rfl
      have hfl : ∀ b, Foot (ownL 1000 l) (locL 1000 loc L) b ↔ FootL σ.own loc L b := by
        intro b
        refine ⟨s5 b, ?_⟩
        rintro ⟨m, hm, hb⟩
        obtain ⟨i, hi⟩ := List.mem_iff_getElem?.1 hm
        obtain ⟨ob, ho, hlo⟩ := e2 i m hi
        exact ⟨1000 + i, by rw [ownL_at ho, locL_at hi, Ob.lend_has hlo]; exact hb⟩
      have hobj : ∀ n, ObOk C.P (fun _ => True) w1 (MM C σ.own loc) (locL 1000 loc L) (locL 1000 loc L n) (ownL 1000 l n) := by
        intro n
        rcases ownL_cases l n with ⟨i, ob, rfl, ho, hw⟩ | hw
        · obtain ⟨m, hm, hlo⟩ := e3 i ob ho
          rw [hw, locL_at hm]
          exact (ObOk.lend hg1 hlo).1
        · rw [hw]; trivial
      have hsol0 : l.all (Ob.solid l.length) = true := by cases rem <;> exact hrun.1
      have hJ : RoundJ R rem (lp :: obsBlocks l (locL 1000 loc L)) (MM C σ.own loc) w1 := by
        rw [hR]
        refine ⟨l, locL 1000 loc L, .inl ⟨hrun, ?_⟩, hlen, hout, hobj, fun n m b hnm hn hm => ?_, fun t => ?_, fun b hb => List.mem_cons_of_mem _ (obsBlocks_iff.2 hb), fun n hn => ⟨(hloc1 n hn).1, rfl⟩, List.mem_cons_self, fun h => hlpF ?_⟩
        · rw [hrec]; simp [RC.recO, hrc]
        · have hs : ∀ n, (ownL 1000 l n).has (locL 1000 loc L n) b → n < 2000 := by
            intro n h
            rcases Nat.lt_or_ge n 2000 with h' | h'
            · exact h'
            · rw [ownL_out (by omega)] at h; exact (Ob.has_none _ _ h).elim
          exact s3.disj n m b hnm (by rw [ownW_small (hs n hn)]; exact hn) (by rw [ownW_small (hs m hm)]; exact hm)
        · simp only [hrc]
          have hs := hg1.slots t
          rw [hat] at hs
          rcases henv t with h | h
          · rw [h]; simp only [RepA]
          · exact lend_rep hg1 hs h
        · obtain ⟨m, _, hb⟩ := (hfl _).1 h
          exact ⟨m, hb⟩
      obtain ⟨gs, hgd⟩ : ∃ gs, gs = roundG R := ⟨_, rfl⟩
      have hgok : gs.Ok C.P := by have := roundG_ok hRok; rw [hgd]; rw [hR] at this ⊢; exact this
      have hgfv : gs.fv = .func (.yield lp) #[] #[] := by rw [hgd, hR]; rfl
      have hgJ : gs.J = RoundJ R := by rw [hgd]; rfl
      obtain ⟨Lg, hLg⟩ : ∃ Lg, Lg = lp :: obsBlocks l (locL 1000 loc L) := ⟨_, rfl⟩
      have hLgf : ∀ b, b ∈ Lg ↔ b = lp ∨ FootL σ.own loc L b := fun b => by rw [hLg, List.mem_cons, obsBlocks_iff, hfl b]
      obtain ⟨lh, hlh⟩ : ∃ lh : Nat → Value, lh = fun n => if n = 1000 then encV Lg else locL 1001 loc L2 n := ⟨_, rfl⟩
      have hlh1 : lh 1000 = encV Lg := by rw [hlh]; rfl
      have hlh2 : ∀ i m, L2[i]? = some m → lh (1001 + i) = loc m := fun i m h => by
        rw [hlh]
        simp only
        rw [if_neg (by omega)]
        exact locL_at h
      have how : ∀ (rm : List Ent) (lx : List Ob), lx.length ≤ 500 → ∀ (n : Nat), ownW (.guest gs rm :: lx) [] n = if n = 1000 then .guest gs rm else ownL 1001 lx n := by
        intro rm lx hlx n
        unfold ownW ownL
        by_cases h1 : 2000 ≤ n
        · rw [if_pos h1, if_neg (by omega), if_pos (by omega), List.getD_eq_getElem?_getD, List.getElem?_eq_none (l := lx) (i := n - 1001) (by omega)]; simp
        · rw [if_neg h1]
          by_cases h2 : 1000 ≤ n
          · rw [if_pos h2]
            by_cases h3 : n = 1000
            · subst h3; simp
            · rw [if_neg h3, if_pos (by omega)]
              obtain ⟨k, rfl⟩ : ∃ k, n = 1001 + k := ⟨n - 1001, by omega⟩
              rw [show 1001 + k - 1000 = k + 1 from by omega, show 1001 + k - 1001 = k from by omega]; rfl
          · rw [if_neg h2, if_neg (by omega), if_neg (by omega)]
      have hol : ∀ (rm : List Ent) (lx : List Ob), lx.length ≤ 500 → ∀ (n : Nat), ownL 1000 (.guest gs rm :: lx) n = if n = 1000 then .guest gs rm else ownL 1001 lx n := by
        intro rm lx hlx n
        by_cases hn : n < 2000
        · rw [← ownW_small (wl := []) hn]; exact how rm lx hlx n
        · rw [ownL_out (.inr (by simp; omega)), if_neg (by omega)]
          unfold ownL
          rw [if_pos (by omega), List.getD_eq_getElem?_getD, List.getElem?_eq_none (by omega)]; rfl
      have hl2at : ∀ (lx : List Ob) (n : Nat), ownL 1001 lx n = .none ∨ ∃ i o, n = 1001 + i ∧ lx[i]? = some o ∧ ownL 1001 lx n = o := by
        intro lx n
        unfold ownL
        split
        · rename_i h
          by_cases hi : n - 1001 < lx.length
          · exact .inr ⟨n - 1001, lx[n - 1001], by omega, List.getElem?_eq_getElem hi, by rw [List.getD_eq_getElem?_getD, List.getElem?_eq_getElem hi]; rfl⟩
          · left; rw [List.getD_eq_getElem?_getD, List.getElem?_eq_none (by omega)]; rfl
        · exact .inl rfl
      have h2i : ∀ (i : Nat) (o : Ob), l2[i]? = some o → ∃ m, L2[i]? = some m ∧ σ.own m = o := by
        intro i o hi
        have hlt := (List.getElem?_eq_some_iff.1 hi).1
        have h1 : L2[i]? = some (L2[i]'(by omega)) := List.getElem?_eq_getElem _
        have := h2o i _ h1
        rw [hi] at this
        exact ⟨_, h1, by simpa using this.symm⟩
      have hf2 : ∀ b, Foot (ownL 1001 l2) lh b → FootL σ.own loc L2 b := by
        rintro b ⟨n, h⟩
        rcases hl2at l2 n with h0 | ⟨i, o, rfl, hi, h0⟩
        · rw [h0] at h; exact (Ob.has_none _ _ h).elim
        · obtain ⟨m, hm, hom⟩ := h2i i o hi
          rw [h0, hlh2 i m hm] at h
          exact ⟨m, List.mem_of_getElem? hm, by rw [hom]; exact h⟩
      have hl25 : l2.length ≤ 500 := by omega
      have hfl2 : ∀ b, FootL σ.own loc (L ++ L2) b ↔ FootL σ.own loc L b ∨ FootL σ.own loc L2 b := by
        intro b
        constructor
        · rintro ⟨n, hn, h⟩
          rcases List.mem_append.1 hn with hn | hn
          · exact .inl ⟨n, hn, h⟩
          · exact .inr ⟨n, hn, h⟩
        · rintro (⟨n, hn, h⟩ | ⟨n, hn, h⟩)
          · exact ⟨n, List.mem_append_left _ hn, h⟩
          · exact ⟨n, List.mem_append_right _ hn, h⟩
      have hfootg : ∀ (rm : List Ent) (lq : List Ob), lq.length ≤ 500 → ∀ (lx : Nat → Value) (b : Nat), Foot (ownW (.guest gs rm :: lq) []) lx b ↔ footV (lx 1000) b ∨ Foot (ownL 1001 lq) lx b := by
        intro rm lq hlq lx b
        constructor
        · rintro ⟨n, h⟩
          rw [how rm lq hlq] at h
          by_cases hn : n = 1000
          · subst hn; rw [if_pos rfl] at h; exact .inl h
          · rw [if_neg hn] at h; exact .inr ⟨n, h⟩
        · rintro (h | ⟨n, h⟩)
          · exact ⟨1000, by rw [how rm lq hlq, if_pos rfl]; exact h⟩
          · refine ⟨n, ?_⟩
            rw [how rm lq hlq]
            by_cases hn : n = 1000
            · subst hn
              rcases hl2at lq 1000 with h0 | ⟨i, o, e, _⟩
              · rw [h0] at h; exact (Ob.has_none _ _ h).elim
              · omega
            · rw [if_neg hn]; exact h
      have hfootl : ∀ (rm : List Ent) (lq : List Ob), lq.length ≤ 500 → ∀ (lx : Nat → Value) (b : Nat), Foot (ownL 1000 (.guest gs rm :: lq)) lx b → footV (lx 1000) b ∨ Foot (ownL 1001 lq) lx b := by
        rintro rm lq hlq lx b ⟨n, h⟩
        rw [hol rm lq hlq] at h
        by_cases hn : n = 1000
        · subst hn; rw [if_pos rfl] at h; exact .inl h
        · rw [if_neg hn] at h; exact .inr ⟨n, h⟩
      have hbar : ∀ b, FootL σ.own loc L b → ∀ k, MM C σ.own loc b k := by
        intro b hb k
        obtain ⟨n, hn⟩ := (hfl b).2 hb
        rcases ownL_cases l n with ⟨i, ob, rfl, ho, hw⟩ | hw
        · obtain ⟨m, hm, hlo⟩ := e3 i ob ho
          rw [hw] at hn
          have := solid_mut (List.all_eq_true.1 hsol0 ob (List.mem_of_getElem? ho)) hn k
          rw [locL_at hm, Ob.lend_mut hlo] at this
          exact .inr ⟨m, this⟩
        · rw [hw] at hn; exact (Ob.has_none _ _ hn).elim
      have hMMlp : ∀ k, ¬ MM C σ.own loc lp k := by
        rintro k (h | ⟨m, h⟩)
        · have h1 := (hg.m0 _ _ h).1
          have h2 := hg.fr.size
          omega
        · exact hlpF ⟨m, Ob.has_of_mut h⟩
      have hsubg : ∀ b k, b ≠ lp → AddM (McL C σ loc (L ++ L2)) (ownW (.guest gs rem :: l2) []) lh b k → MM C σ.own loc b k := by
        rintro b k hbl (h | h)
        · exact h.1
        · obtain ⟨n, h⟩ := h
          rw [how rem l2 hl25] at h
          by_cases hn : n = 1000
          · subst hn
            rw [if_pos rfl, hlh1] at h
            have h' : footV (encV Lg) b := h
            rw [footV_encV, hLgf] at h'
            exact hbar b (h'.resolve_left hbl) k
          · rw [if_neg hn] at h
            rcases hl2at l2 n with h0 | ⟨i, o, rfl, hi, h0⟩
            · rw [h0] at h; exact (Ob.has_none _ _ (Ob.has_of_mut h)).elim
            · obtain ⟨m, hm, hom⟩ := h2i i o hi
              rw [h0, hlh2 i m hm] at h
              exact .inr ⟨m, by rw [hom]; exact h⟩
      have hless : Keeps w1 w1 (MM C σ.own loc) (AddM (McL C σ loc (L ++ L2)) (ownW (.guest gs rem :: l2) []) lh) := ⟨fun _ _ _ => rfl, fun p hp hm h => hm (hsubg _ _ (cell_loop hrec hp) h)⟩
      have hgl : ∀ b, b ∈ Lg → FootL σ.own loc L2 b → False := by
        rintro b hb ⟨m, hm, hbm⟩
        rcases (hLgf b).1 hb with rfl | ⟨n, hn, hbn⟩
        · exact hlpF ⟨m, hbm⟩
        · exact hg1.disj n m b (hd2 n hn m hm) hbn hbm
      obtain ⟨Post, hsp, hPost⟩ := hspec gs
      have hspec1 := hsp.2.2 w1 (McL C σ loc (L ++ L2)) lh (.func (.yield lp) #[] #[] :: lb)
        (fun b k hm => ⟨MM_lt hg1 b k hm.1, fun h => by
          rw [hfootg rem l2 hl25, hlh1, footV_encV, hLgf] at h
          rcases h with (rfl | h) | h
          · exact hMMlp k hm.1
          · exact hm.2 ((hfl2 b).2 (.inl h))
          · exact hm.2 ((hfl2 b).2 (.inr (hf2 b h)))⟩)
        ⟨fun n => by
          rw [how rem l2 hl25]
          by_cases hn : n = 1000
          · subst hn
            rw [if_pos rfl, hlh1]
            refine ⟨hgok, Lg, rfl, hgok.keep (by rw [hgJ, hLg]; exact hJ) hless (fun _ _ => rfl) (Nat.le_refl _), fun b hb => ⟨?_, trivial⟩⟩
            rcases (hLgf b).1 hb with rfl | ⟨m, hm, hb'⟩
            · exact hlp1
            · exact (hg1.objs m).lt hb'
          · rw [if_neg hn]
            rcases hl2at l2 n with h0 | ⟨i, o, rfl, hi, h0⟩
            · rw [h0]; trivial
            · obtain ⟨m, hm, hom⟩ := h2i i o hi
              obtain ⟨cs, rfl, hpu⟩ := h2b o (List.mem_of_getElem? hi)
              rw [h0, hlh2 i m hm]
              have hob := hg1.objs m
              rw [hom] at hob
              obtain ⟨b, lv, e, q1, _, q3, q4⟩ := hob
              exact ⟨b, lv, e, q1, trivial, q3, RepAs.keep hless _ _ (pures_loc hpu q4)⟩,
         fun n m b hnm hn hm => by
          have key : ∀ n, (ownW (.guest gs rem :: l2) [] n).has (lh n) b → (n = 1000 ∧ b ∈ Lg) ∨ ∃ i m, n = 1001 + i ∧ L2[i]? = some m ∧ (σ.own m).has (loc m) b := by
            intro n h
            rw [how rem l2 hl25] at h
            by_cases hn : n = 1000
            · subst hn
              rw [if_pos rfl, hlh1] at h
              exact .inl ⟨rfl, (footV_encV Lg b).1 h⟩
            · rw [if_neg hn] at h
              rcases hl2at l2 n with h0 | ⟨i, o, rfl, hi, h0⟩
              · rw [h0] at h; exact (Ob.has_none _ _ h).elim
              · obtain ⟨m, hm, hom⟩ := h2i i o hi
                rw [h0, hlh2 i m hm] at h
                exact .inr ⟨i, m, rfl, hm, by rw [hom]; exact h⟩
          rcases key n hn with ⟨h1, h1'⟩ | ⟨i, p, h1, h2, h3⟩ <;> rcases key m hm with ⟨k1, k1'⟩ | ⟨j, q, k1, k2, k3⟩
          · exact hnm (h1.trans k1.symm)
          · exact hgl b h1' ⟨q, List.mem_of_getElem? k2, k3⟩
          · exact hgl b k1' ⟨p, List.mem_of_getElem? h2, h3⟩
          · refine hg1.disj p q b (fun e => hnm ?_) h3 k3
            subst e
            have hn2 : L2.Nodup := (List.nodup_append.1 hLn).2.1
            rw [h1, k1, nodup_idx hn2 h2 k2]⟩
        (by
          refine RepAs.keep hless _ _ ?_
          simp only [RepAs]
          refine ⟨_, lb, rfl, by simp only [RepA, RepC]; exact ⟨hgfv.symm, by rw [hgfv]; rfl⟩, (lends_rep hg1 hrb hcp).reloc fun n hn => ?_⟩
          rw [hlh]
          simp only
          split
          · rename_i h; subst h
            have : locL 1001 loc L2 1000 = undef := rfl
            rw [this, hundef] at hn; cases hn
          · rfl)
      have e0 : #[Value.func (.yield lp) #[] #[]] ++ lb.toArray = (Value.func (.yield lp) #[] #[] :: lb).toArray := by apply Array.ext'; simp
      rw [e0]
      refine hspec1.mono fun e w2 h => ?_
      obtain ⟨v, r', l', loc', rfl, hpo, hll, fx, kp, ok, has, plc, hr⟩ := h
      obtain ⟨l2', hl'e⟩ := hPost r' l' hpo
      subst hl'e
      have hl25' : l2'.length ≤ 500 := by simp at hll; omega
      have hob := ok.objs 1000
      rw [how [] l2' hl25', if_pos rfl] at hob
      obtain ⟨_, Lq, hq, hJ', hLq⟩ := hob
      rw [hgJ, hR] at hJ'
      obtain ⟨lf, lx, k1, k2, k3, k4, k5, k6, k7, k8, k9, k10⟩ := hJ'
      obtain ⟨pend, r2, hfin, hr2, hst, hpend⟩ : ∃ (pend : Option Exit) (r2 : Loop), Fin pend lf ∧ w2.heap[lp]? = some (.loop r2) ∧ r2.state ≠ .busy ∧ ((pend = none ∧ r2.pending = none) ∨ ∃ x, pend = some x ∧ r2.pending = some (jumpC x) ∧ (x = .ret ∨ ∃ id, x = .exit id)) := by
        rcases k1 with ⟨⟨_, h1⟩, h2⟩ | ⟨_, _, x, hx, h1, h2⟩
        · exact ⟨none, _, h1, h2, by simp, .inl ⟨rfl, rfl⟩⟩
        · exact ⟨some x, _, h1, h2, by simp, .inr ⟨x, rfl, rfl, hx⟩⟩
      have hlp2 : lp < w2.heap.size := (Array.getElem?_eq_some_iff.1 hr2).1
      obtain ⟨os, hbk, hlfl, hk'⟩ := hK pend lf hfin
      refine ⟨_, _, run_endLoop hr2 hst, ?_⟩
      obtain ⟨rX, hrX⟩ : ∃ rX : Loop, rX = { r2 with state := .exhausted } := ⟨_, rfl⟩
      rw [← hrX]
      obtain ⟨w3, hw3⟩ : ∃ w3, w3 = w2.putObj lp (.loop rX) := ⟨_, rfl⟩
      rw [← hw3]
      have hg1' := hg1.tickOwn hrec (Nat.le_trans hg.fr.size hlp) hlpF rX
      obtain ⟨w1', hw1'⟩ : ∃ w1', w1' = w1.putObj lp (.loop rX) := ⟨_, rfl⟩
      rw [← hw1'] at hg1'
      have ho1 : ∀ k, k ≠ lp → w1'.heap[k]? = w1.heap[k]? := fun k hk => by rw [hw1']; exact World.putObj_heap_other hk
      have ho3 : ∀ k, k ≠ lp → w3.heap[k]? = w2.heap[k]? := fun k hk => by rw [hw3]; exact World.putObj_heap_other hk
      have hl1 : w1'.heap[lp]? = some (.loop rX) := by rw [hw1']; exact World.putObj_heap_same hlp1
      have hl3 : w3.heap[lp]? = some (.loop rX) := by rw [hw3]; exact World.putObj_heap_same hlp2
      have hsz1 : w1'.heap.size = w1.heap.size := by rw [hw1']; simp
      have hsz3 : w3.heap.size = w2.heap.size := by rw [hw3]; simp
      have hk23 : ∀ M', Keeps w2 w3 M' M' := fun M' => ⟨fun p hp _ => World.cell?_of_block (ho3 _ (cell_loop hr2 hp)), fun p _ h => h⟩
      have hfx : Fx w1' w3 (FootL σ.own loc (L ++ L2)) := ⟨by rw [hw3, hw1']; exact fx.os, by rw [hw3, hw1']; exact fx.tape, by rw [hw3, hw1']; exact fx.output, by rw [hsz1, hsz3]; exact fx.size, fun k hk hn => by
        by_cases hkl : k = lp
        · subst hkl; rw [hl1, hl3]
        · rw [ho3 k hkl, ho1 k hkl]
          refine fx.block k (by omega) fun h => ?_
          rcases hfootl rem l2 hl25 lh k h with h | h
          · rw [hlh1, footV_encV, hLgf] at h
            exact hn ((hfl2 k).2 (.inl (h.resolve_left hkl)))
          · exact hn ((hfl2 k).2 (.inr (hf2 k h)))⟩
      have hqin : ∀ b, b ∈ Lq → b = lp ∨ FootL σ.own loc (L ++ L2) b ∨ w1.heap.size ≤ b := by
        intro b hb
        rcases has 1000 b (by rw [hol [] l2' hl25', if_pos rfl, hq]; simp only [Ob.has, footV_encV]; exact hb) with h | h
        · rcases hfootl rem l2 hl25 lh b h with h | h
          · rw [hlh1, footV_encV, hLgf] at h
            exact h.imp id fun h => .inl ((hfl2 b).2 (.inl h))
          · exact .inr (.inl ((hfl2 b).2 (.inr (hf2 b h))))
        · exact .inr (.inr h)
      have hcell : ∀ p : Addr, (w1'.cell? p).isSome = true → p.block ≠ lp ∧ w1'.cell? p = w1.cell? p := fun p hp => ⟨cell_loop hl1 hp, World.cell?_of_block (ho1 _ (cell_loop hl1 hp))⟩
      obtain ⟨lx2, hlx2⟩ : ∃ lx2 : Nat → Value, lx2 = fun n => if 1000 + L.length ≤ n then locL 1000 loc (L ++ L2) n else lx n := ⟨_, rfl⟩
      have hx1 : ∀ n, n < 1000 + L.length → lx2 n = lx n := fun n hn => by rw [hlx2]; simp only; rw [if_neg (by omega)]
      have hx2 : ∀ n, 1000 + L.length ≤ n → lx2 n = locL 1000 loc (L ++ L2) n := fun n hn => by rw [hlx2]; simp only; rw [if_pos hn]
      have hxr : ∀ n, (lx n).oneCell' = true → lx2 n = lx n := fun n hn => by
        by_cases h : n < 1000 + L.length
        · exact hx1 n h
        · rw [k3 n (.inr (by omega)), hundef] at hn; cases hn
      obtain ⟨NN, hNN⟩ : ∃ NN : List Ob, NN = List.replicate L2.length .none := ⟨_, rfl⟩
      have hNl : NN.length = L2.length := by rw [hNN]; simp
      have hNm : ∀ o ∈ NN, o = .none := fun o ho => by rw [hNN] at ho; exact (List.mem_replicate.1 ho).2
      have hlast : ∀ (i : Nat) (ob : Ob), (lf ++ NN)[i]? = some ob → (i < L.length ∧ lf[i]? = some ob) ∨ (L.length ≤ i ∧ ob = .none) := by
        intro i ob hi
        by_cases h : i < lf.length
        · rw [List.getElem?_append_left h] at hi
          exact .inl ⟨by omega, hi⟩
        · rw [List.getElem?_append_right (by omega)] at hi
          exact .inr ⟨by omega, hNm _ (List.mem_of_getElem? hi)⟩
      have hbk2 : obsBack (L ++ L2) (lf ++ NN) = some (os ++ NN) := by
        have hN : ∀ k : Nat, obsBack (L ++ L2) (List.replicate k .none) = some (List.replicate k .none) := by
          intro k; induction k with
          | zero => rfl
          | succ k ih => simp only [List.replicate_succ, obsBack, Ob.back, ih]
        have := obsBack_app (obsBack_more L2 hbk) (hN L2.length)
        rw [hNN]; exact this
      obtain ⟨loc'', hg', _⟩ := hg1'.lent (w' := w3) (M' := AddM (McL C σ loc (L ++ L2)) (ownW (.guest gs [] :: l2') []) loc') (l' := lf ++ NN) (loc' := lx2) hLn (by simp [hlfl, hNl])
        (fun n hn b hb => by
          rcases List.mem_append.1 hn with hn | hn
          · exact s4 n hn b hb
          · obtain ⟨i, hi⟩ := List.mem_iff_getElem?.1 hn
            have h1 := h2o i n hi
            obtain ⟨cs, h2, _⟩ := h2b _ (List.mem_of_getElem? h1)
            have hob := hg1.objs n
            rw [h2] at hob hb
            obtain ⟨b', _, _, e1, e2, _⟩ := hob
            rw [e1] at hb
            cases hb
            exact e2) hfx
        (fun p hp hm => by
          obtain ⟨hpl, hce⟩ := hcell p hp
          rw [hce] at hp
          have h1 := kp.cell p hp fun h => hm (hsubg _ _ hpl h)
          refine ⟨?_, kp.free p hp fun h => hm (hsubg _ _ hpl h)⟩
          rw [World.cell?_of_block (ho3 _ hpl), h1, hce])
        (by
          rintro b k (h | ⟨i, ob, hi, hb⟩)
          · exact .inl h
          · rcases hlast i ob hi with ⟨hlt, hi'⟩ | ⟨_, rfl⟩
            · rw [hx1 _ (by omega)] at hb
              refine .inr ⟨1000, ?_⟩
              rw [how [] l2' hl25', if_pos rfl, hq]
              simp only [Ob.mut, footV_encV]
              exact k7 b ⟨1000 + i, by rw [ownL_at hi']; exact Ob.has_of_mut hb⟩
            · exact (Ob.has_none _ _ (Ob.has_of_mut hb)).elim)
        (fun i ob hi => by
          rcases hlast i ob hi with ⟨hlt, hi'⟩ | ⟨_, rfl⟩
          · have := k4 (1000 + i)
            rw [ownL_at hi'] at this
            rw [hx1 _ (by omega)]
            exact (this.keep' (hk23 _) (by omega) (fun b hb => ho3 b (by rintro rfl; exact k10 ⟨1000 + i, by rw [ownL_at hi']; exact hb⟩))).reloc hxr
          · trivial)
        (fun i j o o' b hij hi hj hb hb' => by
          rcases hlast i o hi with ⟨hlt, hi'⟩ | ⟨_, rfl⟩
          · rcases hlast j o' hj with ⟨hlt2, hj'⟩ | ⟨_, rfl⟩
            · rw [hx1 _ (by omega)] at hb hb'
              exact k5 (1000 + i) (1000 + j) b (by omega) (by rw [ownL_at hi']; exact hb) (by rw [ownL_at hj']; exact hb')
            · exact Ob.has_none _ _ hb'
          · exact Ob.has_none _ _ hb)
        (fun i ob b hi hb => by
          rcases hlast i ob hi with ⟨hlt, hi'⟩ | ⟨_, rfl⟩
          · rw [hx1 _ (by omega)] at hb
            have hf : Foot (ownL 1000 lf) lx b := ⟨1000 + i, by rw [ownL_at hi']; exact hb⟩
            rcases hqin b (k7 b hf) with rfl | h | h
            · exact (k10 hf).elim
            · exact .inl h
            · exact .inr (by omega)
          · exact (Ob.has_none _ _ hb).elim)
        (fun i n hi hone => by
          by_cases hlt : i < L.length
          · rw [List.getElem?_append_left hlt] at hi
            rw [hx1 _ (by omega)]
            have := (k8 (1000 + i) (by show (locL 1000 loc L (1000 + i)).oneCell' = true; rw [locL_at hi]; exact hone)).2
            rw [this]; show locL 1000 loc L (1000 + i) = loc n; rw [locL_at hi]
          · rw [hx2 _ (by omega), locL_at hi]) hbk2
      have hown : ownBack σ.own (L ++ L2) (os ++ NN) = ownBack (fun n => if n ∈ L2 then .none else σ.own n) L os := by
        have hosl : os.length = L.length := by rw [obsBack_len hbk, hlfl]
        funext n
        by_cases h1 : n ∈ L
        · obtain ⟨i, hi⟩ := List.mem_iff_getElem?.1 h1
          have hlt := (List.getElem?_eq_some_iff.1 hi).1
          have ho : os[i]? = some (os[i]'(by omega)) := List.getElem?_eq_getElem _
          rw [ownBack_in hL hi ho, ownBack_in hLn (by rw [List.getElem?_append_left hlt]; exact hi) (by rw [List.getElem?_append_left (by omega)]; exact ho)]
        · rw [ownBack_out (own := fun n => if n ∈ L2 then .none else σ.own n) h1]
          by_cases h2 : n ∈ L2
          · rw [if_pos h2]
            obtain ⟨i, hi⟩ := List.mem_iff_getElem?.1 h2
            have hlt := (List.getElem?_eq_some_iff.1 hi).1
            have ho : NN[i]? = some (NN[i]'(by omega)) := List.getElem?_eq_getElem _
            have := hNm _ (List.mem_of_getElem? ho)
            rw [this] at ho
            exact ownBack_in hLn (i := L.length + i) (by rw [List.getElem?_append_right (by omega), Nat.add_sub_cancel_left]; exact hi) (by rw [List.getElem?_append_right (by omega), hosl, Nat.add_sub_cancel_left]; exact ho)
          · rw [if_neg h2]
            exact ownBack_out (by simp [h1, h2])
      rw [hown] at hg'
      rcases hpend with ⟨rfl, hp⟩ | ⟨x, rfl, hp, hx⟩
      · rw [hp]
        exact ⟨_, ⟨loc'', hg'⟩, hk'⟩
      · rw [hp]
        rcases hx with rfl | ⟨id, rfl⟩
        · exact wpIn_ret ⟨_, ⟨loc'', hg'⟩, hk'⟩
        · exact wpIn_exit ⟨_, ⟨loc'', hg'⟩, hk'⟩
  case region => rcases comp_region hc with ⟨_, h⟩ | ⟨_, h⟩ | h | ⟨_, h⟩ <;> cases h
  all_goals (simp [comp, Option.bind_eq_some_iff, Option.map_eq_some_iff] at hc)
end Go.V

/-
 Rows that a loop's rounds make,held together: as one object,whose rows and array are known by their addresses; and taken apart again.
-/
namespace Go.V
structure RB where
 b:Nat
 o:Nat
 l:List UInt8
 cap:Nat
def RB.val (r:RB):Value:=.slice (some ⟨r.b,r.o,none⟩) r.l.length r.cap
def RB.cd (r:RB):List CD:=[.raw r.val]
def holdJ (rows:List RB) (arr:Option Value) (rem:List Ent) (L:List Nat) (w:World):Prop :=
 rem = [] ∧ L.Nodup ∧ (∃ La,L = rows.map RB.b ++ La ∧ (match arr with | none => La = [] | some v => ∃ g cap rest ty,v = .slice (some ⟨g,0,none⟩) rows.length cap ∧ La = [g] ∧ AtC w g (rows.map RB.val ++ rest) ty ∧ rows.length ≤ cap ∧ cap ≤ maxLen ∧ cap ≤ rows.length + rest.length)) ∧
  ∀ r ∈ rows,∃ rest ty,AtC w r.b (r.l.map bval ++ rest) ty ∧ r.cap ≤ r.l.length + rest.length ∧ r.l.length ≤ r.cap ∧ r.cap ≤ maxLen ∧ (0 < r.cap → r.o = 0)
def gF (rows:List RB) (arr:Option Value):Gst:=⟨.bool false,fun rem L _ w => holdJ rows arr rem L w⟩
def hold (rows:List RB) (arr:Option Value):Ob:=.guest (gF rows arr) []
theorem gF_ok (P:Program) (rows:List RB) (arr:Option Value):(gF rows arr).Ok P:=by
 refine ⟨rfl,?_,?_⟩
 ·rintro rem L M w M' w' ⟨h1,h2,⟨La,h3,h4⟩,h5⟩ hk hb hs
  refine ⟨h1,h2,⟨La,h3,?_⟩,fun r hr => ?_⟩
  ·cases arr with
   | none => exact h4
   | some v =>
   obtain ⟨g,cap,rest,ty,k1,k2,k3,k4⟩:=h4
   exact ⟨g,cap,rest,ty,k1,k2,k3.trans (hb g (by rw [h3,k2]; simp)),k4⟩
  ·obtain ⟨rest,ty,k1,k2⟩:=h5 r hr
   exact ⟨rest,ty,k1.trans (hb r.b (by rw [h3]; exact List.mem_append_left _ (List.mem_map_of_mem hr))),k2⟩
 ·rintro args wins r rem L M w loc vs ⟨h1,_⟩
  cases h1
theorem encV_one (L:List Nat):(encV L).oneCell' = false:=rfl
section
variable {C:Ctx} {σ:St}
theorem G.reown {loc loc':Nat → Value} {a:Act} {w:World} {env':Nat → AV} {own':Nat → Ob} (hg:G C σ loc a w) (hp:∀ n,C.pin n → loc' n = loc n)
  (hs:∀ t,RepA w (MM C σ.own loc) loc' (env' t) (a.tmps.getD t undef)) (hm:∀ b o,Mut own' loc' b o → Mut σ.own loc b o) (hf:∀ b,Foot own' loc' b → Foot σ.own loc b)
  (ho:∀ n,ObOk C.P C.A w (MM C σ.own loc) loc' (loc' n) (own' n)) (hd:∀ n m b,n ≠ m → (own' n).has (loc' n) b → (own' m).has (loc' m) b → False):G C ⟨env',own'⟩ loc' a w:=by
 have hsub:∀ b o,MM C own' loc' b o → MM C σ.own loc b o:=fun b o h => h.elim .inl fun h => .inr (hm b o h)
 have hk:Keeps w w (MM C σ.own loc) (MM C own' loc'):=Keeps.less hsub
 refine ⟨hg.fr,hg.m0,hg.kp.trans hk,fun x hx => ?_,hg.mnd,fun n hn => ?_,hg.size,fun t => RepA.keep hk _ _ (hs t),fun n => ?_,hd⟩
 ·obtain ⟨D,e1,e2,e3,e4⟩:=hg.marks x hx
  exact ⟨D,e1,e2,e3,fun h => e4 (hf D h)⟩
 ·obtain ⟨p1,p2,p3⟩:=hg.pin n hn
  exact ⟨p1,(hp n hn).trans p2,p3⟩
 ·exact (ho n).keep' hk (Nat.le_refl _) (fun _ _ => rfl)
theorem Gam_hold0 {f:Nat} (hn:σ.own f = .none) (hp:¬ C.pin f):∀ a w,Gam C σ a w → Gam C ⟨prgE f σ.env,upd (prgO f σ.own) f (hold [] none)⟩ a w:=by
 rintro a w ⟨loc,hg⟩
 have h1:=hg.forget hn hp
 have hnone:prgO f σ.own f = .none:=by show (σ.own f).prg f = .none; rw [hn]; rfl
 have hl:∀ m,(upd loc f undef m).oneCell' = true → upd loc f (encV []) m = upd loc f undef m:=by
  intro m hm
  by_cases e:m = f
  ·subst e; simp [upd] at hm; cases hm
  ·simp [upd,e]
 have hfo:∀ m b,(upd (prgO f σ.own) f (hold [] none) m).has (upd loc f (encV []) m) b → (prgO f σ.own m).has (upd loc f undef m) b:=by
  intro m b h
  by_cases e':m = f
  ·subst e'
   simp only [upd,if_true,hold,Ob.has,footV_encV] at h
   cases h
  ·simp only [upd,e',if_false] at h ⊢
   exact h
 refine ⟨upd loc f (encV []),h1.reown (fun n hn' => ?_) (fun t => RepA.reloc hl (h1.slots t)) (fun b o hm => ?_) (fun b ⟨n,h⟩ => ⟨n,hfo n b h⟩) (fun n => ?_) (fun n m b hnm k1 k2 => h1.disj n m b hnm (hfo n b k1) (hfo m b k2))⟩
 ·have:n ≠ f:=fun e => hp (e ▸ hn')
  simp [upd,this]
 ·obtain ⟨n,h⟩:=hm
  by_cases e':n = f
  ·subst e'
   simp only [upd,if_true,hold,Ob.mut,footV_encV] at h
   cases h
  ·exact ⟨n,by simp only [upd,e',if_false] at h ⊢; exact h⟩
 ·by_cases e':n = f
  ·subst e'
   simp only [upd,if_true]
   exact ⟨gF_ok _ _ _,[],rfl,⟨rfl,List.nodup_nil,⟨[],rfl,rfl⟩,fun r hr => by cases hr⟩,fun b hb => by cases hb⟩
  ·have:=h1.objs n
   simp only [upd,e',if_false] at this ⊢
   exact ObOk.reloc (loc:=upd loc f undef) hl this
theorem bytes_cells {w:World} {M:Cells} {loc:Nat → Value} {j:Nat}:∀ {l:List UInt8} {lv:List Value},RepAs w M loc (cellsG bcd l j) lv → ∃ rest,lv = l.map bval ++ rest ∧ rest.length = j
 | [],lv,h => ⟨lv,rfl,by have:=h.length; simpa [cellsG,flatG] using this⟩
 | b :: l,lv,h => by
  have e:cellsG bcd (b :: l) j = .c (.int .u8 b.toNat) :: cellsG bcd l j:=by simp [cellsG,flatG,bcd]
  rw [e] at h
  simp only [RepAs,RepA,RepC] at h
  obtain ⟨v,vs,rfl,rfl,h2⟩:=h
  obtain ⟨rest,rfl,h3⟩:=bytes_cells h2
  exact ⟨rest,rfl,h3⟩
theorem hold_nopin {loc:Nat → Value} {a:Act} {w:World} {f:Nat} {L:List Nat} (hg:G C σ loc a w) (h:loc f = encV L):¬ C.pin f:=fun hp => by
 obtain ⟨_,h2,h3⟩:=hg.pin f hp
 rw [← h2,h] at h3
 cases h3
theorem Gam_absorb {f d t j:Nat} {rows:List RB} {l:List UInt8} {cap:Nat} (hfd:f ≠ d) (hof:σ.own f = hold rows none) (hod:σ.own d = .box (cellsG bcd l j)) (ht:σ.env t = .vw 1 d 0 l.length cap) (hcap:cap ≤ l.length + j) :
  ∀ a w,Gam C σ a w → ∃ b o,Gam C ⟨upd σ.env t (.c (.raw (RB.val ⟨b,o,l,cap⟩))),upd (upd σ.own d .none) f (hold (rows ++ [⟨b,o,l,cap⟩]) none)⟩ a w:=by
 rintro a w ⟨loc,hg⟩
 have h1:=hg.objs d
 rw [hod] at h1
 obtain ⟨b,lv,ty,k1,k2,k3,k4⟩:=h1
 have h2:=hg.objs f
 rw [hof] at h2
 obtain ⟨_,Lg,m1,⟨_,m2,⟨La,m3,m4⟩,m5⟩,m6⟩:=h2
 simp only at m4
 subst m4
 rw [List.append_nil] at m3
 have h3:=hg.slots t
 rw [ht] at h3
 simp only [RepA] at h3
 obtain ⟨b',o,q1,q2,q3,q4,q5⟩:=h3
 rw [k1] at q1
 simp only [Value.pointer.injEq,Option.some.injEq,Addr.mk.injEq,and_true] at q1
 subst q1
 have hbd:∀ x,(σ.own d).has (loc d) x ↔ b = x:=fun x => by rw [hod,k1]; exact Iff.rfl
 have hbf:∀ x,(σ.own f).has (loc f) x ↔ x ∈ Lg:=fun x => by rw [hof,m1]; simp only [hold,Ob.has,footV_encV]
 have hbL:b ∉ Lg:=fun h => hg.disj d f b (fun e => hfd e.symm) ((hbd b).2 rfl) ((hbf b).2 h)
 obtain ⟨rest,rfl,hrl⟩:=bytes_cells k4
 refine ⟨b,o,?_⟩
 obtain ⟨own',hown'⟩ : ∃ own',own' = upd (upd σ.own d .none) f (hold (rows ++ [⟨b,o,l,cap⟩]) none):=⟨_,rfl⟩
 rw [← hown']
 obtain ⟨L',hL'⟩ : ∃ L',L' = Lg ++ [b]:=⟨_,rfl⟩
 obtain ⟨loc',hloc'⟩ : ∃ loc',loc' = upd loc f (encV L'):=⟨_,rfl⟩
 have hf1:loc' f = encV L':=by rw [hloc']; simp [upd]
 have hf2:∀ n,n ≠ f → loc' n = loc n:=fun n hn => by rw [hloc']; simp [upd,hn]
 have ho1:own' f = hold (rows ++ [⟨b,o,l,cap⟩]) none:=by rw [hown']; simp [upd]
 have ho2:own' d = .none:=by rw [hown']; simp [upd,Ne.symm hfd]
 have ho3:∀ n,n ≠ f → n ≠ d → own' n = σ.own n:=fun n h1 h2 => by rw [hown']; simp [upd,h1,h2]
 have hl:∀ n,(loc n).oneCell' = true → loc' n = loc n:=fun n hn => by
  by_cases e:n = f
  ·subst e; rw [m1,encV_one] at hn; cases hn
  ·exact hf2 n e
 have hhas:∀ n x,(own' n).has (loc' n) x → (n ≠ d ∧ (σ.own n).has (loc n) x) ∨ (n = f ∧ x = b):=by
  intro n x h
  by_cases e:n = f
  ·subst e
   rw [ho1,hf1] at h
   simp only [hold,Ob.has,footV_encV,hL',List.mem_append,List.mem_singleton] at h
   rcases h with h | h
   ·exact .inl ⟨hfd,(hbf x).2 h⟩
   ·exact .inr ⟨rfl,h⟩
  ·by_cases e2:n = d
   ·subst e2; rw [ho2] at h; exact (Ob.has_none _ _ h).elim
   ·rw [ho3 n e e2,hf2 n e] at h
    exact .inl ⟨e2,h⟩
 refine ⟨loc',hg.reown (fun n hn => hf2 n fun e => hold_nopin hg m1 (e ▸ hn)) (fun s => ?_) (fun x y hm => ?_) (fun x ⟨n,h⟩ => ?_) (fun n => ?_) (fun n m x hnm h1 h2 => ?_)⟩
 ·by_cases e:s = t
  ·subst e
   simp only [upd,if_true,RepA,RepC]
   exact ⟨q2,rfl⟩
  ·simp only [upd,e,if_false]
   exact RepA.reloc hl (hg.slots s)
 ·obtain ⟨n,h⟩:=hm
  by_cases e:n = f
  ·subst e
   rw [ho1,hf1] at h
   simp only [hold,Ob.mut,footV_encV,hL',List.mem_append,List.mem_singleton] at h
   rcases h with h | rfl
   ·exact ⟨n,by rw [hof,m1]; simp only [hold,Ob.mut,footV_encV]; exact h⟩
   ·exact ⟨d,by rw [hod,k1]; rfl⟩
  ·by_cases e2:n = d
   ·subst e2; rw [ho2] at h; exact (Ob.has_none _ _ (Ob.has_of_mut h)).elim
   ·rw [ho3 n e e2,hf2 n e] at h
    exact ⟨n,h⟩
 ·rcases hhas n x h with ⟨_,h'⟩ | ⟨_,rfl⟩
  ·exact ⟨n,h'⟩
  ·exact ⟨d,(hbd _).2 rfl⟩
 ·by_cases e:n = f
  ·subst e
   rw [ho1,hf1]
   refine ⟨gF_ok _ _ _,L',rfl,⟨rfl,?_,⟨[],by rw [hL',m3]; simp,rfl⟩,fun r hr => ?_⟩,fun x hx => ?_⟩
   ·rw [hL']
    exact List.nodup_append.2 ⟨m2,by simp,fun x hx y hy => by simp at hy; subst hy; rintro rfl; exact hbL hx⟩
   ·rcases List.mem_append.1 hr with hr | hr
    ·exact m5 r hr
    ·simp only [List.mem_singleton] at hr
     subst hr
     exact ⟨rest,ty,k3,by simp only; omega,q4,q5,q3⟩
   ·rw [hL'] at hx
    rcases List.mem_append.1 hx with hx | hx
    ·exact m6 x hx
    ·simp only [List.mem_singleton] at hx
     subst hx
     exact ⟨k3.lt,k2⟩
  ·by_cases e2:n = d
   ·subst e2; rw [ho2]; trivial
   ·rw [ho3 n e e2,hf2 n e]
    exact ObOk.reloc hl (hg.objs n)
 ·rcases hhas n x h1 with ⟨n1,h1'⟩ | ⟨a1,a2⟩ <;> rcases hhas m x h2 with ⟨m1',h2'⟩ | ⟨b1,b2⟩
  ·exact hg.disj n m x hnm h1' h2'
  ·exact hg.disj n d x n1 h1' ((hbd x).2 b2.symm)
  ·exact hg.disj m d x m1' h2' ((hbd x).2 a2.symm)
  ·exact hnm (a1.trans b1.symm)
theorem raws_rep {w:World} {M:Cells} {loc:Nat → Value}:∀ S:List RB,RepAs w M loc (cellsG RB.cd S 0) (S.map RB.val)
 | [] => by simp [cellsG,flatG,RepAs]
 | r :: S => by
  have ih:=raws_rep (w:=w) (M:=M) (loc:=loc) S
  have e:cellsG RB.cd (r :: S) 0 = .c (.raw r.val) :: cellsG RB.cd S 0:=by simp [cellsG,flatG,RB.cd]
  rw [e]
  simp only [List.map_cons,RepAs,RepA,RepC]
  exact ⟨_,_,rfl,⟨rfl,rfl⟩,ih⟩
theorem nons_rep {w:World} {M:Cells} {loc:Nat → Value}:∀ l:List Value,RepAs w M loc (List.replicate l.length .non) l
 | [] => by simp [RepAs]
 | x :: l => by simp only [List.length_cons,List.replicate_succ,RepAs,RepA]; exact ⟨x,l,rfl,trivial,nons_rep l⟩
theorem raws_cells {w:World} {M:Cells} {loc:Nat → Value} {j:Nat}:∀ {S:List RB} {lv:List Value},RepAs w M loc (cellsG RB.cd S j) lv → ∃ rest,lv = S.map RB.val ++ rest ∧ rest.length = j
 | [],lv,h => ⟨lv,rfl,by have:=h.length; simpa [cellsG,flatG] using this⟩
 | r :: S,lv,h => by
  have e:cellsG RB.cd (r :: S) j = .c (.raw r.val) :: cellsG RB.cd S j:=by simp [cellsG,flatG,RB.cd]
  rw [e] at h
  simp only [RepAs,RepA,RepC] at h
  obtain ⟨v,vs,rfl,⟨rfl,_⟩,h2⟩:=h
  obtain ⟨rest,rfl,h3⟩:=raws_cells h2
  exact ⟨rest,rfl,h3⟩
end
end Go.V

/-
 The same of an array that a variable's cell refers to; rows that are held,taken apart.
-/
namespace Go.V
section
variable {C:Ctx} {σ:St}
theorem Gam_takeB {f d q:Nat} {rows:List RB} {v:Value} (hfd:f ≠ d) (hof:σ.own f = hold rows (some v)) (hod:σ.own d = .none) (hpd:¬ C.pin d) (hqf:q ≠ f) (hqd:q ≠ d) (hoq:σ.own q = .box [.c (.raw v)]) :
  ∀ a w,Gam C σ a w → ∃ cap j,rows.length ≤ cap ∧ cap ≤ maxLen ∧ cap ≤ rows.length + j ∧ Gam C ⟨prgE d σ.env,upd (upd (upd (prgO d σ.own) q (.box [.vw 1 d 0 rows.length cap])) d (.box (cellsG RB.cd rows j))) f (hold rows none)⟩ a w:=by
 rintro a w ⟨loc0,hg0⟩
 have hg:=hg0.forget hod hpd
 obtain ⟨loc,hloc⟩ : ∃ loc,loc = upd loc0 d undef:=⟨_,rfl⟩
 obtain ⟨τ,hτ⟩ : ∃ τ:St,τ = ⟨prgE d σ.env,prgO d σ.own⟩:=⟨_,rfl⟩
 rw [← hloc,← hτ] at hg
 have hd0:loc d = undef:=by rw [hloc]; simp [upd]
 have hof':τ.own f = hold rows (some v):=by rw [hτ]; show (σ.own f).prg d = _; rw [hof]; rfl
 have hod':τ.own d = .none:=by rw [hτ]; show (σ.own d).prg d = _; rw [hod]; rfl
 have hoq':τ.own q = .box [.c (.raw v)]:=by rw [hτ]; show (σ.own q).prg d = _; rw [hoq]; rfl
 have h2:=hg.objs f
 rw [hof'] at h2
 obtain ⟨_,Lg,m1,⟨_,m2,⟨La,m3,g,cap,rest,ty,q1,q2,q3,q4,q5,q6⟩,m5⟩,m6⟩:=h2
 subst q2
 have hbf:∀ x,(τ.own f).has (loc f) x ↔ x ∈ Lg:=fun x => by rw [hof',m1]; simp only [hold,Ob.has,footV_encV]
 refine ⟨cap,rest.length,q4,q5,q6,?_⟩
 obtain ⟨own',hown'⟩ : ∃ own',own' = upd (upd (upd (prgO d σ.own) q (.box [.vw 1 d 0 rows.length cap])) d (.box (cellsG RB.cd rows rest.length))) f (hold rows none):=⟨_,rfl⟩
 rw [← hown']
 have hτo:τ.own = prgO d σ.own:=by rw [hτ]
 have hτe:τ.env = prgE d σ.env:=by rw [hτ]
 rw [← hτe]
 obtain ⟨loc',hloc'⟩ : ∃ loc',loc' = upd (upd loc d (.pointer (some ⟨g,0,none⟩))) f (encV (rows.map RB.b)):=⟨_,rfl⟩
 have hf1:loc' f = encV (rows.map RB.b):=by rw [hloc']; simp [upd]
 have hfd1:loc' d = .pointer (some ⟨g,0,none⟩):=by rw [hloc']; simp [upd,Ne.symm hfd]
 have hf2:∀ n,n ≠ f → n ≠ d → loc' n = loc n:=fun n h1 h2 => by rw [hloc']; simp [upd,h1,h2]
 have ho1:own' f = hold rows none:=by rw [hown']; simp [upd]
 have ho2:own' d = .box (cellsG RB.cd rows rest.length):=by rw [hown']; simp [upd,Ne.symm hfd]
 have ho3:∀ n,n ≠ f → n ≠ d → n ≠ q → own' n = τ.own n:=fun n h1 h2 h3 => by rw [hown',hτo]; simp [upd,h1,h2,h3]
 have ho4:own' q = .box [.vw 1 d 0 rows.length cap]:=by rw [hown']; simp [upd,hqf,hqd]
 have hq3:∀ x y,((own' q).has (loc' q) x ↔ (τ.own q).has (loc q) x) ∧ ((own' q).mut (loc' q) x y ↔ (τ.own q).mut (loc q) x y):=fun x y => by
  rw [ho4,hoq',hf2 q hqf hqd]
  cases loc q <;> first | exact ⟨Iff.rfl,Iff.rfl⟩ | (rename_i p; cases p <;> exact ⟨Iff.rfl,Iff.rfl⟩)
 have hl:∀ n,(loc n).oneCell' = true → loc' n = loc n:=fun n hn => by
  by_cases e1:n = f
  ·subst e1; rw [m1,encV_one] at hn; cases hn
  ·by_cases e2:n = d
   ·subst e2; rw [hd0] at hn; cases hn
   ·exact hf2 n e1 e2
 have hbd:∀ x,(own' d).has (loc' d) x ↔ x = g:=fun x => by rw [ho2,hfd1]; exact ⟨fun h => h.symm,fun h => h.symm⟩
 have hnd:=List.nodup_append.1 (m3 ▸ m2)
 have hhas:∀ n x,(own' n).has (loc' n) x → (n ≠ f ∧ n ≠ d ∧ (τ.own n).has (loc n) x) ∨ (n = f ∧ x ∈ rows.map RB.b) ∨ (n = d ∧ x ∈ [g]):=by
  intro n x h
  by_cases e1:n = f
  ·subst e1
   rw [ho1,hf1] at h
   simp only [hold,Ob.has,footV_encV] at h
   exact .inr (.inl ⟨rfl,h⟩)
  ·by_cases e2:n = d
   ·subst e2; exact .inr (.inr ⟨rfl,by simpa using (hbd x).1 h⟩)
   ·refine .inl ⟨e1,e2,?_⟩
    by_cases e3:n = q
    ·subst e3; exact (hq3 x 0).1.1 h
    ·rw [ho3 n e1 e2 e3,hf2 n e1 e2] at h; exact h
 have hLa:∀ x,x ∈ [g] → x ∈ Lg:=fun x h => by rw [m3]; exact List.mem_append_right _ h
 have hLr:∀ x,x ∈ rows.map RB.b → x ∈ Lg:=fun x h => by rw [m3]; exact List.mem_append_left _ h
 refine ⟨loc',hg.reown (fun n hn => hf2 n (fun e => hold_nopin hg m1 (e ▸ hn)) (fun e => hpd (e ▸ hn))) (fun s => ?_) (fun x y hm => ?_) (fun x ⟨n,h⟩ => ?_) (fun n => ?_) (fun n m x hnm h1 h2 => ?_)⟩
 ·exact RepA.reloc hl (hg.slots s)
 ·obtain ⟨n,h⟩:=hm
  rcases hhas n x (Ob.has_of_mut h) with ⟨e1,e2,_⟩ | ⟨rfl,hx⟩ | ⟨rfl,hx⟩
  ·by_cases e3:n = q
   ·subst e3; exact ⟨n,(hq3 x y).2.1 h⟩
   ·rw [ho3 n e1 e2 e3,hf2 n e1 e2] at h
    exact ⟨n,h⟩
  ·exact ⟨n,by rw [hof',m1]; simp only [hold,Ob.mut,footV_encV]; exact hLr x hx⟩
  ·exact ⟨f,by rw [hof',m1]; simp only [hold,Ob.mut,footV_encV]; exact hLa x hx⟩
 ·rcases hhas n x h with ⟨_,_,h'⟩ | ⟨rfl,hx⟩ | ⟨rfl,hx⟩
  ·exact ⟨n,h'⟩
  ·exact ⟨n,(hbf x).2 (hLr x hx)⟩
  ·exact ⟨f,(hbf x).2 (hLa x hx)⟩
 ·by_cases e1:n = f
  ·subst e1
   rw [ho1,hf1]
   exact ⟨gF_ok _ _ _,_,rfl,⟨rfl,hnd.1,⟨[],by simp,rfl⟩,m5⟩,fun x hx => m6 x (hLr x hx)⟩
  ·by_cases e2:n = d
   ·subst e2
    rw [ho2,hfd1]
    refine ⟨g,rows.map RB.val ++ rest,ty,rfl,(m6 g (hLa g (by simp))).2,q3,?_⟩
    have e:cellsG RB.cd rows rest.length = cellsG RB.cd rows 0 ++ List.replicate rest.length .non:=by simp [cellsG]
    rw [e]
    exact (raws_rep rows).append (nons_rep rest)
   ·by_cases e3:n = q
    ·subst e3
     rw [ho4,hf2 n e1 e2]
     have hqo:=hg.objs n
     rw [hoq'] at hqo
     obtain ⟨b2,l2,t2,w1,w2,w3,w4⟩:=hqo
     refine ⟨b2,l2,t2,w1,w2,w3,?_⟩
     simp only [RepAs,RepA,RepC] at w4
     obtain ⟨v1,vs1,rfl,⟨rfl,_⟩,rfl⟩:=w4
     simp only [RepAs,RepA]
     exact ⟨_,_,rfl,⟨g,0,hfd1,q1,fun _ => rfl,q4,q5⟩,rfl⟩
    ·rw [ho3 n e1 e2 e3,hf2 n e1 e2]
     exact ObOk.reloc hl (hg.objs n)
 ·have hne:∀ n x,n ≠ f → x ∈ Lg → (τ.own n).has (loc n) x → False:=fun n x hn hx h => hg.disj n f x hn h ((hbf x).2 hx)
  rcases hhas n x h1 with ⟨a1,a2,h1'⟩ | ⟨a1,hx⟩ | ⟨a1,hx⟩ <;> rcases hhas m x h2 with ⟨b1,b2,h2'⟩ | ⟨b1,hy⟩ | ⟨b1,hy⟩
  ·exact hg.disj n m x hnm h1' h2'
  ·exact hne n x a1 (hLr x hy) h1'
  ·exact hne n x a1 (hLa x hy) h1'
  ·exact hne m x b1 (hLr x hx) h2'
  ·exact hnm (a1.trans b1.symm)
  ·exact hnd.2.2 x hx x hy rfl
  ·exact hne m x b1 (hLa x hx) h2'
  ·exact hnd.2.2 x hy x hx rfl
  ·exact hnm (a1.trans b1.symm)
theorem Gam_giveB {f d q j cap:Nat} {rows:List RB} (hfd:f ≠ d) (hof:σ.own f = hold rows none) (hod:σ.own d = .box (cellsG RB.cd rows j)) (hqf:q ≠ f) (hqd:q ≠ d) (hoq:σ.own q = .box [.vw 1 d 0 rows.length cap]) (hpos:0 < rows.length) (hcap:cap ≤ rows.length + j) :
  ∀ a w,Gam C σ a w → ∃ v,Gam C ⟨σ.env,upd (upd (upd σ.own q (.box [.c (.raw v)])) d .none) f (hold rows (some v))⟩ a w:=by
 rintro a w ⟨loc,hg⟩
 have h1:=hg.objs d
 rw [hod] at h1
 obtain ⟨b,lv,ty,k1,k2,k3,k4⟩:=h1
 have h2:=hg.objs f
 rw [hof] at h2
 obtain ⟨_,Lg,m1,⟨_,m2,⟨La,m3,m4⟩,m5⟩,m6⟩:=h2
 simp only at m4
 subst m4
 rw [List.append_nil] at m3
 have h3:=hg.objs q
 rw [hoq] at h3
 obtain ⟨b3,l3,t3,w1,w2,w3,w4⟩:=h3
 simp only [RepAs,RepA] at w4
 obtain ⟨v1,vs1,rfl,⟨b',o,q1,q2,q3,q4,q5⟩,rfl⟩:=w4
 rw [k1] at q1
 simp only [Value.pointer.injEq,Option.some.injEq,Addr.mk.injEq,and_true] at q1
 subst q1
 have ho0:o = 0:=q3 (by omega)
 subst ho0
 have hbd:∀ x,(σ.own d).has (loc d) x ↔ b = x:=fun x => by rw [hod,k1]; exact Iff.rfl
 have hbf:∀ x,(σ.own f).has (loc f) x ↔ x ∈ Lg:=fun x => by rw [hof,m1]; simp only [hold,Ob.has,footV_encV]
 have hbL:b ∉ Lg:=fun h => hg.disj d f b (fun e => hfd e.symm) ((hbd b).2 rfl) ((hbf b).2 h)
 obtain ⟨rest,rfl,hrl⟩:=raws_cells k4
 refine ⟨.slice (some ⟨b,0,none⟩) rows.length cap,?_⟩
 obtain ⟨own',hown'⟩ : ∃ own',own' = upd (upd (upd σ.own q (.box [.c (.raw (.slice (some ⟨b,0,none⟩) rows.length cap))])) d .none) f (hold rows (some (.slice (some ⟨b,0,none⟩) rows.length cap))):=⟨_,rfl⟩
 rw [← hown']
 obtain ⟨L',hL'⟩ : ∃ L',L' = Lg ++ [b]:=⟨_,rfl⟩
 obtain ⟨loc',hloc'⟩ : ∃ loc',loc' = upd loc f (encV L'):=⟨_,rfl⟩
 have hf1:loc' f = encV L':=by rw [hloc']; simp [upd]
 have hf2:∀ n,n ≠ f → loc' n = loc n:=fun n hn => by rw [hloc']; simp [upd,hn]
 have ho1:own' f = hold rows (some (.slice (some ⟨b,0,none⟩) rows.length cap)):=by rw [hown']; simp [upd]
 have ho2:own' d = .none:=by rw [hown']; simp [upd,Ne.symm hfd]
 have ho3:∀ n,n ≠ f → n ≠ d → n ≠ q → own' n = σ.own n:=fun n h1 h2 h3 => by rw [hown']; simp [upd,h1,h2,h3]
 have ho4:own' q = .box [.c (.raw (.slice (some ⟨b,0,none⟩) rows.length cap))]:=by rw [hown']; simp [upd,hqf,hqd]
 have hq3:∀ x y,((own' q).has (loc' q) x ↔ (σ.own q).has (loc q) x) ∧ ((own' q).mut (loc' q) x y ↔ (σ.own q).mut (loc q) x y):=fun x y => by
  rw [ho4,hoq,hf2 q hqf]
  cases loc q <;> first | exact ⟨Iff.rfl,Iff.rfl⟩ | (rename_i p; cases p <;> exact ⟨Iff.rfl,Iff.rfl⟩)
 have hl:∀ n,(loc n).oneCell' = true → loc' n = loc n:=fun n hn => by
  by_cases e:n = f
  ·subst e; rw [m1,encV_one] at hn; cases hn
  ·exact hf2 n e
 have hhas:∀ n x,(own' n).has (loc' n) x → (n ≠ d ∧ (σ.own n).has (loc n) x) ∨ (n = f ∧ x = b):=by
  intro n x h
  by_cases e:n = f
  ·subst e
   rw [ho1,hf1] at h
   simp only [hold,Ob.has,footV_encV,hL',List.mem_append,List.mem_singleton] at h
   rcases h with h | h
   ·exact .inl ⟨hfd,(hbf x).2 h⟩
   ·exact .inr ⟨rfl,h⟩
  ·by_cases e2:n = d
   ·subst e2; rw [ho2] at h; exact (Ob.has_none _ _ h).elim
   ·refine .inl ⟨e2,?_⟩
    by_cases e3:n = q
    ·subst e3; exact (hq3 x 0).1.1 h
    ·rw [ho3 n e e2 e3,hf2 n e] at h; exact h
 refine ⟨loc',hg.reown (fun n hn => hf2 n fun e => hold_nopin hg m1 (e ▸ hn)) (fun s => ?_) (fun x y hm => ?_) (fun x ⟨n,h⟩ => ?_) (fun n => ?_) (fun n m x hnm h1 h2 => ?_)⟩
 ·exact RepA.reloc hl (hg.slots s)
 ·obtain ⟨n,h⟩:=hm
  by_cases e:n = f
  ·subst e
   rw [ho1,hf1] at h
   simp only [hold,Ob.mut,footV_encV,hL',List.mem_append,List.mem_singleton] at h
   rcases h with h | rfl
   ·exact ⟨n,by rw [hof,m1]; simp only [hold,Ob.mut,footV_encV]; exact h⟩
   ·exact ⟨d,by rw [hod,k1]; rfl⟩
  ·by_cases e2:n = d
   ·subst e2; rw [ho2] at h; exact (Ob.has_none _ _ (Ob.has_of_mut h)).elim
   ·by_cases e3:n = q
    ·subst e3; exact ⟨n,(hq3 x y).2.1 h⟩
    ·rw [ho3 n e e2 e3,hf2 n e] at h
     exact ⟨n,h⟩
 ·rcases hhas n x h with ⟨_,h'⟩ | ⟨_,rfl⟩
  ·exact ⟨n,h'⟩
  ·exact ⟨d,(hbd _).2 rfl⟩
 ·by_cases e:n = f
  ·subst e
   rw [ho1,hf1]
   refine ⟨gF_ok _ _ _,L',rfl,⟨rfl,?_,⟨[b],by rw [hL',m3],b,cap,rest,ty,rfl,rfl,k3,q4,q5,by omega⟩,m5⟩,fun x hx => ?_⟩
   ·rw [hL']
    exact List.nodup_append.2 ⟨m2,by simp,fun x hx y hy => by simp at hy; subst hy; rintro rfl; exact hbL hx⟩
   ·rw [hL'] at hx
    rcases List.mem_append.1 hx with hx | hx
    ·exact m6 x hx
    ·simp only [List.mem_singleton] at hx
     subst hx
     exact ⟨k3.lt,k2⟩
  ·by_cases e2:n = d
   ·subst e2; rw [ho2]; trivial
   ·by_cases e3:n = q
    ·subst e3
     rw [ho4,hf2 n e]
     refine ⟨b3,_,t3,w1,w2,w3,?_⟩
     simp only [RepAs,RepA,RepC]
     exact ⟨_,_,rfl,⟨q2,rfl⟩,rfl⟩
    ·rw [ho3 n e e2 e3,hf2 n e]
     exact ObOk.reloc hl (hg.objs n)
 ·rcases hhas n x h1 with ⟨n1,h1'⟩ | ⟨a1,a2⟩ <;> rcases hhas m x h2 with ⟨m1',h2'⟩ | ⟨b1,b2⟩
  ·exact hg.disj n m x hnm h1' h2'
  ·exact hg.disj n d x n1 h1' ((hbd x).2 b2.symm)
  ·exact hg.disj m d x m1' h2' ((hbd x).2 a2.symm)
  ·exact hnm (a1.trans b1.symm)
end
end Go.V

/-
 Rows that are held,taken apart: a slice of slices of rows,each an object of its own.
-/
namespace Go.V
section
variable {C:Ctx} {σ:St}
theorem rows_ex {w:World}:∀ {rows:List RB},(∀ r ∈ rows,∃ rest ty,AtC w r.b (r.l.map bval ++ rest) ty ∧ r.cap ≤ r.l.length + rest.length ∧ r.l.length ≤ r.cap ∧ r.cap ≤ maxLen ∧ (0 < r.cap → r.o = 0)) →
  ∃ R:List (Row UInt8),R.length = rows.length ∧ ∀ i (h:i < rows.length) (h':i < R.length),(R[i]).l = (rows[i]).l ∧ (R[i]).cap = (rows[i]).cap ∧ (rows[i]).cap ≤ (R[i]).l.length + (R[i]).j ∧ (R[i]).l.length ≤ (R[i]).cap ∧ (R[i]).cap ≤ maxLen ∧ (0 < (R[i]).cap → (rows[i]).o = 0) ∧
   ∃ rest ty,AtC w (rows[i]).b ((rows[i]).l.map bval ++ rest) ty ∧ rest.length = (R[i]).j
 | [],_ => ⟨[],rfl,fun i h => by simp at h⟩
 | r :: rows,hr => by
  obtain ⟨R,h1,h2⟩:=rows_ex (rows:=rows) fun x hx => hr x (by simp [hx])
  obtain ⟨rest,ty,k1,k2,k3,k4,k5⟩:=hr r (by simp)
  refine ⟨⟨r.l,rest.length,r.cap⟩ :: R,by simp [h1],fun i h h' => ?_⟩
  match i,h,h' with
  | 0,_,_ => exact ⟨rfl,rfl,k2,k3,k4,k5,rest,ty,k1,rfl⟩
  | i + 1,h,h' => exact h2 i (by simpa using h) (by simpa using h')
theorem refs_rep {w:World} {M:Cells} {loc:Nat → Value}:∀ (R:List (Row UInt8)) (rows:List RB) (k:Nat),R.length = rows.length →
  (∀ i (h:i < rows.length) (h':i < R.length),(R[i]).l.length = (rows[i]).l.length ∧ (R[i]).cap = (rows[i]).cap ∧ (R[i]).l.length ≤ (R[i]).cap ∧ (R[i]).cap ≤ maxLen ∧ (0 < (R[i]).cap → (rows[i]).o = 0) ∧ loc (i + k + 1001) = .pointer (some ⟨(rows[i]).b,0,none⟩)) →
  RepAs w M loc (refs 1001 1 k R) (rows.map RB.val)
 | [],[],k,_,_ => by simp [refs,RepAs]
 | [],_ :: _,_,h,_ => by simp at h
 | _ :: _,[],_,h,_ => by simp at h
 | r :: R,b :: rows,k,hl,h => by
  obtain ⟨h1,h2,h3,h4,h5,h6⟩:=h 0 (by simp) (by simp)
  simp only [List.getElem_cons_zero,Nat.zero_add] at h1 h2 h3 h4 h5 h6
  have ih:=refs_rep (w:=w) (M:=M) (loc:=loc) R rows (k + 1) (by simpa using hl) fun i hi hi' => by
   have:=h (i + 1) (by simpa using hi) (by simpa using hi')
   simp only [List.getElem_cons_succ] at this
   rw [show i + (k + 1) + 1001 = i + 1 + k + 1001 from by omega]
   exact this
  simp only [refs,List.map_cons,RepAs,RepA]
  exact ⟨_,_,rfl,⟨b.b,b.o,h6,by rw [RB.val,h1,h2],h5,h3,h4⟩,ih⟩
theorem Gam_explode {f q:Nat} {rows:List RB} {v:Value} (hof:σ.own f = hold rows (some v)) (hqf:q ≠ f) (hf1000:f < 1000) (hq1000:q < 1000) (hoq:σ.own q = .box [.c (.raw v)]) (hno:∀ n ∈ gnum rows.length,¬ C.pin n ∧ (σ.own n).isNone = true) (hE:prgEs (gnum rows.length) σ.env = σ.env) (hO:prgOs (gnum rows.length) σ.own = σ.own) :
  ∀ a w,Gam C σ a w → ∃ (R:List (Row UInt8)) (j cap:Nat),R.map Row.l = rows.map RB.l ∧ R.length ≤ cap ∧ cap ≤ maxLen ∧ cap ≤ R.length + j ∧ (∀ r ∈ R,r.l.length ≤ r.cap ∧ r.cap ≤ maxLen ∧ r.cap ≤ r.l.length + r.j) ∧
   Gam C ⟨σ.env,gown bcd 1 R j (upd (upd σ.own q (.box [.vw 1 1000 0 R.length cap])) f .none)⟩ a w:=by
 rintro a w ⟨loc0,hg0⟩
 have hg:=G.forgets hg0 hno
 rw [hE,hO] at hg
 obtain ⟨loc,hloc⟩ : ∃ loc,loc = updU (gnum rows.length) loc0:=⟨_,rfl⟩
 rw [← hloc] at hg
 have hnu:∀ n ∈ gnum rows.length,loc n = undef:=fun n hn => by rw [hloc]; exact updU_in hn
 have h2:=hg.objs f
 simp only at h2
 rw [hof] at h2
 obtain ⟨_,Lg,m1,⟨_,m2,⟨La,m3,g,cap,rest,ty,q1,q2,q3,q4,q5,q6⟩,m5⟩,m6⟩:=h2
 subst q2
 obtain ⟨R,hRl,hR⟩:=rows_ex m5
 have hlm:R.map Row.l = rows.map RB.l:=by
  refine List.ext_getElem (by simp [hRl]) fun i h1 h2 => ?_
  simp only [List.getElem_map]
  exact (hR i (by simpa using h2) (by simpa using h1)).1
 refine ⟨R,rest.length,cap,hlm,by omega,q5,by omega,fun r hr => ?_,?_⟩
 ·obtain ⟨i,hi,rfl⟩:=List.getElem_of_mem hr
  obtain ⟨k1,k2,k3,k4,k5,_⟩:=hR i (by omega) hi
  exact ⟨k4,k5,by omega⟩
 obtain ⟨own',hown'⟩ : ∃ own',own' = gown bcd 1 R rest.length (upd (upd σ.own q (.box [.vw 1 1000 0 R.length cap])) f .none):=⟨_,rfl⟩
 rw [← hown']
 have hgm:∀ n,n ∈ gnum rows.length ↔ 1000 ≤ n ∧ n < rows.length + 1001:=by
  intro n
  simp only [gnum,List.mem_append,List.mem_singleton,rng,List.mem_map,List.mem_range]
  constructor
  ·rintro (rfl | ⟨i,hi,rfl⟩) <;> omega
  ·rintro ⟨h1,h2⟩
   by_cases h:n = 1000
   ·exact .inl h
   ·exact .inr ⟨n - 1001,by omega,by omega⟩
 obtain ⟨loc',hloc'⟩ : ∃ loc':Nat → Value,loc' = fun n => if n = 1000 then .pointer (some ⟨g,0,none⟩) else if 1001 ≤ n then (match rows[n - 1001]? with | some r => .pointer (some ⟨r.b,0,none⟩) | none => loc n) else loc n:=⟨_,rfl⟩
 have hl0:loc' 1000 = .pointer (some ⟨g,0,none⟩):=by rw [hloc']; simp only; rw [if_pos trivial]
 have hl1:∀ i (h:i < rows.length),loc' (i + 1001) = .pointer (some ⟨(rows[i]).b,0,none⟩):=fun i h => by
  rw [hloc']
  simp only
  rw [if_neg (by omega),if_pos (by omega),Nat.add_sub_cancel,List.getElem?_eq_getElem h]
 have hl2:∀ n,n ∉ gnum rows.length → loc' n = loc n:=fun n hn => by
  rw [hgm] at hn
  rw [hloc']
  simp only
  rw [if_neg (by omega)]
  split
  ·rw [List.getElem?_eq_none (by omega)]
  ·rfl
 have hl:∀ n,(loc n).oneCell' = true → loc' n = loc n:=fun n hn => by
  by_cases e1:n ∈ gnum rows.length
  ·rw [hnu n e1] at hn; cases hn
  ·exact hl2 n e1
 have hnf:f ∉ gnum rows.length:=by rw [hgm]; omega
 have hnq:q ∉ gnum rows.length:=by rw [hgm]; omega
 have ho0:own' 1000 = gridOb 1 R rest.length:=by rw [hown']; exact gown_grid
 have ho1:∀ i (h:i < R.length),own' (i + 1001) = (R[i]).ob bcd:=fun i h => by rw [hown']; exact gown_row h
 have ho2:∀ n,n ∉ gnum rows.length → own' n = if n = f then .none else if n = q then .box [.vw 1 1000 0 R.length cap] else σ.own n:=fun n hn => by
  rw [hgm] at hn
  have:own' n = upd (upd σ.own q (.box [.vw 1 1000 0 R.length cap])) f .none n:=by
   rw [hown']
   by_cases h:n < 1000
   ·exact gown_lo h
   ·exact gown_hi (by omega)
  rw [this]
  simp only [upd]
 have hin:∀ n,n ∈ gnum rows.length → n = 1000 ∨ ∃ i,i < rows.length ∧ n = i + 1001:=fun n hn => by
  rw [hgm] at hn
  by_cases h:n = 1000
  ·exact .inl h
  ·exact .inr ⟨n - 1001,by omega,by omega⟩
 have hbf:∀ x,(σ.own f).has (loc f) x ↔ x ∈ Lg:=fun x => by rw [hof,m1]; simp only [hold,Ob.has,footV_encV]
 have hqh:∀ x y,((own' q).has (loc' q) x ↔ (σ.own q).has (loc q) x) ∧ ((own' q).mut (loc' q) x y ↔ (σ.own q).mut (loc q) x y):=fun x y => by
  rw [ho2 q hnq,if_neg hqf,if_pos rfl,hoq,hl2 q hnq]
  cases loc q <;> first | exact ⟨Iff.rfl,Iff.rfl⟩ | (rename_i p; cases p <;> exact ⟨Iff.rfl,Iff.rfl⟩)
 have hhas:∀ n x,(own' n).has (loc' n) x → (n ∉ gnum rows.length ∧ n ≠ f ∧ (σ.own n).has (loc n) x) ∨ (n = 1000 ∧ x = g) ∨ (∃ i,∃ h:i < rows.length,n = i + 1001 ∧ x = (rows[i]).b):=by
  intro n x h
  by_cases e1:n ∈ gnum rows.length
  ·rcases hin n e1 with rfl | ⟨i,hi,rfl⟩
   ·rw [ho0,hl0] at h
    exact .inr (.inl ⟨rfl,h.symm⟩)
   ·rw [ho1 i (by omega),hl1 i hi] at h
    exact .inr (.inr ⟨i,hi,rfl,h.symm⟩)
  ·left
   by_cases e2:n = f
   ·rw [ho2 n e1,if_pos e2] at h; exact (Ob.has_none _ _ h).elim
   ·refine ⟨e1,e2,?_⟩
    by_cases e3:n = q
    ·subst e3; exact (hqh x 0).1.1 h
    ·rw [ho2 n e1,if_neg e2,if_neg e3,hl2 n e1] at h; exact h
 have hnd:=List.nodup_append.1 (m3 ▸ m2)
 have hLg0:g ∈ Lg:=by rw [m3]; simp
 have hLg1:∀ i (h:i < rows.length),(rows[i]).b ∈ Lg:=fun i h => by rw [m3]; exact List.mem_append_left _ (List.mem_map_of_mem (List.getElem_mem h))
 refine ⟨loc',hg.reown (fun n hn => ?_) (fun s => RepA.reloc hl (hg.slots s)) (fun x y hm => ?_) (fun x ⟨n,h⟩ => ?_) (fun n => ?_) (fun n m x hnm h1 h2 => ?_)⟩
 ·exact hl2 n fun e => (hno n e).1 hn
 ·obtain ⟨n,h⟩:=hm
  have hLm:∀ x,x ∈ Lg → Mut σ.own loc x y:=fun x hx => ⟨f,by rw [hof,m1]; simp only [hold,Ob.mut,footV_encV]; exact hx⟩
  rcases hhas n x (Ob.has_of_mut h) with ⟨e1,e2,_⟩ | ⟨rfl,rfl⟩ | ⟨i,hi,rfl,rfl⟩
  ·by_cases e3:n = q
   ·subst e3; exact ⟨n,(hqh x y).2.1 h⟩
   ·rw [ho2 n e1,if_neg e2,if_neg e3,hl2 n e1] at h
    exact ⟨n,h⟩
  ·exact hLm _ hLg0
  ·exact hLm _ (hLg1 i hi)
 ·rcases hhas n x h with ⟨_,_,h'⟩ | ⟨rfl,rfl⟩ | ⟨i,hi,rfl,rfl⟩
  ·exact ⟨n,h'⟩
  ·exact ⟨f,(hbf _).2 hLg0⟩
  ·exact ⟨f,(hbf _).2 (hLg1 i hi)⟩
 ·by_cases e1:n ∈ gnum rows.length
  ·rcases hin n e1 with rfl | ⟨i,hi,rfl⟩
   ·rw [ho0,hl0]
    refine ⟨g,rows.map RB.val ++ rest,ty,rfl,(m6 g hLg0).2,q3,?_⟩
    refine (refs_rep R rows 0 hRl fun i h h' => ?_).append (nons_rep rest)
    obtain ⟨k1,k2,k3,k4,k5,k6,_⟩:=hR i h h'
    exact ⟨by rw [k1],k2,k4,k5,k6,hl1 i h⟩
   ·have hi':i < R.length:=by omega
    rw [ho1 i hi',hl1 i hi]
    obtain ⟨k1,k2,k3,k4,k5,k6,rest2,ty2,k7,k8⟩:=hR i hi hi'
    refine ⟨_,_,ty2,rfl,(m6 _ (hLg1 i hi)).2,k7,?_⟩
    have e:cellsG bcd (R[i]).l (R[i]).j = cellsG bcd (rows[i]).l 0 ++ List.replicate rest2.length .non:=by rw [k1,k8]; simp [cellsG]
    rw [e]
    exact (bytes_rep _).append (nons_rep rest2)
  ·rw [ho2 n e1,hl2 n e1]
   split
   ·trivial
   ·split
    ·rename_i _ e3
     subst e3
     have hqo:=hg.objs n
     simp only at hqo
     rw [hoq] at hqo
     obtain ⟨b2,l2,t2,w1,w2,w3,w4⟩:=hqo
     refine ⟨b2,l2,t2,w1,w2,w3,?_⟩
     simp only [RepAs,RepA,RepC] at w4
     obtain ⟨v1,vs1,rfl,⟨rfl,_⟩,rfl⟩:=w4
     simp only [RepAs,RepA]
     exact ⟨_,_,rfl,⟨g,0,hl0,by rw [q1,hRl],fun _ => rfl,by omega,q5⟩,rfl⟩
    ·exact ObOk.reloc hl (hg.objs n)
 ·have hne:∀ n x,n ≠ f → x ∈ Lg → (σ.own n).has (loc n) x → False:=fun n x hn hx h => hg.disj n f x hn h ((hbf x).2 hx)
  have hgb:∀ i (h:i < rows.length),(rows[i]).b ≠ g:=fun i h => hnd.2.2 _ (List.mem_map_of_mem (List.getElem_mem h)) g (by simp)
  rcases hhas n x h1 with ⟨a1,a2,h1'⟩ | ⟨a1,hx⟩ | ⟨i,hi,a1,hx⟩ <;> rcases hhas m x h2 with ⟨b1,b2,h2'⟩ | ⟨b1,hy⟩ | ⟨k,hk,b1,hy⟩
  ·exact hg.disj n m x hnm h1' h2'
  ·exact hne n x a2 (hy ▸ hLg0) h1'
  ·exact hne n x a2 (hy ▸ hLg1 k hk) h1'
  ·exact hne m x b2 (hx ▸ hLg0) h2'
  ·exact hnm (a1.trans b1.symm)
  ·exact hgb k hk (hy.symm.trans hx)
  ·exact hne m x b2 (hx ▸ hLg1 i hi) h2'
  ·exact hgb i hi (hx.symm.trans hy)
  ·have hnb:=hnd.1
   have e:i = k:=by
    have h1:(rows.map RB.b)[i]'(by simpa using hi) = (rows.map RB.b)[k]'(by simpa using hk):=by simp only [List.getElem_map]; rw [← hx,← hy]
    exact (List.getElem_inj hnb).1 h1
   exact hnm (by rw [a1,b1,e])
end
section
variable {C:Ctx} {σ:St} {K:St → Prop} {is:List Ins} {Q:Exit → St → Prop}
theorem SOps_ex {τ:Type} {S:τ → St} {p:τ → Prop} (h:∀ a w,Gam C σ a w → ∃ x,p x ∧ Gam C (S x) a w) (h2:∀ x,p x → SOps C is K (S x)):SOps C is K σ:=fun ops k Q' hQ hi a w hg => by
 obtain ⟨x,hp,hx⟩:=h a w hg
 exact h2 x hp ops k Q' hQ hi a w hx
theorem WV_ex {τ:Type} {v:VC} {S:τ → St} {p:τ → Prop} (h:∀ a w,Gam C σ a w → ∃ x,p x ∧ Gam C (S x) a w) (h2:∀ x,p x → WV C v Q (S x)):WV C v Q σ:=fun c hc a w hg => by
 obtain ⟨x,hp,hx⟩:=h a w hg
 exact h2 x hp c hc a w hx
theorem WV_hold0 {v:VC} (f:Nat) (hn:σ.own f = .none) (hp:f < 1000) (h:WV C v Q ⟨prgE f σ.env,upd (prgO f σ.own) f (hold [] none)⟩):WV C v Q σ :=
 WV_weak (fun a w hg => by
  by_cases hpin:C.pin f
  ·obtain ⟨loc,hg'⟩:=hg
   have:=(hg'.pin f hpin).1
   omega
  ·exact Gam_hold0 hn hpin a w hg) h
theorem SOps_absorb (f d t:Nat) {j:Nat} {rows:List RB} {l:List UInt8} {cap:Nat} (hfd:f ≠ d) (hof:σ.own f = hold rows none) (hod:σ.own d = .box (cellsG bcd l j)) (ht:σ.env t = .vw 1 d 0 l.length cap) (hcap:cap ≤ l.length + j)
  (h:∀ b o,SOps C is K ⟨upd σ.env t (.c (.raw (RB.val ⟨b,o,l,cap⟩))),upd (upd σ.own d .none) f (hold (rows ++ [⟨b,o,l,cap⟩]) none)⟩):SOps C is K σ :=
 SOps_ex (τ:=Nat × Nat) (S:=fun p => ⟨upd σ.env t (.c (.raw (RB.val ⟨p.1,p.2,l,cap⟩))),upd (upd σ.own d .none) f (hold (rows ++ [⟨p.1,p.2,l,cap⟩]) none)⟩) (p:=fun _ => True)
  (fun a w hg => by obtain ⟨b,o,hx⟩:=Gam_absorb hfd hof hod ht hcap a w hg; exact ⟨(b,o),trivial,hx⟩) (fun p _ => h p.1 p.2)
theorem WV_takeB {v:VC} (f d q:Nat) {rows:List RB} {x:Value} (hfd:f ≠ d) (hof:σ.own f = hold rows (some x)) (hod:σ.own d = .none) (hpd:d < 1000) (hqf:q ≠ f) (hqd:q ≠ d) (hoq:σ.own q = .box [.c (.raw x)])
  (h:∀ cap j,rows.length ≤ cap → cap ≤ maxLen → cap ≤ rows.length + j → WV C v Q ⟨prgE d σ.env,upd (upd (upd (prgO d σ.own) q (.box [.vw 1 d 0 rows.length cap])) d (.box (cellsG RB.cd rows j))) f (hold rows none)⟩):WV C v Q σ:=by
 by_cases hpin:C.pin d
 ·intro c hc a w ⟨loc,hg⟩
  have:=(hg.pin d hpin).1
  omega
 ·exact WV_ex (τ:=Nat × Nat) (S:=fun p => ⟨prgE d σ.env,upd (upd (upd (prgO d σ.own) q (.box [.vw 1 d 0 rows.length p.1])) d (.box (cellsG RB.cd rows p.2))) f (hold rows none)⟩) (p:=fun p => rows.length ≤ p.1 ∧ p.1 ≤ maxLen ∧ p.1 ≤ rows.length + p.2)
   (fun a w hg => by obtain ⟨cap,j,h1,h2,h3,hx⟩:=Gam_takeB hfd hof hod hpin hqf hqd hoq a w hg; exact ⟨(cap,j),⟨h1,h2,h3⟩,hx⟩) (fun p hp => h p.1 p.2 hp.1 hp.2.1 hp.2.2)
theorem WV_giveB {v:VC} (f d q:Nat) {j cap:Nat} {rows:List RB} (hfd:f ≠ d) (hof:σ.own f = hold rows none) (hod:σ.own d = .box (cellsG RB.cd rows j)) (hqf:q ≠ f) (hqd:q ≠ d) (hoq:σ.own q = .box [.vw 1 d 0 rows.length cap]) (hpos:0 < rows.length) (hcap:cap ≤ rows.length + j)
  (h:∀ x,WV C v Q ⟨σ.env,upd (upd (upd σ.own q (.box [.c (.raw x)])) d .none) f (hold rows (some x))⟩):WV C v Q σ :=
 WV_ex (p:=fun _ => True) (fun a w hg => by obtain ⟨x,hx⟩:=Gam_giveB hfd hof hod hqf hqd hoq hpos hcap a w hg; exact ⟨x,trivial,hx⟩) (fun x _ => h x)
theorem WV_explode {v:VC} (f q:Nat) {rows:List RB} {x:Value} (hof:σ.own f = hold rows (some x)) (hqf:q ≠ f) (hf1000:f < 1000) (hq1000:q < 1000) (hoq:σ.own q = .box [.c (.raw x)]) (hno:∀ n ∈ gnum rows.length,¬ C.pin n ∧ (σ.own n).isNone = true) (hE:prgEs (gnum rows.length) σ.env = σ.env) (hO:prgOs (gnum rows.length) σ.own = σ.own)
  (h:∀ (R:List (Row UInt8)) (j cap:Nat),R.map Row.l = rows.map RB.l → R.length ≤ cap → cap ≤ maxLen → cap ≤ R.length + j → (∀ r ∈ R,r.l.length ≤ r.cap ∧ r.cap ≤ maxLen ∧ r.cap ≤ r.l.length + r.j) → WV C v Q ⟨σ.env,gown bcd 1 R j (upd (upd σ.own q (.box [.vw 1 1000 0 R.length cap])) f .none)⟩):WV C v Q σ :=
 WV_ex (τ:=List (Row UInt8) × Nat × Nat) (S:=fun p => ⟨σ.env,gown bcd 1 p.1 p.2.1 (upd (upd σ.own q (.box [.vw 1 1000 0 p.1.length p.2.2])) f .none)⟩) (p:=fun p => p.1.map Row.l = rows.map RB.l ∧ p.1.length ≤ p.2.2 ∧ p.2.2 ≤ maxLen ∧ p.2.2 ≤ p.1.length + p.2.1 ∧ (∀ r ∈ p.1,r.l.length ≤ r.cap ∧ r.cap ≤ maxLen ∧ r.cap ≤ r.l.length + r.j))
  (fun a w hg => by obtain ⟨R,j,cap,h1,h2,h3,h4,h5,hx⟩:=Gam_explode hof hqf hf1000 hq1000 hoq hno hE hO a w hg; exact ⟨(R,j,cap),⟨h1,h2,h3,h4,h5⟩,hx⟩) (fun p hp => h p.1 p.2.1 p.2.2 hp.1 hp.2.1 hp.2.2.1 hp.2.2.2.1 hp.2.2.2.2)
end
end Go.V

/-
 Calls of functions that have no text: what the model does at them.
-/
namespace Go.V
theorem AS_extern {P:Program} {d:Option Nat} {f:X} {xs:List X} {K:St → Prop} {σ:St} {fid:FuncId} {fn:Func} {e:Array Value → Sem Value} {args:List AV} {r:AV} (hf:P.funcs[fid]? = some fn) (hname:(fn.name == "runtime.NumGoroutine") = false)
  (hb:fn.body.isNone = true) (hn:Extern.findNext fn = none) (he:Extern.find fn = some e) (hr:r.pureB = true)
  (hrun:∀ (w:World) (M:Cells) (vs:List Value),RepAs w M (fun _ => undef) args vs → ∃ u,(e vs.toArray).run P w = .ok u w ∧ RepA w M (fun _ => undef) r u)
  (h1:(σ.val f).dg = true) (h2:(xs.all fun x => (σ.val x).dg) = true) (h3:(σ.val f).dv = .fn fid []) (h4:AV.portL σ.own (xs.map fun x => (σ.val x).dv) = some args) (hK:K (σ.put d r)):ACallS P d f xs K σ:=by
 refine .inr (.inr (.inr (.inr (.inr (.inr ?_)))))
 intro C loc a w o hP hc hd hdl hg
 subst hP
 obtain ⟨c,f',ho,hcal,hf',hxs⟩:=cI_call hc
 have hfv:=vald hg hf' h1
 rw [h3] at hfv
 simp only [RepA] at hfv
 obtain ⟨l,e1,hl⟩:=hfv
 simp only [RepAs] at hl
 subst hl
 have hargs:∀ (l:List Operand) (l':List X),cXs l = some l' → (l'.all fun x => (σ.val x).dg) = true → RepAs w (MM C σ.own loc) loc (l'.map fun x => (σ.val x).dv) (l.map a.eval):=by
  intro l
  induction l with
  | nil => intro l' h _; simp [cXs] at h; subst h; simp [RepAs]
  | cons x l ih =>
   intro l' h hd
   simp only [cXs,List.mapM_cons,Option.pure_def,Option.bind_eq_bind,Option.bind_eq_some_iff,Option.some.injEq] at h
   obtain ⟨y,hy,ys,hys,rfl⟩:=h
   simp only [List.all_cons,Bool.and_eq_true] at hd
   simp only [List.map_cons,RepAs]
   exact ⟨_,_,rfl,vald hg hy hd.1,ih ys hys hd.2⟩
 have hra:=ports_rep (loc':=fun _ => undef) hg (hargs _ _ hxs h2) h4
 obtain ⟨u,hu,hru⟩:=hrun w _ _ hra
 have hcall:(execOp a.eval o).run C.P w = .ok (.value u) w:=by
  have e2:(execOp a.eval o).run C.P w = (callFunc fid (c.args.map a.eval)).run C.P w:=by
   simp [execOp,ho,resolve,hcal,Deferred.ofValue,e1,invoke]
  have e3:c.args.map a.eval = (c.args.toList.map a.eval).toArray:=by apply Array.ext'; simp
  rw [e2,run_callFunc_extern hf hname hb hn he,e3,hu]
  rfl
 exact ⟨_,⟨w,loc,.inl ⟨u,hcall,by rw [hd]; exact hg.put (by rw [← hd]; exact hdl) (pure_loc hr hru)⟩⟩,hK⟩
end Go.V

/-
 A grid that the call owns: lent to others,held on to,and turned into data.
-/
namespace Go.V
section
variable {α:Type} {cds:α → List CD} {R R':List (Row α)} {j m:Nat} {o:Nat → Ob}
theorem AS_grid {P:Program} {d:Option Nat} {f:X} {xs:List X} {K:St → Prop} {env:Nat → AV} {fid:FuncId} {caps args:List AV} {Post:AV → List Ob → Prop}
  (hs:FSpecL P fid args (gridL cds m R j) [] Post) (hfd:(St.val ⟨env,gown cds m R j o⟩ f).dg = true) (hxd:(xs.all fun x => (St.val ⟨env,gown cds m R j o⟩ x).dg) = true) (hf:(St.val ⟨env,gown cds m R j o⟩ f).dv = .fn fid caps)
  (hp:AV.lendL 1000 (gnum R.length) (gown cds m R j o) (xs.map (fun x => (St.val ⟨env,gown cds m R j o⟩ x).dv) ++ caps) = some args)
  (hpost:∀ r l',Post r l' → ∃ R',R'.length = R.length ∧ l' = gridL cds m R' j ∧ r.pureB = true ∧ K (St.put ⟨env,gown cds m R' j o⟩ d r)):ACallS P d f xs K ⟨env,gown cds m R j o⟩:=by
 have hlen:R.length + 1 ≤ 1000:=by have:=hs.2.1; rwa [gridL_len] at this
 refine AS_lend (gnum R.length) hs hfd hxd hf (gnum_nodup _) hp (obsLend_grid hlen) fun r l' hP => ?_
 obtain ⟨R',h1,rfl,h2,h3⟩:=hpost r l' hP
 refine ⟨r,gridL cds m R' j,back_pure h2,by rw [← h1]; exact obsBack_grid,?_⟩
 show K (St.put ⟨prgEs (growsOf (gown cds m R j o) (gnum R.length)) env,ownBack (prgOs (growsOf (gown cds m R j o) (gnum R.length)) (gown cds m R j o)) (gnum R.length) (gridL cds m R' j)⟩ d r)
 rw [growsOf_grid]
 simp only [prgEs,prgOs]
 rw [ownBack_grid h1]
 exact h3
theorem ownBack_new:ownBack o (gnum R.length) (gridL cds m R j) = gown cds m R j o:=by
 have e:ownBack o (rng 1001 R.length) (R.map (Row.ob cds)) = fam 1001 cds R o:=ownBack_fam
 show upd (ownBack o (rng 1001 R.length) (R.map (Row.ob cds))) 1000 (gridOb m R j) = _
 rw [e]
 unfold gown
 exact fam_upd (by omega) _
theorem gnum_ge {n k:Nat} (h:k ∈ gnum n):1000 ≤ k:=by
 simp only [gnum,List.mem_append,List.mem_singleton] at h
 rcases h with rfl | h
 ·exact Nat.le_refl _
 ·have:=rng_mem h; omega
theorem WV_pinGrid {C:Ctx} {Q:Exit → St → Prop} {v:VC} {env:Nat → AV} (hN:C.N ≤ 1000) (hR:∀ C':Ctx,∀ bs:Nat → Nat,C'.P = C.P → C'.N = C.N → (C.Ok → C'.Ok) → AtP C' bs (R.length + 1) → WV C' v Q ⟨env,gown cds m R j o⟩):WV C v Q ⟨env,gown cds m R j o⟩:=by
 refine WV_pin (fun n => n ∈ gnum R.length) (fun n hn => ?_) (fun C' h1 h2 h3 h4 h5 h6 h7 => ?_)
 ·have:=gnum_ge hn
  refine ⟨this,by omega,?_⟩
  simp only [gnum,List.mem_append,List.mem_singleton] at hn
  rcases hn with rfl | hn
  ·simp only [gown_grid,gridOb,Ob.isBx]
  ·have hm:=rng_mem hn
   obtain ⟨i,rfl⟩ : ∃ i,n = i + 1001:=⟨n - 1001,by omega⟩
   simp only [gown_row (show i < R.length by omega),Row.ob,Ob.isBx]
 ·obtain ⟨bs,hbs⟩ : ∃ bs:Nat → Nat,∀ i,i < R.length + 1 → C'.l0 (1000 + i) = ptrV (bs i) 0:=by
   refine ⟨fun i => match C'.l0 (1000 + i) with | .pointer (some a) => a.block | _ => 0,fun i hi => ?_⟩
   obtain ⟨b,hb⟩:=(h7 (1000 + i) (List.mem_of_getElem? (gnum_get hi))).2
   show C'.l0 (1000 + i) = ptrV (match C'.l0 (1000 + i) with | .pointer (some a) => a.block | _ => 0) 0
   rw [hb]; rfl
  exact hR C' bs h1 h2 h4 fun i hi => ⟨(h7 _ (List.mem_of_getElem? (gnum_get hi))).1,hbs i hi⟩
end
def rowsD (rows:List (List UInt8)):List (List CD):=rows.map fun l => [.sl 1 (l.map bcd)]
def gridD (rows:List (List UInt8)):CD:=.sl 1 (rowsD rows)
theorem WV_frzGridO {C:Ctx} {Q:Exit → St → Prop} {v:VC} {env:Nat → AV} {R:List (Row UInt8)} {j:Nat} {o:Nat → Ob} (he:∀ n ds,1001 ≤ n → frzE n ds env = env) (ho:∀ n ds,1001 ≤ n → frzO n ds o = o) (h0:o 1000 = .none)
  (h:WV C v Q ⟨frzE 1000 (R.map fun r => .sl 1 (r.l.map bcd)) env,frzO 1000 (R.map fun r => .sl 1 (r.l.map bcd)) o⟩):WV C v Q ⟨env,gown bcd 1 R j o⟩:=by
 have hno:∀ n,1001 ≤ n → o n = .none:=fun n hn => by
  have:=congrFun (ho n [] hn) n
  rw [frzO_app,if_pos rfl] at this
  exact this.symm
 unfold gown
 refine WV_frzFam R.length _ _ rfl (fun i _ => ?_) ?_
 ·rw [upd_app,if_neg (by omega),hno _ (by omega)]
 have e1:=frzPs_refs (b:=1001) (cds:=bcd) (sz:=1) (R:=R) (t:=1000) (own:=o) (pre:=[]) (post:=List.replicate j .non) (fun _ => rfl) (by decide) (fun n ds hn => ho n ds (by omega)) (fun n ds _ => frz_non n ds j) R.length (Nat.le_refl _)
 rw [List.take_length,List.drop_length] at e1
 have e2:refs 1001 1 0 R ++ (datas bcd 1 ([]:List (Row UInt8)) ++ List.replicate j .non) = refs 1001 1 0 R ++ List.replicate j .non:=rfl
 rw [e2] at e1
 unfold gridOb
 rw [e1,frzEs_stay (fun n ds hn => he n ds (by omega))]
 have e3:datas bcd 1 R ++ List.replicate j .non = (R.map fun r => (CD.sl 1 (r.l.map bcd))).map .c ++ List.replicate j .non:=by
  unfold datas
  rw [List.map_map]; rfl
 rw [e3]
 refine WV_freezeJ 1000 (ds:=R.map fun r => .sl 1 (r.l.map bcd)) (junk:=List.replicate j .non) (by rw [upd_app,if_pos rfl]) ?_
 rw [frzO_upd,if_pos rfl]
 exact h
theorem WV_frzGrid {C:Ctx} {Q:Exit → St → Prop} {v:VC} {env:Nat → AV} {R:List (Row UInt8)} {j:Nat} {o:Nat → Ob} (he:∀ n ds,1001 ≤ n → frzE n ds env = env) (ho:∀ n ds,1000 ≤ n → frzO n ds o = o)
  (h:WV C v Q ⟨frzE 1000 (R.map fun r => .sl 1 (r.l.map bcd)) env,o⟩):WV C v Q ⟨env,gown bcd 1 R j o⟩:=by
 have h0:o 1000 = .none:=by
  have:=congrFun (ho 1000 [] (Nat.le_refl _)) 1000
  rw [frzO_app,if_pos rfl] at this
  exact this.symm
 refine WV_frzGridO he (fun n ds hn => ho n ds (by omega)) h0 ?_
 rw [ho 1000 _ (Nat.le_refl _)]
 exact h
theorem grp_one (l:List CD):grp 1 l.length l = l.map fun d => [d]:=by
 induction l with
 | nil => rfl
 | cons x l ih => simp only [List.length_cons,grp,List.map_cons,← ih]; rfl
theorem frz_grid (R:List (Row UInt8)) (cap:Nat):(AV.vw 1 1000 0 R.length cap).frz 1000 (R.map fun r => .sl 1 (r.l.map bcd)) = .c (gridD (R.map Row.l)):=by
 simp only [AV.frz,if_true]
 rw [if_pos (by simp),List.drop_zero]
 have e:(R.map fun r => CD.sl 1 (r.l.map bcd)).take (R.length * 1) = R.map fun r => CD.sl 1 (r.l.map bcd):=by rw [Nat.mul_one]; exact List.take_of_length_le (by simp)
 rw [e]
 have:=grp_one (R.map fun r => CD.sl 1 (r.l.map bcd))
 rw [List.length_map] at this
 rw [this,List.map_map,gridD,rowsD,List.map_map]
 rfl
end Go.V

/-
 Drawn regions with calls at known places.
-/
namespace Go.V
section
variable {C:Ctx}
variable {ops:Array Oper} {is:List Ins} {K:St → Prop} {σ:St} {Q:Exit → St → Prop}
section
variable {α:Type} {cds:α → List CD} {R R':List (Row α)} {j m:Nat} {o:Nat → Ob}
end
end
end Go.V

/-
 More operations without an instruction of their own: new bytes of whatever value,a slice that is cut in three,copies into an own object.
-/
namespace Go.V
section
variable {C:Ctx} {σ:St} {K:St → Prop} {is:List Ins} {Q:Exit → St → Prop}
theorem nons_repL {w:World} {M:Cells} {loc:Nat → Value} (l:List Value):RepAs w M loc (List.replicate l.length .non) l:=by
 induction l with
 | nil => simp [RepAs]
 | cons v l ih => simp only [List.length_cons,List.replicate_succ,RepAs]; exact ⟨v,l,rfl,by simp only [RepA],ih⟩
theorem AS_mnz {P:Program} {d:Nat} {f x:X} {fid:FuncId} {fn:Func} {ps:Array TypeId} {t e:TypeId} {n:Nat} {K:St → Prop} {σ:St} (hf:P.funcs[fid]? = some fn) (hname:(fn.name == "runtime.NumGoroutine") = false)
  (hb:fn.body.isNone = true) (hn:Extern.findNext fn = none) (he:Extern.find fn = some (Extern.BytealgMakeNoZero.makeNoZero ps #[t])) (ht:P.underlying t = some (.slice e))
  (h1:(σ.val f).dg = true) (h2:(σ.val x).dg = true) (h3:(σ.val f).dv = .fn fid []) (h4:(σ.val x).dv = .c (.int .i64 n)) (hln:n ≤ 1000000) (hno:(σ.own d).isNone = true)
  (hK:∀ cap j,n ≤ cap → cap ≤ maxLen → cap ≤ n + j → K (St.new σ d (.vw 1 d 0 n cap) (.box (List.replicate (n + j) .non)))):ACallS P (some d) f [x] K σ:=by
 refine .inr (.inr (.inr (.inr (.inr (.inr ?_)))))
 intro C loc a w o hP hc hd hdl hg
 subst hP
 rw [hd] at hdl
 have hdN:d < C.N:=by simpa using hdl
 obtain ⟨c,f',ho,hcal,hf',hxs⟩:=cI_call hc
 have hfv:=vald hg hf' h1
 rw [h3] at hfv
 simp only [RepA] at hfv
 obtain ⟨l,e1,hl⟩:=hfv
 simp only [RepAs] at hl
 subst hl
 obtain ⟨y,hy1,hy2⟩ : ∃ y,c.args.toList = [y] ∧ cX y = some x:=by
  cases hca:c.args.toList with
  | nil => rw [hca] at hxs; simp [cXs] at hxs
  | cons y ys =>
   rw [hca] at hxs
   simp only [cXs,List.mapM_cons,Option.pure_def,Option.bind_eq_bind,Option.bind_eq_some_iff,Option.some.injEq] at hxs
   obtain ⟨y',hy,ys',hys,hcons⟩:=hxs
   simp only [List.cons.injEq] at hcons
   obtain ⟨rfl,rfl⟩:=hcons
   cases ys with
   | nil => exact ⟨y,rfl,hy⟩
   | cons z zs =>
    simp only [List.mapM_cons,Option.pure_def,Option.bind_eq_bind,Option.bind_eq_some_iff,Option.some.injEq] at hys
    obtain ⟨_,_,_,_,h⟩:=hys
    cases h
 have hyv:=vald hg hy2 h2
 rw [h4] at hyv
 simp only [RepA,RepC] at hyv
 obtain ⟨cs,hrun,hle,hmx⟩:=Lib.run_makeNoZero (P:=C.P) w ps t e ht n (by omega)
 have hmax:=hmx (by simp only [maxLen]; omega)
 have e3:c.args.map a.eval = #[.int .i64 (n:Int)]:=by
  apply Array.ext'
  simp [hy1,hyv]
 have hcall:(execOp a.eval o).run C.P w = .ok (.value (.slice (some ⟨w.heap.size,0,none⟩) n cs.size)) (w.drew.drew.alloc (.cells cs e)):=by
  have e2:(execOp a.eval o).run C.P w = (callFunc fid (c.args.map a.eval)).run C.P w:=by
   simp [execOp,ho,resolve,hcal,Deferred.ofValue,e1,invoke]
  rw [e2,run_callFunc_extern hf hname hb hn he,e3,hrun]
  rfl
 have happ:AppRun C σ loc a w o none n 1 (List.replicate n .non) w.heap.size (w.drew.drew.alloc (.cells cs e)) cs.size cs.toList (e,(0,0)) (cs.toList.take n):=by
  refine ⟨hcall,⟨?_,fun j hj => ?_⟩,⟨hle,hmax⟩,?_,?_,?_,?_,⟨rfl,rfl,rfl,by simp,fun b hb _ => alloc_old w.drew.drew _ b hb⟩,.inl rfl,fun k b h => (by cases h),fun k b off h => (by cases h),fun k b h => (by cases h)⟩
  ·rw [show (w.heap.size) = w.drew.drew.heap.size from rfl,alloc_new]
  ·simp
  ·simp
  ·simp
  ·simp; omega
  ·have:=nons_repL (w:=w) (M:=MM C σ.own loc) (loc:=loc) (cs.toList.take n)
   rwa [show (cs.toList.take n).length = n from by simp; omega] at this
 obtain ⟨j,hj,hm⟩:=appv_end hg hd hdN (n:=none) (by simpa [rmv] using hno) happ
 refine ⟨_,hm,?_⟩
 rw [List.replicate_append_replicate]
 exact hK cs.size j hle hmax (by omega)
theorem raw_slc3 {P:Program} {σ:St} {d:Option Nat} {t e:TypeId} {x h m:Operand} {x' h' m':X} {n len cap k:Nat} {K:St → Prop} (ht:P.underlying t = some (.slice e)) (hsz:(P.info? e).map (·.size) = some 1)
  (hx:cX x = some x') (hh:cX h = some h') (hm:cX m = some m') (h1:(σ.val x').dg = true) (h2:(σ.val h').dg = true) (h3:(σ.val m').dg = true) (hv:(σ.val x').dv = .vw 1 n 0 len cap) (hhv:(σ.val h').dv = .c (.int .i64 k)) (hmv:(σ.val m').dv = .c (.int .i64 k)) (hk:0 < k) (hkc:k ≤ cap)
  (hK:K (σ.put d (.vw 1 n 0 k k))):RawI P d (.raw (.slice t x none (some h) (some m))) K σ:=by
 refine RawI_snd (fun C loc a w o hP ho hg => ?_) hK
 subst hP
 have rx:=vald hg hx h1
 have rh:=vald hg hh h2
 have rm:=vald hg hm h3
 rw [hv] at rx
 rw [hhv] at rh
 rw [hmv] at rm
 simp only [RepA,RepC] at rx rh rm
 obtain ⟨b,o',hloc,hxe,hoo,hlc,hcm⟩:=rx
 have ho':o' = 0:=hoo (by omega)
 subst ho'
 have htt:C.P.underlying t = some (.slice (C.P.elem t)):=by simp [Program.elem,ht]
 have hel:C.P.elem t = e:=by simp [Program.elem,ht]
 have hso:∀ W,(sizeOf (C.P.elem t)).run C.P W = .ok 1 W:=by
  intro W
  rw [hel]
  cases hq:C.P.info? e with
  | none => simp [hq] at hsz
  | some i => simp [hq] at hsz; simp [sizeOf,typeInfo,hq,hsz]
 have hsl:=run_slice_hm (P:=C.P) w t (some ⟨b,0,none⟩) len cap htt .i64 .i64 (k:Int) (k:Int) (by omega) (by omega) (by omega)
 rw [hso] at hsl
 have hne:¬ k = 0:=by omega
 refine ⟨.slice (some ⟨b,0,none⟩) k k,?_,?_⟩
 ·simp [execOp,ho,hxe,rh,rm,run_sliceAt_slice,htt,hsl,Result.andThen,sliced,hne,Addr.add]
 ·simp only [RepA]
  exact ⟨b,0,hloc,rfl,fun _ => rfl,Nat.le_refl _,by omega⟩
theorem raw_copy {P:Program} {σ:St} {d:Option Nat} {dT sT e:TypeId} {x y:Operand} {x' y':X} {n off len cap k:Nat} {cs ys:List AV} {p:Prop} {K:St → Prop} (ht:P.underlying dT = some (.slice e)) (hsz:(P.info? e).map (·.size) = some 1)
  (hx:cX x = some x') (hy:cX y = some y') (h1:(σ.val x').dg = true) (h2:(σ.val y').dg = true) (hv:(σ.val x').dv = .vw 1 n off len cap) (hvc:(σ.val y').dv.vcells σ.own 1 = some (k,ys,p)) (hp:p) (hk:k ≠ 0) (hlen:len ≠ 0) (hown:σ.own n = .box cs) (hfit:off + min k len ≤ cs.length)
  (hK:K (St.put ⟨σ.env,upd σ.own n (.box (splice cs off (ys.take (min k len))))⟩ d (.c (.int .i64 (min k len:Nat))))):RawI P d (.raw (.call { callee:=.builtin .copy,args:=#[x,y],argTypes:=#[dT,sT] })) K σ:=by
 refine RawI_raw fun C loc a w o hP ho hod hdl hg => ?_
 subst hP
 have rx:=vald hg hx h1
 have ry:=vald hg hy h2
 rw [hv] at rx
 simp only [RepA] at rx
 obtain ⟨b,o',hloc,hxe,hoo,hlc,hcm⟩:=rx
 have ho':o' = off:=hoo (by omega)
 subst ho'
 obtain ⟨ad,capy,news,hye,k1,k2,k3,k4⟩:=vcells_sound hg ry hvc hp hk
 rw [Nat.mul_one] at k1
 have hob:=hg.objs n
 rw [hown] at hob
 obtain ⟨b',l,e',hlb,hB,hh,hrs⟩:=hob
 rw [hloc] at hlb
 simp only [Value.pointer.injEq,Option.some.injEq,Addr.mk.injEq,and_true] at hlb
 subst hlb
 have hll:=hrs.length
 have hys:=k3.length
 obtain ⟨us,hus⟩ : ∃ us,us = news.take (min k len):=⟨_,rfl⟩
 have hul:us.length = min k len:=by rw [hus,List.length_take]; omega
 have hl:=run_loadCells_list (P:=C.P) w ad us (fun j u hj => k2 j u (by
  rw [hus,List.getElem?_take] at hj
  split at hj
  ·exact hj
  ·cases hj))
 have hst:=storeCells_F C.P b o' e' us 0 l w hh (by rw [hul]; omega) (fun v hv => k4 v (by rw [hus] at hv; exact List.mem_of_mem_take hv))
 simp only [Nat.add_zero] at hst
 have hrow:(l.take o' ++ us ++ l.drop (o' + us.length)).toArray = (splice l o' us).toArray:=by simp [splice]
 rw [hrow] at hst
 have hrt:∀ (m:Nat) (ys:List AV) (news:List Value),RepAs w (MM C σ.own loc) loc ys news → RepAs w (MM C σ.own loc) loc (ys.take m) (news.take m):=by
  intro m
  induction m with
  | zero => intro ys news _; simp [RepAs]
  | succ m ih =>
   intro ys news h
   cases ys with
   | nil => simp only [RepAs] at h; subst h; simp only [List.take_nil,RepAs]
   | cons y ys =>
    simp only [RepAs] at h
    obtain ⟨v,vs,rfl,e1,e2⟩:=h
    simp only [List.take_succ_cons,RepAs]
    exact ⟨v,_,rfl,e1,ih ys vs e2⟩
 have hry:=hrt (min k len) _ _ k3
 rw [← hus] at hry
 have hfit2:o' + us.length ≤ l.length:=by rw [hul]; omega
 have hG:=hg.setBox (off:=o') hown hloc hB hh hfit2 hrs hry
 refine ⟨_,⟨w.setRow b (splice l o' us).toArray,loc,.inl ⟨.int .i64 (min k len:Nat),?_,?_⟩⟩,hK⟩
 ·cases hq:C.P.info? e with
  | none => simp [hq] at hsz
  | some i =>
   have hi:i.size = 1:=by simpa [hq] using hsz
   have hmin:Nat.min k len = us.length:=hul.symm
   have hcp:(Builtin.copy_ #[dT,sT] o.type #[.slice (some ⟨b,o',none⟩) len cap,.slice (some ad) k capy]).run C.P w = .ok (goInt us.length) (w.setRow b (splice l o' us).toArray):=by
    simp [Builtin.copy_,run_underlying ht,Builtin.lenOf,Builtin.firstCells,sizeOf,typeInfo,hq,hi,hmin,hl,hst]
   simp [execOp,ho,resolve,invoke,builtin,hxe,hye,hcp,hul,goInt]
 ·rw [hod]
  exact hG.put hdl (by simp only [RepA,RepC])
end
end Go.V

/-
 A grid that grows row by row: its rows are objects of a family.
-/
namespace Go.V
mutual
theorem rn_pure (d n:Nat):∀ {x:AV},x.pureB = true → x.rn d n = x
 | .c _,_ => rfl
 | .non,_ => rfl
 | .bp _ _,h => by simp [AV.pureB] at h
 | .gr _,h => by simp [AV.pureB] at h
 | .vw _ _ _ _ _,h => by simp [AV.pureB] at h
 | .agg cs,h => by simp only [AV.pureB] at h; simp only [AV.rn,rnL_pure d n h]
 | .tup cs,h => by simp only [AV.pureB] at h; simp only [AV.rn,rnL_pure d n h]
 | .fn f cs,h => by simp only [AV.pureB] at h; simp only [AV.rn,rnL_pure d n h]
 | .opt g x,h => by simp only [AV.pureB] at h; simp only [AV.rn,rn_pure d n h]
theorem rnL_pure (d n:Nat):∀ {l:List AV},AV.pureL l = true → AV.rnL d n l = l
 | [],_ => rfl
 | a :: l,h => by simp only [AV.pureL,Bool.and_eq_true] at h; simp only [AV.rnL,rn_pure d n h.1,rnL_pure d n h.2]
end
theorem keepE_in {ks:List Nat} {f:Nat → AV} {t:Nat} (h:t ∈ ks):keepE ks f t = f t:=by
 induction ks with
 | nil => cases h
 | cons k ks ih =>
  simp only [keepE,upd]
  split
  ·rename_i e; rw [e]
  ·rename_i e
   rcases List.mem_cons.1 h with rfl | h
   ·exact (e rfl).elim
   ·exact ih h
theorem keepE_out {ks:List Nat} {f:Nat → AV} {t:Nat} (h:t ∉ ks):keepE ks f t = .non:=by
 induction ks with
 | nil => rfl
 | cons k ks ih =>
  simp only [List.mem_cons,not_or] at h
  simp only [keepE,upd,if_neg h.1]
  exact ih h.2
theorem fam_le {α:Type} {b:Nat} {cds:α → List CD} {R:List (Row α)} {f g:Nat → Ob} (h:∀ n,g n = f n ∨ g n = .none):ObjLe (fam b cds R f) (fam b cds R g):=ObjLe_fam h
section
variable {α:Type} {cds:α → List CD} {C:Ctx} {K:St → Prop} {is:List Ins}
def GrowG (b D:Nat) (R:List (Row α)) (y:AV) (x:Ob):Prop :=
 (R = [] ∧ y = .c (.raw (.slice none 0 0)) ∧ x = .none) ∨ (R ≠ [] ∧ ∃ cap j,R.length ≤ cap ∧ cap ≤ maxLen ∧ cap ≤ R.length + j ∧ y = .vw 1 D 0 R.length cap ∧ x = .box (refs b 1 0 R ++ List.replicate j .non))
theorem GrowG.nil (b D:Nat):GrowG b D ([]:List (Row α)) (.c (.raw (.slice none 0 0))) .none:=.inl ⟨rfl,rfl,rfl⟩
theorem GrowG.some {b D:Nat} {R:List (Row α)} (h:R ≠ []) {cap j:Nat} (h1:R.length ≤ cap) (h2:cap ≤ maxLen) (h3:cap ≤ R.length + j):GrowG b D R (.vw 1 D 0 R.length cap) (.box (refs b 1 0 R ++ List.replicate j .non)):=.inr ⟨h,cap,j,h1,h2,h3,rfl,rfl⟩
theorem SOps_addrow {b D E B tr tg e bytes:Nat} {R:List (Row α)} {l:List α} {j cap:Nat} {y:AV} {x:Ob} {env:Nat → AV} {own:Nat → Ob} (ks:List Nat) (hpin:∀ n,¬ C.pin n) (hDE:D ≠ E) (hDB:D ≠ B) (hEB:E ≠ B) (hD:D < b) (hE:E < b) (hB:B < b)
  (htr:env tr = .vw 1 E 0 l.length cap) (htg:env tg = y) (htgB:tg ≠ B) (hg:GrowG b D R y x) (ho:ObjLe own (fam b cds R (upd (upd o0 D x) E (.box (cellsG cds l j)))))
  (hRl:R.length ≤ 1000) (hby:bytes ≤ 100) (hks:(ks.all fun t => (env t).pureB && (t != D && t != B)) = true) (hy:∀ d,y.prg d = y ∨ d = D)
  (hK:∀ cap' j',R.length + 1 ≤ cap' → cap' ≤ maxLen → cap' ≤ R.length + 1 + j' →
   SOps C is K ⟨upd (keepE ks env) D (.vw 1 D 0 (R.length + 1) cap'),fam b cds (R ++ [⟨l,j,cap⟩]) (upd o0 D (.box (refs b 1 0 (R ++ [⟨l,j,cap⟩]) ++ List.replicate j' .non)))⟩) :
  SOps C (⟨some B,.bslv e 1 [.t tr],none,true⟩ :: ⟨some D,.appv e 1 bytes (.t tg) (.t B),none,true⟩ :: is) K ⟨env,own⟩:=by
 have hmax:maxLen = 9223372036854775807:=rfl
 have htrd:(env tr).dg = true:=by rw [htr]; rfl
 have htgd:y.dg = true:=by rcases hg with ⟨_,rfl,_⟩ | ⟨_,_,_,_,_,_,rfl,_⟩ <;> rfl
 have htgv:y.dv = y:=by rcases hg with ⟨_,rfl,_⟩ | ⟨_,_,_,_,_,_,rfl,_⟩ <;> rfl
 obtain ⟨o1,ho1⟩ : ∃ o1,o1 = upd (upd o0 D x) E (.box (cellsG cds l j)):=⟨_,rfl⟩
 rw [← ho1] at ho
 have hx:∀ d,x.prg d = x ∨ d ≥ b:=by
  intro d
  rcases Nat.lt_or_ge d b with h | h
  ·left
   rcases hg with ⟨_,_,rfl⟩ | ⟨_,_,jj,_,_,_,_,rfl⟩
   ·rfl
   ·simp only [Ob.prg,prgL_append,refs_prg h,prg_non]
  ·exact .inr h
 have ho1p:∀ d,d < b → prgO d o1 = o1:=by
  intro d hd
  rw [ho1,prgO_upd,prgO_upd,prgO_o0,(hx d).resolve_right (by omega)]
  simp only [Ob.prg,prg_cellsG]
 refine SOps_weak (Sub_of (σ:=⟨env,own⟩) (σ':=⟨env,fam b cds R o1⟩) (EnvLe.rfl' env) ho C) ?_
 -- the literal
 refine SOps_step ?_
 rw [AStep_S]
 have hoB:fam b cds R o1 B = .none:=by rw [fam_lo hB,ho1]; simp [upd,o0,Ne.symm hDB,Ne.symm hEB]
 have hoE:fam b cds R o1 E = .box (cellsG cds l j):=by rw [fam_lo hE,ho1]; simp [upd]
 have hoD:o1 D = x:=by rw [ho1]; simp [upd,hDE]
 simp only [go_sem,htr,reduceIte,hoE,hoB,Bool.false_eq_true,AV.prg,Ne.symm hEB,hEB,prgO_fam,ho1p B hB]
 have hyB:y.prg B = y:=(hy B).resolve_right (fun h => hDB h.symm)
 have hyE:y.prg E = y:=(hy E).resolve_right (fun h => hDE h.symm)
 have hoD2:upd (fam b cds R o1) B (.box [.vw 1 E 0 l.length cap]) D = x:=by rw [upd_app,if_neg hDB,fam_lo hD,hoD]
 have hoB2:upd (fam b cds R o1) B (.box [.vw 1 E 0 l.length cap]) B = .box [.vw 1 E 0 l.length cap]:=by rw [upd_app,if_pos rfl]
 have htg2:upd (prgE B env) B (.vw 1 B 0 1 1) tg = y:=by rw [upd_app,if_neg htgB,prgE_app,htg,hyB]
 have htB2:upd (prgE B env) B (.vw 1 B 0 1 1) B = .vw 1 B 0 1 1:=by rw [upd_app,if_pos rfl]
 have hfc:∀ (f g:Nat → Ob) (n:Nat),f n = g n → fam b cds R f n = fam b cds R g n:=by
  intro f g n h
  unfold fam
  rw [h]
 have key:∀ (bx z:Ob) (own2:Nat → Ob),own2 = upd (upd (prgO D (fam b cds R o1)) B z) D bx → ObjLe own2 (fam b cds R (upd (upd o0 D bx) E (.box (cellsG cds l j)))):=by
  rintro bx z own2 rfl n
  rw [prgO_fam,ho1p D hD]
  by_cases hn:n = D
  ·subst hn
   left
   rw [fam_lo hD]
   simp [upd,hDE]
  ·by_cases hnB:n = B
   ·subst hnB
    right
    rw [fam_lo hB]
    simp [upd,o0,Ne.symm hDB,Ne.symm hEB]
   ·left
    rw [upd_app,if_neg hn,upd_app,if_neg hnB]
    refine hfc _ _ n ?_
    rw [ho1]
    simp only [upd,if_neg hn]
 -- behind both
 have tail:∀ (cap' j':Nat) (own2:Nat → Ob) (z:AV),R.length + 1 ≤ cap' → cap' ≤ maxLen → cap' ≤ R.length + 1 + j' → ObjLe own2 (fam b cds R (upd (upd o0 D (.box (refs b 1 0 R ++ [.vw 1 E 0 l.length cap] ++ List.replicate j' .non))) E (.box (cellsG cds l j)))) →
   SOps C is K ⟨upd (upd (prgE D (prgE B env)) B z) D (.vw 1 D 0 (R.length + 1) cap'),own2⟩:=by
  intro cap' j' own2 z c1 c2 c3 hle
  have hle2:EnvLe own2 (upd (upd (prgE D (prgE B env)) B z) D (.vw 1 D 0 (R.length + 1) cap')) (upd (keepE ks env) D (.vw 1 D 0 (R.length + 1) cap')):=by
   intro t
   simp only [upd_app]
   split
   ·exact AWk.refl _ _
   ·rename_i htD
    by_cases htk:t ∈ ks
    ·have:=List.all_eq_true.1 hks t htk
     simp only [Bool.and_eq_true,bne_iff_ne,ne_eq] at this
     rw [if_neg this.2.2,keepE_in htk,prgE_app,prgE_app,prg_pure B this.1,prg_pure D this.1]
     exact AWk.refl _ _
    ·rw [keepE_out htk]; exact .inl rfl
  refine SOps_weak (Sub_of (σ:=⟨_,own2⟩) (σ':=⟨upd (keepE ks env) D (.vw 1 D 0 (R.length + 1) cap'),fam b cds R (upd (upd o0 D (.box (refs b 1 0 R ++ [.vw 1 E 0 l.length cap] ++ List.replicate j' .non))) E (.box (cellsG cds l j)))⟩) hle2 hle C) ?_
  have hEn:E ≠ R.length + b:=by omega
  refine SOps_weak (fun a w hg => Gam_move (d:=E) (n:=R.length + b) hEn (hpin _) ?_ hg) ?_
  ·show fam b cds R _ (R.length + b) = .none
   rw [fam_hi (Nat.le_refl _)]
   simp only [upd_app]
   rw [if_neg (by omega),if_neg (by omega)]
   rfl
  show SOps C is K ⟨rnE E (R.length + b) _,rnO E (R.length + b) (fam b cds R _)⟩
  rw [rnO_fam hE ⟨l,j,cap⟩ (by simp [upd_app,Row.ob])]
  have henv:rnE E (R.length + b) (upd (keepE ks env) D (.vw 1 D 0 (R.length + 1) cap')) = upd (keepE ks env) D (.vw 1 D 0 (R.length + 1) cap'):=by
   rw [rnE_upd]
   have e1:(AV.vw 1 D 0 (R.length + 1) cap').rn E (R.length + b) = .vw 1 D 0 (R.length + 1) cap':=by
    simp only [AV.rn]; rw [if_neg hDE,if_neg (by omega)]
   rw [e1]
   congr 1
   funext t
   rw [rnE_app]
   by_cases htk:t ∈ ks
   ·have:=List.all_eq_true.1 hks t htk
    simp only [Bool.and_eq_true] at this
    rw [keepE_in htk,rn_pure _ _ this.1]
   ·rw [keepE_out htk]; rfl
  rw [henv]
  refine SOps_weak (σ':=⟨upd (keepE ks env) D (.vw 1 D 0 (R.length + 1) cap'),fam b cds (R ++ [⟨l,j,cap⟩]) (upd o0 D (.box (refs b 1 0 (R ++ [⟨l,j,cap⟩]) ++ List.replicate j' .non)))⟩) ?_ (hK cap' j' c1 c2 c3)
  intro a w hg
  refine Sub_of ?_ ?_ C a w hg
  ·exact EnvLe.rfl' _
  refine fam_le fun n => ?_
  by_cases hn:n = D
  ·subst hn
   left
   simp only [upd_app,if_true,rnP_app',if_neg hDE,Ob.rn]
   congr 1
   rw [refs_snoc,rnL_append,rnL_append,refs_rn hE R 0 (by omega),rn_non,Nat.add_zero]
   congr 2
   simp [AV.rnL,AV.rn]
  ·right
   rw [upd_app,if_neg hn]; rfl
 refine SOps_step ?_
 rw [AStep_S]
 have hmb:(R.length + 1) * bytes ≤ 1001 * 100:=Nat.mul_le_mul (by omega) hby
 rcases hg with ⟨rfl,rfl,rfl⟩ | ⟨hR,c0,j0,q1,q2,q3,rfl,rfl⟩
 ·simp only [go_sem,htg2,htB2,hoB2,hoD2,reduceIte]
  refine ⟨by omega,by simp only [List.length_nil] at hmb; omega,?_⟩
  rw [if_neg (by decide)]
  intro cap' j' c1 c2 c3
  refine tail cap' j' _ _ (by simpa using c1) c2 (by simp; omega) (key _ (.box [if E = D then AV.non else AV.vw 1 E 0 l.length cap]) _ ?_)
  rw [if_neg (fun h => hDE h.symm),prg_non]
  rfl
 ·simp only [go_sem,htg2,htB2,hoB2,hoD2,reduceIte]
  refine ⟨by rw [refs_len,List.length_replicate]; omega,by omega,by omega,?_⟩
  rw [if_neg (by decide)]
  intro cap' j' c1 c2 c3
  refine tail cap' j' _ _ c1 c2 (by omega) (key _ (.box [if E = D then AV.non else AV.vw 1 E 0 l.length cap]) _ ?_)
  rw [refs_take,prgL_append,prgL_append,refs_prg hD,prg_non]
  simp only [AV.prgL,AV.prg,if_neg (fun h:E = D => hDE h.symm)]
  funext n
  simp only [upd]
  split <;> rfl
end
end Go.V

/-
 A grid that has grown is lent.
-/
namespace Go.V
section
variable {α:Type} {cds:α → List CD} {C:Ctx} {K:St → Prop} {is:List Ins} {Q:Exit → St → Prop} {v:VC}
theorem rn_boxO (d n:Nat) (cs:List AV):(Ob.box cs).rn d n = .box (AV.rnL d n cs):=rfl
theorem refs_rn1000 {D:Nat} (h:D < 1000):∀ (R:List (Row α)) (k:Nat),AV.rnL D 1000 (refs 1001 1 k R) = refs 1001 1 k R
 | [],k => rfl
 | r :: R,k => by
  simp only [refs,AV.rnL,AV.rn,refs_rn1000 h R (k + 1)]
  rw [if_neg (by omega),if_neg (by omega)]
theorem Gam_grown {D t:Nat} {R:List (Row α)} {cap j:Nat} {env:Nat → AV} (ks:List Nat) (hD:D < 1000) (hpin:∀ n,¬ C.pin n) (ht:env t = .vw 1 D 0 R.length cap) (hks:(ks.all fun t => (env t).pureB) = true) :
  ∀ a w,Gam C ⟨env,fam 1001 cds R (upd o0 D (.box (refs 1001 1 0 R ++ List.replicate j .non)))⟩ a w → Gam C ⟨upd (keepE ks env) t (.vw 1 1000 0 R.length cap),gown cds 1 R j o0⟩ a w:=by
 intro a w hg
 have e0:(fam 1001 cds R (upd o0 D (.box (refs 1001 1 0 R ++ List.replicate j .non)))) 1000 = .none:=by
  rw [fam_lo (by decide),upd_app,if_neg (by omega)]; rfl
 have h1:=Gam_move (d:=D) (n:=1000) (by omega) (hpin _) e0 hg
 refine Sub_of (σ':=⟨upd (keepE ks env) t (.vw 1 1000 0 R.length cap),gown cds 1 R j o0⟩) ?_ ?_ C a w h1
 ·intro s
  show AWk _ (rnE D 1000 env s) (upd (keepE ks env) t (.vw 1 1000 0 R.length cap) s)
  rw [rnE_app,upd_app]
  split
  ·rename_i e
   subst e
   rw [ht]
   exact AWk.of (by simp [AV.rn])
  ·by_cases hk:s ∈ ks
   ·rw [keepE_in hk,rn_pure _ _ (List.all_eq_true.1 hks s hk)]
    exact AWk.refl _ _
   ·rw [keepE_out hk]; exact .inl rfl
 ·show ObjLe (rnO D 1000 (fam 1001 cds R _)) (fam 1001 cds R _)
  unfold rnO
  rw [rnP_fam,fam_lo (by omega),upd_app,if_pos rfl,fam_upd (by decide),fam_upd (by omega)]
  refine ObjLe_fam fun n => ?_
  by_cases h1:n = 1000
  ·subst h1
   left
   simp only [upd_app,if_true]
   rw [if_neg (by omega)]
   simp only [Ob.rn,gridOb,rnL_append,refs_rn1000 hD,rn_non]
  ·right
   rw [upd_app,if_neg h1]; rfl
theorem WV_grown {D t:Nat} {R:List (Row α)} {cap j:Nat} {env:Nat → AV} (ks:List Nat) (hD:D < 1000) (hpin:∀ n,¬ C.pin n) (ht:env t = .vw 1 D 0 R.length cap) (hks:(ks.all fun t => (env t).pureB) = true)
  (h:WV C v Q ⟨upd (keepE ks env) t (.vw 1 1000 0 R.length cap),gown cds 1 R j o0⟩):WV C v Q ⟨env,fam 1001 cds R (upd o0 D (.box (refs 1001 1 0 R ++ List.replicate j .non)))⟩:=WV_weak (Gam_grown ks hD hpin ht hks) h
theorem refs_rnlo {b d n:Nat} (hb:d < b) (hn:n < b):∀ (S:List (Row α)) (k:Nat),AV.rnL d n (refs b 1 k S) = refs b 1 k S
 | [],k => rfl
 | r :: S,k => by
  have e1:¬ k + b = d:=by omega
  have e2:¬ k + b = n:=by omega
  simp only [refs,AV.rnL,AV.rn,if_neg e1,if_neg e2,refs_rnlo hb hn S (k + 1)]
theorem WV_regrow {b D D' t:Nat} {R:List (Row α)} {x:Ob} {env:Nat → AV} (ks:List Nat) (hDb:D < b) (hDb':D' < b) (hne:D ≠ D') (hpin:∀ n,¬ C.pin n) (hg:GrowG b D R (env t) x) (hks:(ks.all fun t => (env t).pureB) = true)
  (h:∀ y' x',GrowG b D' R y' x' → WV C v Q ⟨upd (keepE ks env) t y',fam b cds R (upd o0 D' x')⟩):WV C v Q ⟨env,fam b cds R (upd o0 D x)⟩:=by
 rcases hg with ⟨rfl,hy,rfl⟩ | ⟨hR,cap,j,h1,h2,h3,hy,rfl⟩
 ·refine WV_sub (σ':=⟨upd (keepE ks env) t (.c (.raw (.slice none 0 0))),fam b cds [] (upd o0 D' .none)⟩) (Sub_of ?_ ?_) (h _ _ (GrowG.nil _ _))
  ·exact EnvLe_upd (AWk.of hy) (EnvLe_keep env ks)
  ·show ObjLe (fam b cds [] (upd o0 D .none)) (fam b cds [] (upd o0 D' .none))
   refine ObjLe_fam fun n => ?_
   right
   simp only [upd_app]
   split <;> rfl
 ·refine WV_weak (fun a w hg => Gam_move (d:=D) (n:=D') hne (hpin _) ?_ hg) ?_
  ·show fam b cds R (upd o0 D (.box (refs b 1 0 R ++ List.replicate j .non))) D' = .none
   rw [fam_lo hDb',upd_app,if_neg (Ne.symm hne)]; rfl
  refine WV_sub (σ':=⟨upd (keepE ks env) t (.vw 1 D' 0 R.length cap),fam b cds R (upd o0 D' (.box (refs b 1 0 R ++ List.replicate j .non)))⟩) (Sub_of ?_ ?_) (h _ _ (GrowG.some hR h1 h2 h3))
  ·intro s
   show AWk _ (rnE D D' env s) (upd (keepE ks env) t (.vw 1 D' 0 R.length cap) s)
   rw [rnE_app,upd_app]
   split
   ·rename_i e
    subst e
    rw [hy]
    exact AWk.of (by simp [AV.rn])
   ·by_cases hk:s ∈ ks
    ·rw [keepE_in hk,rn_pure _ _ (List.all_eq_true.1 hks s hk)]
     exact AWk.refl _ _
    ·rw [keepE_out hk]; exact .inl rfl
  ·show ObjLe (rnO D D' (fam b cds R _)) (fam b cds R _)
   unfold rnO
   rw [rnP_fam,fam_lo hDb,upd_app,if_pos rfl,fam_upd hDb',fam_upd hDb]
   refine ObjLe_fam fun n => ?_
   by_cases h1:n = D'
   ·subst h1
    left
    simp only [upd_app,if_true]
    rw [if_neg (Ne.symm hne)]
    simp only [Ob.rn,rnL_append,refs_rnlo hDb hDb',rn_non]
   ·right
    rw [upd_app,if_neg h1]; rfl
theorem GrowG.dg {b D:Nat} {R:List (Row α)} {y:AV} {x:Ob} (h:GrowG b D R y x):y.dg = true ∧ y.dv = y:=by
 rcases h with ⟨_,rfl,_⟩ | ⟨_,_,_,_,_,_,rfl,_⟩ <;> exact ⟨rfl,rfl⟩
theorem GrowG.prg {b D:Nat} {R:List (Row α)} {y:AV} {x:Ob} (h:GrowG b D R y x) {d:Nat} (hd:d ≠ D) (hb:d < b):y.prg d = y ∧ x.prg d = x:=by
 rcases h with ⟨_,rfl,rfl⟩ | ⟨_,_,_,_,_,_,rfl,rfl⟩
 ·exact ⟨rfl,rfl⟩
 ·refine ⟨?_,?_⟩
  ·simp only [AV.prg]; rw [if_neg (fun h => hd h.symm)]
  ·simp only [Ob.prg,prgL_append,refs_prg hb,prg_non]
theorem GrowG.rn {b D:Nat} {R:List (Row α)} {y:AV} {x:Ob} (h:GrowG b D R y x) {d n:Nat} (hd:d ≠ D) (hn:n ≠ D) (hb:d < b) (hnb:n < b):y.rn d n = y ∧ x.rn d n = x:=by
 rcases h with ⟨_,rfl,rfl⟩ | ⟨_,_,_,_,_,_,rfl,rfl⟩
 ·exact ⟨rfl,rfl⟩
 ·refine ⟨?_,?_⟩
  ·simp only [AV.rn]; rw [if_neg (fun h => hd h.symm),if_neg (fun h => hn h.symm)]
  ·have hr:∀ (S:List (Row α)) (k:Nat),AV.rnL d n (refs b 1 k S) = refs b 1 k S:=by
    intro S
    induction S with
    | nil => intro k; rfl
    | cons r S ih =>
     intro k
     have e1:¬ k + b = d:=by omega
     have e2:¬ k + b = n:=by omega
     simp only [refs,AV.rnL,AV.rn,if_neg e1,if_neg e2,ih]
   simp only [Ob.rn,rnL_append,hr,rn_non]
theorem GrowG.any {b D:Nat} {R:List (Row α)} {y:AV} {x:Ob} (h:GrowG b D R y x):∀ d,y.prg d = y ∨ d = D:=by
 intro d
 by_cases hd:d = D
 ·exact .inr hd
 ·rcases h with ⟨_,rfl,_⟩ | ⟨_,_,_,_,_,_,rfl,_⟩
  ·exact .inl rfl
  ·left; simp only [AV.prg]; rw [if_neg (fun h => hd h.symm)]
end
end Go.V

/-
 A grid of any kind of cells: handed out by a call,and turned into data.
-/
namespace Go.V
section
variable {α:Type} {cds:α → List CD} {C:Ctx} {Q:Exit → St → Prop} {K:St → Prop} {is:List Ins}
end
end Go.V

/-
 Arrays by value: built,and an element taken.
-/
namespace Go.V
theorem raw_bldA {P:Program} {σ:St} {d:Option Nat} {t e:TypeId} {n sz:Nat} {parts:Array (Nat × Operand)} {z:List AV} {ps:List (Nat × Nat × X)} {p:Prop} {r:List AV} {K:St → Prop} (hu:P.underlying t = some (.array n e)) (hs:sizeB P e = some sz) (hz:zeroB P t = some z)
  (h1:(parts.toList.map fun (x:Nat × Operand) => x.2).mapM cX = some (ps.map fun x => x.2.2)) (h2:∀ (i:Nat) (q:Nat × Operand),parts.toList[i]? = some q → ∃ r:Nat × Nat × X,ps[i]? = some r ∧ some (q.1 * sz,sz) = some (r.1,r.2.1))
  (hb:bldGo σ ps z = some (p,r)) (hp:p) (hK:K (σ.put d (.agg r))):RawI P d (.raw (.build t parts)) K σ:=by
 refine RawI_snd (fun C loc a w o hP ho hg => ?_) hK
 subst hP
 obtain ⟨it,zv,hit,hzv,hone,rfl⟩:=zeroB_spec hz
 obtain ⟨arr',hf,hr⟩:=bld_sound hg (fun i => some (i * sz,sz)) parts.toList ps _ zv.cells h1 h2 hb hp (cdOfValue_reps w _ loc _ hone)
 have hie:∃ ie,C.P.info? e = some ie ∧ ie.size = sz:=by
  unfold sizeB at hs
  simpa using hs
 obtain ⟨ie,hie,rfl⟩:=hie
 have hbuilt:C.P.built t (parts.map fun (i,x) => (i,a.eval x)).toList = some arr':=by
  unfold Program.built
  simp only [hit,hu,hzv,hie]
  simpa using hf
 exact ⟨.agg arr',by simp [execOp,ho,run_build w t _ arr' hbuilt],by simp only [RepA]; exact ⟨arr'.toList,by simp,hr⟩⟩
theorem raw_idxA {P:Program} {σ:St} {d:Option Nat} {t e:TypeId} {n sz:Nat} {x i:Operand} {x' i':X} {k:IntKind} {j:Int} {cs:List AV} {K:St → Prop} (hu:P.underlying t = some (.array n e)) (ha:isAggB P e = some true) (hs:sizeB P e = some sz)
  (hx:cX x = some x') (hi:cX i = some i') (h1:(σ.val x').dg = true) (h2:(σ.val i').dg = true) (hv:(σ.val x').dv = .agg cs) (hj:(σ.val i').dv = .c (.int k j)) (hr:0 ≤ j ∧ j < n)
  (hK:K (σ.put d (.agg ((cs.drop (j.toNat * sz)).take sz)))):RawI P d (.raw (.index t x i)) K σ:=by
 refine RawI_snd (fun C loc a w o hP ho hg => ?_) hK
 subst hP
 have rx:=vald hg hx h1
 have ri:=vald hg hi h2
 rw [hv] at rx
 rw [hj] at ri
 simp only [RepA,RepC] at rx ri
 obtain ⟨l,ex,hrs⟩:=rx
 have hs0:=hs
 have hie:∃ ie,C.P.info? e = some ie ∧ ie.size = sz:=by
  unfold sizeB at hs0
  simpa using hs0
 obtain ⟨ie,hie,hsz⟩:=hie
 have hsr:(sizeOf e).run C.P w = .ok sz w:=by simp [sizeOf,typeInfo,hie,hsz]
 refine ⟨.agg (l.toArray.extract (j.toNat * sz) (j.toNat * sz + sz)),?_,?_⟩
 ·simp [execOp,ho,ex,ri,Instr.index,run_underlying hu,asIntOf,hr.1,hr.2,hsr,run_part_agg (w:=w) ha hs]
 ·simp only [RepA]
  refine ⟨(l.drop (j.toNat * sz)).take sz,?_,(hrs.drop _).take _⟩
  simp
end Go.V

/-
 An object takes another's place,also the place of one that is lent.
-/
namespace Go.V
theorem WV_moveP {C:Ctx} {Q:Exit → St → Prop} {x:VC} {env:Nat → AV} {own:Nat → Ob} (d n:Nat) (hdn:d ≠ n) (hp:¬ C.pin n) (hn:own n = .none) (h:WV C x Q ⟨rnE d n env,rnO d n own⟩):WV C x Q ⟨env,own⟩ :=
 WV_weak (fun _ _ hg => Gam_move hdn hp hn hg) h
end Go.V

/-
 An array of data that a loop's rounds make,held as one object and known by its address; taken and given again.
-/
namespace Go.V
section
variable {τ:Type}
def noLoc:Nat → Value:=fun _ => undef
def arrJ (F:τ → List CD) (sz:Nat) (l:List τ) (arr:Option Value) (rem:List Ent) (L:List Nat) (M:Nat → Nat → Prop) (w:World):Prop :=
 rem = [] ∧ match arr with
  | none => L = []
  | some v => ∃ g cap j lv ty,v = .slice (some ⟨g,0,none⟩) l.length cap ∧ L = [g] ∧ AtC w g lv ty ∧ RepAs w M noLoc (cellsG F l j) lv ∧ l.length ≤ cap ∧ cap ≤ maxLen ∧ cap * sz ≤ l.length * sz + j
def gA (F:τ → List CD) (sz:Nat) (l:List τ) (arr:Option Value):Gst:=⟨.bool false,arrJ F sz l arr⟩
def harr (F:τ → List CD) (sz:Nat) (l:List τ) (arr:Option Value):Ob:=.guest (gA F sz l arr) []
theorem gA_ok (P:Program) (F:τ → List CD) (sz:Nat) (l:List τ) (arr:Option Value):(gA F sz l arr).Ok P:=by
 refine ⟨rfl,?_,?_⟩
 ·rintro rem L M w M' w' ⟨h1,h2⟩ hk hb hs
  refine ⟨h1,?_⟩
  cases arr with
  | none => exact h2
  | some v =>
   obtain ⟨g,cap,j,lv,ty,k1,k2,k3,k4,k5⟩:=h2
   exact ⟨g,cap,j,lv,ty,k1,k2,k3.trans (hb g (by rw [k2]; simp)),RepAs.keep hk _ _ k4,k5⟩
 ·rintro args wins r rem L M w loc vs ⟨h1,_⟩
  cases h1
theorem pureL_cellsG (F:τ → List CD) (l:List τ) (j:Nat):AV.pureL (cellsG F l j) = true:=by
 unfold cellsG
 generalize flatG F l = ds
 induction ds with
 | nil =>
  induction j with
  | zero => rfl
  | succ j ih => simpa [List.replicate_succ,AV.pureL,AV.pureB] using ih
 | cons d ds ih => simpa [AV.pureL,AV.pureB] using ih
end
section
variable {C:Ctx} {σ:St} {τ:Type} {F:τ → List CD} {sz:Nat}
theorem Gam_hold0A {f:Nat} (hn:σ.own f = .none) (hp:¬ C.pin f):∀ a w,Gam C σ a w → Gam C ⟨prgE f σ.env,upd (prgO f σ.own) f (harr F sz [] none)⟩ a w:=by
 rintro a w ⟨loc,hg⟩
 have h1:=hg.forget hn hp
 have hl:∀ m,(upd loc f undef m).oneCell' = true → upd loc f (encV []) m = upd loc f undef m:=by
  intro m hm
  by_cases e:m = f
  ·subst e; simp [upd] at hm; cases hm
  ·simp [upd,e]
 have hfo:∀ m b,(upd (prgO f σ.own) f (harr F sz [] none) m).has (upd loc f (encV []) m) b → (prgO f σ.own m).has (upd loc f undef m) b:=by
  intro m b h
  by_cases e':m = f
  ·subst e'
   simp only [upd,if_true,harr,Ob.has,footV_encV] at h
   cases h
  ·simp only [upd,e',if_false] at h ⊢
   exact h
 refine ⟨upd loc f (encV []),h1.reown (fun n hn' => ?_) (fun t => RepA.reloc hl (h1.slots t)) (fun b o hm => ?_) (fun b ⟨n,h⟩ => ⟨n,hfo n b h⟩) (fun n => ?_) (fun n m b hnm k1 k2 => h1.disj n m b hnm (hfo n b k1) (hfo m b k2))⟩
 ·have:n ≠ f:=fun e => hp (e ▸ hn')
  simp [upd,this]
 ·obtain ⟨n,h⟩:=hm
  by_cases e':n = f
  ·subst e'
   simp only [upd,if_true,harr,Ob.mut,footV_encV] at h
   cases h
  ·exact ⟨n,by simp only [upd,e',if_false] at h ⊢; exact h⟩
 ·by_cases e':n = f
  ·subst e'
   simp only [upd,if_true]
   exact ⟨gA_ok _ _ _ _ _,[],rfl,⟨rfl,rfl⟩,fun b hb => by cases hb⟩
  ·have:=h1.objs n
   simp only [upd,e',if_false] at this ⊢
   exact ObOk.reloc (loc:=upd loc f undef) hl this
theorem Gam_takeA {f d t:Nat} {l:List τ} {v:Value} (hfd:f ≠ d) (hof:σ.own f = harr F sz l (some v)) (hod:σ.own d = .none) (hpd:¬ C.pin d) (ht:σ.env t = .c (.raw v)) :
  ∀ a w,Gam C σ a w → ∃ cap j,l.length ≤ cap ∧ cap ≤ maxLen ∧ cap * sz ≤ l.length * sz + j ∧ Gam C ⟨upd (prgE d σ.env) t (.vw sz d 0 l.length cap),upd (upd (prgO d σ.own) d (.box (cellsG F l j))) f (harr F sz l none)⟩ a w:=by
 rintro a w ⟨loc0,hg0⟩
 have hg:=hg0.forget hod hpd
 obtain ⟨loc,hloc⟩ : ∃ loc,loc = upd loc0 d undef:=⟨_,rfl⟩
 obtain ⟨ρ,hτ⟩ : ∃ ρ:St,ρ = ⟨prgE d σ.env,prgO d σ.own⟩:=⟨_,rfl⟩
 rw [← hloc,← hτ] at hg
 have hd0:loc d = undef:=by rw [hloc]; simp [upd]
 have hof':ρ.own f = harr F sz l (some v):=by rw [hτ]; show (σ.own f).prg d = _; rw [hof]; rfl
 have hod':ρ.own d = .none:=by rw [hτ]; show (σ.own d).prg d = _; rw [hod]; rfl
 have h2:=hg.objs f
 rw [hof'] at h2
 obtain ⟨_,Lg,m1,⟨_,g,cap,j,lv,ty,q1,q2,q3,q3',q4,q5,q6⟩,m6⟩:=h2
 subst q2
 have hbf:∀ x,(ρ.own f).has (loc f) x ↔ x = g:=fun x => by rw [hof',m1]; simp only [harr,Ob.has,footV_encV,List.mem_singleton]
 refine ⟨cap,j,q4,q5,q6,?_⟩
 obtain ⟨own',hown'⟩ : ∃ own',own' = upd (upd (prgO d σ.own) d (.box (cellsG F l j))) f (harr F sz l none):=⟨_,rfl⟩
 rw [← hown']
 have hτo:ρ.own = prgO d σ.own:=by rw [hτ]
 have hτe:ρ.env = prgE d σ.env:=by rw [hτ]
 rw [← hτe]
 obtain ⟨loc',hloc'⟩ : ∃ loc',loc' = upd (upd loc d (.pointer (some ⟨g,0,none⟩))) f (encV []):=⟨_,rfl⟩
 have hf1:loc' f = encV []:=by rw [hloc']; simp [upd]
 have hfd1:loc' d = .pointer (some ⟨g,0,none⟩):=by rw [hloc']; simp [upd,Ne.symm hfd]
 have hf2:∀ n,n ≠ f → n ≠ d → loc' n = loc n:=fun n h1 h2 => by rw [hloc']; simp [upd,h1,h2]
 have ho1:own' f = harr F sz l none:=by rw [hown']; simp [upd]
 have ho2:own' d = .box (cellsG F l j):=by rw [hown']; simp [upd,Ne.symm hfd]
 have ho3:∀ n,n ≠ f → n ≠ d → own' n = ρ.own n:=fun n h1 h2 => by rw [hown',hτo]; simp [upd,h1,h2]
 have hl:∀ n,(loc n).oneCell' = true → loc' n = loc n:=fun n hn => by
  by_cases e1:n = f
  ·subst e1; rw [m1,encV_one] at hn; cases hn
  ·by_cases e2:n = d
   ·subst e2; rw [hd0] at hn; cases hn
   ·exact hf2 n e1 e2
 have hbd:∀ x,(own' d).has (loc' d) x ↔ x = g:=fun x => by rw [ho2,hfd1]; exact ⟨fun h => h.symm,fun h => h.symm⟩
 have hhas:∀ n x,(own' n).has (loc' n) x → (n ≠ f ∧ n ≠ d ∧ (ρ.own n).has (loc n) x) ∨ (n = d ∧ x = g):=by
  intro n x h
  by_cases e1:n = f
  ·subst e1
   rw [ho1,hf1] at h
   simp only [harr,Ob.has,footV_encV] at h
   cases h
  ·by_cases e2:n = d
   ·subst e2; exact .inr ⟨rfl,(hbd x).1 h⟩
   ·refine .inl ⟨e1,e2,?_⟩
    rw [ho3 n e1 e2,hf2 n e1 e2] at h; exact h
 refine ⟨loc',hg.reown (fun n hn => hf2 n (fun e => hold_nopin hg m1 (e ▸ hn)) (fun e => hpd (e ▸ hn))) (fun s => ?_) (fun x y hm => ?_) (fun x ⟨n,h⟩ => ?_) (fun n => ?_) (fun n m x hnm h1 h2 => ?_)⟩
 ·by_cases e:s = t
  ·subst e
   have h3:=hg.slots s
   have e3:ρ.env s = .c (.raw v):=by rw [hτe]; show (σ.env s).prg d = _; rw [ht]; rfl
   rw [e3] at h3
   simp only [RepA,RepC] at h3
   simp only [upd,if_true,RepA]
   exact ⟨g,0,hfd1,by rw [h3.1,q1],fun _ => rfl,q4,q5⟩
  ·simp only [upd,e,if_false]
   exact RepA.reloc hl (hg.slots s)
 ·obtain ⟨n,h⟩:=hm
  rcases hhas n x (Ob.has_of_mut h) with ⟨e1,e2,_⟩ | ⟨rfl,hx⟩
  ·rw [ho3 n e1 e2,hf2 n e1 e2] at h
   exact ⟨n,h⟩
  ·exact ⟨f,by rw [hof',m1]; simp only [harr,Ob.mut,footV_encV,List.mem_singleton]; exact hx⟩
 ·rcases hhas n x h with ⟨_,_,h'⟩ | ⟨rfl,hx⟩
  ·exact ⟨n,h'⟩
  ·exact ⟨f,(hbf x).2 hx⟩
 ·by_cases e1:n = f
  ·subst e1
   rw [ho1,hf1]
   exact ⟨gA_ok _ _ _ _ _,[],rfl,⟨rfl,rfl⟩,fun x hx => by cases hx⟩
  ·by_cases e2:n = d
   ·subst e2
    rw [ho2,hfd1]
    refine ⟨g,lv,ty,rfl,(m6 g (by simp)).2,q3,pures_loc (pureL_cellsG _ _ _) q3'⟩
   ·rw [ho3 n e1 e2,hf2 n e1 e2]
    exact ObOk.reloc hl (hg.objs n)
 ·have hne:∀ n,n ≠ f → (ρ.own n).has (loc n) g → False:=fun n hn h => hg.disj n f g hn h ((hbf g).2 rfl)
  rcases hhas n x h1 with ⟨a1,a2,h1'⟩ | ⟨a1,hx⟩ <;> rcases hhas m x h2 with ⟨b1,b2,h2'⟩ | ⟨b1,hy⟩
  ·exact hg.disj n m x hnm h1' h2'
  ·exact hne n a1 (hy ▸ h1')
  ·exact hne m b1 (hx ▸ h2')
  ·exact hnm (a1.trans b1.symm)
theorem Gam_giveA {f d t j cap:Nat} {l l0:List τ} (hfd:f ≠ d) (hof:σ.own f = harr F sz l0 none) (hod:σ.own d = .box (cellsG F l j)) (ht:σ.env t = .vw sz d 0 l.length cap) (hpos:0 < l.length) (hcap:cap * sz ≤ l.length * sz + j) :
  ∀ a w,Gam C σ a w → ∃ v,Gam C ⟨upd σ.env t (.c (.raw v)),upd (upd σ.own d .none) f (harr F sz l (some v))⟩ a w:=by
 rintro a w ⟨loc,hg⟩
 have h1:=hg.objs d
 rw [hod] at h1
 obtain ⟨b,lv,ty,k1,k2,k3,k4⟩:=h1
 have h2:=hg.objs f
 rw [hof] at h2
 obtain ⟨_,Lg,m1,⟨_,m3⟩,m6⟩:=h2
 simp only at m3
 subst m3
 have h3:=hg.slots t
 rw [ht] at h3
 simp only [RepA] at h3
 obtain ⟨b',o,q1,q2,q3,q4,q5⟩:=h3
 rw [k1] at q1
 simp only [Value.pointer.injEq,Option.some.injEq,Addr.mk.injEq,and_true] at q1
 subst q1
 have ho0:o = 0:=q3 (by omega)
 subst ho0
 have hbd:∀ x,(σ.own d).has (loc d) x ↔ b = x:=fun x => by rw [hod,k1]; exact Iff.rfl
 refine ⟨.slice (some ⟨b,0,none⟩) l.length cap,?_⟩
 obtain ⟨own',hown'⟩ : ∃ own',own' = upd (upd σ.own d .none) f (harr F sz l (some (.slice (some ⟨b,0,none⟩) l.length cap))):=⟨_,rfl⟩
 rw [← hown']
 obtain ⟨loc',hloc'⟩ : ∃ loc',loc' = upd loc f (encV [b]):=⟨_,rfl⟩
 have hf1:loc' f = encV [b]:=by rw [hloc']; simp [upd]
 have hf2:∀ n,n ≠ f → loc' n = loc n:=fun n hn => by rw [hloc']; simp [upd,hn]
 have ho1:own' f = harr F sz l (some (.slice (some ⟨b,0,none⟩) l.length cap)):=by rw [hown']; simp [upd]
 have ho2:own' d = .none:=by rw [hown']; simp [upd,Ne.symm hfd]
 have ho3:∀ n,n ≠ f → n ≠ d → own' n = σ.own n:=fun n h1 h2 => by rw [hown']; simp [upd,h1,h2]
 have hl:∀ n,(loc n).oneCell' = true → loc' n = loc n:=fun n hn => by
  by_cases e:n = f
  ·subst e; rw [m1,encV_one] at hn; cases hn
  ·exact hf2 n e
 have hhas:∀ n x,(own' n).has (loc' n) x → (n ≠ d ∧ n ≠ f ∧ (σ.own n).has (loc n) x) ∨ (n = f ∧ x = b):=by
  intro n x h
  by_cases e:n = f
  ·subst e
   rw [ho1,hf1] at h
   simp only [harr,Ob.has,footV_encV,List.mem_singleton] at h
   exact .inr ⟨rfl,h⟩
  ·by_cases e2:n = d
   ·subst e2; rw [ho2] at h; exact (Ob.has_none _ _ h).elim
   ·rw [ho3 n e e2,hf2 n e] at h
    exact .inl ⟨e2,e,h⟩
 refine ⟨loc',hg.reown (fun n hn => hf2 n fun e => hold_nopin hg m1 (e ▸ hn)) (fun s => ?_) (fun x y hm => ?_) (fun x ⟨n,h⟩ => ?_) (fun n => ?_) (fun n m x hnm h1 h2 => ?_)⟩
 ·by_cases e:s = t
  ·subst e
   simp only [upd,if_true,RepA,RepC]
   exact ⟨q2,rfl⟩
  ·simp only [upd,e,if_false]
   exact RepA.reloc hl (hg.slots s)
 ·obtain ⟨n,h⟩:=hm
  by_cases e:n = f
  ·subst e
   rw [ho1,hf1] at h
   simp only [harr,Ob.mut,footV_encV,List.mem_singleton] at h
   subst h
   exact ⟨d,by rw [hod,k1]; rfl⟩
  ·by_cases e2:n = d
   ·subst e2; rw [ho2] at h; exact (Ob.has_none _ _ (Ob.has_of_mut h)).elim
   ·rw [ho3 n e e2,hf2 n e] at h
    exact ⟨n,h⟩
 ·rcases hhas n x h with ⟨_,_,h'⟩ | ⟨_,rfl⟩
  ·exact ⟨n,h'⟩
  ·exact ⟨d,(hbd _).2 rfl⟩
 ·by_cases e:n = f
  ·subst e
   rw [ho1,hf1]
   refine ⟨gA_ok _ _ _ _ _,[b],rfl,⟨rfl,b,cap,j,lv,ty,rfl,rfl,k3,pures_loc (pureL_cellsG _ _ _) k4,q4,q5,hcap⟩,fun x hx => ?_⟩
   simp only [List.mem_singleton] at hx
   subst hx
   exact ⟨k3.lt,k2⟩
  ·by_cases e2:n = d
   ·subst e2; rw [ho2]; trivial
   ·rw [ho3 n e e2,hf2 n e]
    exact ObOk.reloc hl (hg.objs n)
 ·rcases hhas n x h1 with ⟨n1,n2,h1'⟩ | ⟨a1,a2⟩ <;> rcases hhas m x h2 with ⟨m1',m2',h2'⟩ | ⟨b1,b2⟩
  ·exact hg.disj n m x hnm h1' h2'
  ·exact hg.disj n d x n1 h1' ((hbd x).2 b2.symm)
  ·exact hg.disj m d x m1' h2' ((hbd x).2 a2.symm)
  ·exact hnm (a1.trans b1.symm)
end
section
variable {C:Ctx} {σ:St} {K:St → Prop} {is:List Ins} {Q:Exit → St → Prop} {τ:Type} {F:τ → List CD} {sz:Nat}
theorem WV_hold0A {v:VC} (F:τ → List CD) (sz:Nat) (f:Nat) (hn:σ.own f = .none) (hp:f < 1000) (h:WV C v Q ⟨prgE f σ.env,upd (prgO f σ.own) f (harr F sz [] none)⟩):WV C v Q σ :=
 WV_weak (fun a w hg => by
  by_cases hpin:C.pin f
  ·obtain ⟨loc,hg'⟩:=hg
   have:=(hg'.pin f hpin).1
   omega
  ·exact Gam_hold0A hn hpin a w hg) h
theorem SOps_takeA (f d t:Nat) {l:List τ} {x:Value} (hfd:f ≠ d) (hof:σ.own f = harr F sz l (some x)) (hod:σ.own d = .none) (hpd:d < 1000) (ht:σ.env t = .c (.raw x))
  (h:∀ cap j,l.length ≤ cap → cap ≤ maxLen → cap * sz ≤ l.length * sz + j → SOps C is K ⟨upd (prgE d σ.env) t (.vw sz d 0 l.length cap),upd (upd (prgO d σ.own) d (.box (cellsG F l j))) f (harr F sz l none)⟩):SOps C is K σ:=by
 by_cases hpin:C.pin d
 ·intro ops k Q' hQ hi a w ⟨loc,hg⟩
  have:=(hg.pin d hpin).1
  omega
 ·exact SOps_ex (τ:=Nat × Nat) (S:=fun p => ⟨upd (prgE d σ.env) t (.vw sz d 0 l.length p.1),upd (upd (prgO d σ.own) d (.box (cellsG F l p.2))) f (harr F sz l none)⟩) (p:=fun p => l.length ≤ p.1 ∧ p.1 ≤ maxLen ∧ p.1 * sz ≤ l.length * sz + p.2)
   (fun a w hg => by obtain ⟨cap,j,h1,h2,h3,hx⟩:=Gam_takeA hfd hof hod hpin ht a w hg; exact ⟨(cap,j),⟨h1,h2,h3⟩,hx⟩) (fun p hp => h p.1 p.2 hp.1 hp.2.1 hp.2.2)
theorem WV_takeA {v:VC} (f d t:Nat) {l:List τ} {x:Value} (hfd:f ≠ d) (hof:σ.own f = harr F sz l (some x)) (hod:σ.own d = .none) (hpd:d < 1000) (ht:σ.env t = .c (.raw x))
  (h:∀ cap j,l.length ≤ cap → cap ≤ maxLen → cap * sz ≤ l.length * sz + j → WV C v Q ⟨upd (prgE d σ.env) t (.vw sz d 0 l.length cap),upd (upd (prgO d σ.own) d (.box (cellsG F l j))) f (harr F sz l none)⟩):WV C v Q σ:=by
 by_cases hpin:C.pin d
 ·intro c hc a w ⟨loc,hg⟩
  have:=(hg.pin d hpin).1
  omega
 ·exact WV_ex (τ:=Nat × Nat) (S:=fun p => ⟨upd (prgE d σ.env) t (.vw sz d 0 l.length p.1),upd (upd (prgO d σ.own) d (.box (cellsG F l p.2))) f (harr F sz l none)⟩) (p:=fun p => l.length ≤ p.1 ∧ p.1 ≤ maxLen ∧ p.1 * sz ≤ l.length * sz + p.2)
   (fun a w hg => by obtain ⟨cap,j,h1,h2,h3,hx⟩:=Gam_takeA hfd hof hod hpin ht a w hg; exact ⟨(cap,j),⟨h1,h2,h3⟩,hx⟩) (fun p hp => h p.1 p.2 hp.1 hp.2.1 hp.2.2)
theorem SOps_giveA (f d t:Nat) {j cap:Nat} {l l0:List τ} (hfd:f ≠ d) (hof:σ.own f = harr F sz l0 none) (hod:σ.own d = .box (cellsG F l j)) (ht:σ.env t = .vw sz d 0 l.length cap) (hpos:0 < l.length) (hcap:cap * sz ≤ l.length * sz + j)
  (h:∀ x,SOps C is K ⟨upd σ.env t (.c (.raw x)),upd (upd σ.own d .none) f (harr F sz l (some x))⟩):SOps C is K σ :=
 SOps_ex (p:=fun _ => True) (fun a w hg => by obtain ⟨x,hx⟩:=Gam_giveA hfd hof hod ht hpos hcap a w hg; exact ⟨x,trivial,hx⟩) (fun x _ => h x)
end
theorem RunR_rel {P:Program} {N:Nat} {ps:List Nat} {assign body:VC} {env:Nat → AV} {τ:Type} (ent:τ → Ent) (F:List τ → List Ob → Prop) (ts:List τ) (hsol:∀ p l,F p l → l.all (Ob.solid l.length) = true)
  (he:∀ t ∈ ts,(ent t).args.length = ps.length ∧ (ent t).res = .c (.bool true))
  (h:∀ pre t post l,ts = pre ++ t :: post → F pre l → Rnd P N ps assign body env (ent t) l fun j l' => j = none ∧ F (pre ++ [t]) l'):∀ (post pre:List τ) (l:List Ob),ts = pre ++ post → F pre l →
  RunR P N ps assign body env (fun pend lf => pend = none ∧ F ts lf) (post.map ent) l
 | [],pre,l,hp,hl => ⟨hsol pre l hl,rfl,by rw [hp]; simpa using hl⟩
 | t :: post,pre,l,hp,hl => by
  have ht:t ∈ ts:=by rw [hp]; simp
  refine ⟨hsol pre l hl,(he t ht).1,true,(he t ht).2,?_⟩
  intro C h1 h2 h3 h4
  refine (h pre t post l hp hl C h1 h2 h3 h4).mono fun ex σ1 hq => ⟨hq.1,fun C' k1 k2 k3 k4 => (hq.2 C' k1 k2 k3 k4).mono fun ex σ2 hq => ?_⟩
  obtain ⟨j,l',q1,q2,q3,q4⟩:=hq
  exact ⟨j,_,q1,q2,.inl ⟨q3,rfl,RunR_rel ent F ts hsol he h post _ l' (by rw [hp]; simp) q4⟩⟩
end Go.V
