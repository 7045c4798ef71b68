/-
  An abstract machine over small instructions, sound over the model; no condition.
-/
import Derived.Test.YtbejgfpaokcnpaaV0
import Derived.RangeFuncCalls
import Derived.LoopNIn
import Derived.OrdersIn
import Derived.RegionIn
set_option linter.unusedVariables false
set_option linter.unusedSimpArgs false
/-
  One instruction at a time: what is asked, and that it is enough.
-/
namespace Go.V

/-- A CONTRACT: handed values that read as 'args', the function hands back a value that reads as 'r'; of what was there nothing has turned; and what is handed back lies in no cell of M, if what came in lies in none. -/
def FSpec (P : Program) (f : FuncId) (args : List AV) (r : AV) : Prop :=
  callable P f ∧ ∀ (w : World) (M : Cells) (vs : List Value), (∀ b o, M b o → b < w.heap.size) → RepAs w M (fun _ => undef) args vs →
    Calls P f vs.toArray w fun e w' => ∃ v, e = .returned v ∧ RepA w' M (fun _ => undef) r v ∧ RowKit.Below w.heap.size w w'

/-- A contract whose result lies in no cell that was there. -/
def FSpecF (P : Program) (f : FuncId) (args : List AV) (r : AV) : Prop :=
  callable P f ∧ ∀ (w : World) (vs : List Value), RepAs w (fun _ _ => False) (fun _ => undef) args vs →
    Calls P f vs.toArray w fun e w' => ∃ v, e = .returned v ∧ RepA w' (fun b _ => b < w.heap.size) (fun _ => undef) r v ∧ RowKit.Below w.heap.size w w'

def AddM (M : Cells) (own : Nat → Ob) (loc : Nat → Value) : Cells := fun b o => M b o ∨ Mut own loc b o

/-- Objects that are lent: they are what they are said to be, and apart. -/
structure LentOk (P : Program) (w : World) (M : Cells) (loc : Nat → Value) (own : Nat → Ob) : Prop where
  objs : ∀ n, ObOk P (fun _ => True) w (AddM M own loc) loc (loc n) (own n)
  disj : ∀ n m b, n ≠ m → (own n).has (loc n) b → (own m).has (loc m) b → False

/-- Lent objects, and windows. -/
def ownW (l : List Ob) (wl : List (List AV)) (n : Nat) : Ob := if 2000 ≤ n then (match wl[n - 2000]? with | some cs => .win cs | none => .none) else ownL 1000 l n

def Ob.isPlace : Ob → Bool
  | .box _ => true
  | .win _ => true
  | .mp _ _ _ => true
  | _ => false

/-- A CONTRACT THAT BORROWS: the objects l may be written; the windows wl may be read. -/
def FSpecL (P : Program) (f : FuncId) (args : List AV) (l : List Ob) (wl : List (List AV)) (Post : AV → List Ob → Prop) : Prop :=
  callable P f ∧ l.length ≤ 1000 ∧ ∀ (w : World) (M : Cells) (loc : Nat → Value) (vs : List Value), (∀ b o, M b o → b < w.heap.size ∧ ¬ Foot (ownW l wl) loc b) → LentOk P w M loc (ownW l wl) → RepAs w (AddM M (ownW l wl) loc) loc args vs →
    Calls P f vs.toArray w fun e w' => ∃ v r l' loc', e = .returned v ∧ Post r l' ∧ l'.length = l.length ∧ Fx w w' (Foot (ownL 1000 l) loc) ∧ Keeps w w' (AddM M (ownW l wl) loc) (AddM M (ownW l' wl) loc') ∧ LentOk P w' M loc' (ownW l' wl) ∧
      (∀ n b, (ownL 1000 l' n).has (loc' n) b → Foot (ownL 1000 l) loc b ∨ w.heap.size ≤ b) ∧ (∀ n, (ownW l wl n).isPlace = true → (ownW l' wl n).isPlace = true ∧ loc' n = loc n) ∧ RepA w' (AddM M (ownW l' wl) loc') loc' r v

/-- A call: its contract, and what follows. -/
def ACall (P : Program) (d : Option Nat) (f : X) (xs : List X) (K : St → Prop) (σ : St) : Prop :=
  ∃ fid caps args r, (σ.val f).dg = true ∧ (xs.all fun x => (σ.val x).dg) = true ∧ (σ.val f).dv = .fn fid caps ∧ AV.portL σ.own (xs.map (fun x => (σ.val x).dv) ++ caps) = some args ∧
    r.pureB = true ∧ FSpec P fid args r ∧ K (σ.put d r)

/-- A call under a guard. -/
def ACallG (P : Program) (G : Bool) (d : Option Nat) (f : X) (xs : List X) (K : St → Prop) (σ : St) : Prop :=
  ∃ r, r.pureB = true ∧ (G = true → ∃ fid caps args, (σ.val f).dg = true ∧ (xs.all fun x => (σ.val x).dg) = true ∧ (σ.val f).dv = .fn fid caps ∧ AV.portL σ.own (xs.map (fun x => (σ.val x).dv) ++ caps) = some args ∧
    FSpec P fid args r) ∧ K (σ.put d (.opt G r))

/-- A call under a guard that reads views for its time. -/
def ACallGV (P : Program) (G : Bool) (d : Option Nat) (f : X) (xs : List X) (K : St → Prop) (σ : St) : Prop :=
  ∃ r, r.pureB = true ∧ (G = true → ∃ fid caps args, (σ.val f).dg = true ∧ (xs.all fun x => (σ.val x).dg) = true ∧ (σ.val f).dv = .fn fid caps ∧ AV.vportL σ.own (xs.map (fun x => (σ.val x).dv) ++ caps) = some args ∧
    (FSpecF P fid args r ∨ FSpec P fid args r ∧ r.scal = true)) ∧ K (σ.put d (.opt G r))

/-- A call that reads views for its time: what it hands back is a scalar, or new. -/
def ACallV (P : Program) (d : Option Nat) (f : X) (xs : List X) (K : St → Prop) (σ : St) : Prop :=
  ∃ fid caps args r, (σ.val f).dg = true ∧ (xs.all fun x => (σ.val x).dg) = true ∧ (σ.val f).dv = .fn fid caps ∧ AV.vportL σ.own (xs.map (fun x => (σ.val x).dv) ++ caps) = some args ∧
    r.pureB = true ∧ (FSpecF P fid args r ∨ FSpec P fid args r ∧ r.scal = true) ∧ K (σ.put d r)

/-- A call that is lent the objects L. -/
def ACallL (P : Program) (d : Option Nat) (f : X) (xs : List X) (K : St → Prop) (σ : St) : Prop :=
  ∃ fid caps L l args Post, (σ.val f).dg = true ∧ (xs.all fun x => (σ.val x).dg) = true ∧ (σ.val f).dv = .fn fid caps ∧ L.Nodup ∧ AV.lendL 1000 L σ.own (xs.map (fun x => (σ.val x).dv) ++ caps) = some args ∧
    obsLend L σ.own L = some l ∧ FSpecL P fid args l [] Post ∧
    ∀ r l', Post r l' → ∃ r' os, r.back L = some r' ∧ obsBack L l' = some os ∧ K (St.put ⟨σ.env, ownBack σ.own L os⟩ d r')

/-- What a guest is shown: boxes and windows of the caller's, as windows. -/
def winsOf (own : Nat → Ob) : List Nat → List (List AV) → Prop
  | [], [] => True
  | n :: ns, w :: ws => ((∃ cs, (own n).cellsR = some cs ∧ w <+: cs) ∧ AV.pureL w = true) ∧ winsOf own ns ws
  | _, _ => False

/-- The call of a guest. -/
def ACallH (d : Option Nat) (f : X) (xs : List X) (K : St → Prop) (σ : St) : Prop :=
  ∃ n g e rem L, σ.own n = .guest g (e :: rem) ∧ (σ.val f).dg = true ∧ (xs.all fun x => (σ.val x).dg) = true ∧ (σ.val f).dv = .c (.raw g.fv) ∧ L.Nodup ∧ AV.lendL 2000 L σ.own (xs.map fun x => (σ.val x).dv) = some e.args ∧ winsOf σ.own L e.wins ∧
    K (St.put ⟨σ.env, upd σ.own n (.guest g rem)⟩ d e.res)

mutual
/-- It names objects of 1000, 1001, .., k of these, alone. -/
def AV.refs (k : Nat) : AV → Bool
  | .bp n _ => decide (1000 ≤ n ∧ n < 1000 + k)
  | .gr n => decide (1000 ≤ n ∧ n < 1000 + k)
  | .vw _ n _ _ _ => decide (1000 ≤ n ∧ n < 1000 + k)
  | .agg cs => AV.refsL k cs
  | .tup cs => AV.refsL k cs
  | .fn _ cs => AV.refsL k cs
  | .opt _ x => AV.refs k x
  | .non => true
  | .c _ => true
def AV.refsL (k : Nat) : List AV → Bool
  | [] => true
  | a :: as => AV.refs k a && AV.refsL k as
end
def Ob.solid (k : Nat) : Ob → Bool
  | .box cs => AV.refsL k cs
  | .guest _ _ => true
  | .mp _ _ _ => true
  | _ => false

/-- The calls that a guest that is made of the function fc, with what it has captured, is good for, from the objects l on; Fin says what is left of these. -/
def Run (P : Program) (fc : FuncId) (caps : List AV) (Fin : List Ob → Prop) : List Ent → List Ob → Prop
  | [], l => l.all (Ob.solid l.length) = true ∧ Fin l
  | e :: rem, l => l.all (Ob.solid l.length) = true ∧ e.res.scal = true ∧ FSpecL P fc (e.args ++ caps) l e.wins fun r l' => r = e.res ∧ Run P fc caps Fin rem l'

/-- A call that is handed a function value which writes the objects L. -/
def ACallC (P : Program) (d : Option Nat) (f : X) (xs : List X) (K : St → Prop) (σ : St) : Prop :=
  ∃ fid caps L l pre fc fcaps post fcaps' pre' post' rem Fin r, (σ.val f).dg = true ∧ (xs.all fun x => (σ.val x).dg) = true ∧ (σ.val f).dv = .fn fid caps ∧ L.Nodup ∧ L.length ≤ 1000 ∧
    xs.map (fun x => (σ.val x).dv) ++ caps = pre ++ .fn fc fcaps :: post ∧ AV.lendL 1000 L σ.own fcaps = some fcaps' ∧ AV.portL σ.own pre = some pre' ∧ AV.portL σ.own post = some post' ∧
    obsLend L σ.own L = some l ∧ callable P fc ∧ Run P fc fcaps' Fin rem l ∧ r.pureB = true ∧
    (∀ g : Gst, FSpecL P fid (pre' ++ .c (.raw g.fv) :: post') [.guest g rem] [] fun r' l' => r' = r ∧ l' = [.guest g []]) ∧
    ∀ l', Fin l' → ∃ os, obsBack L l' = some os ∧ l'.length = L.length ∧ K (St.put ⟨σ.env, ownBack σ.own L os⟩ d r)

/-- A CONTRACT WHOSE RESULT MAY BE WRITTEN: what is handed back names new objects, 1000, 1001 and so on. -/
def FSpecN (P : Program) (f : FuncId) (args : List AV) (Post : AV → List Ob → Prop) : Prop :=
  callable P f ∧ ∀ (w : World) (M : Cells) (vs : List Value), (∀ b o, M b o → b < w.heap.size) → RepAs w M (fun _ => undef) args vs →
    Calls P f vs.toArray w fun e w' => ∃ v r os loc', e = .returned v ∧ Post r os ∧ os.length ≤ 1000 ∧ RowKit.Below w.heap.size w w' ∧ LentOk P w' M loc' (ownL 1000 os) ∧
      (∀ n b, (ownL 1000 os n).has (loc' n) b → w.heap.size ≤ b) ∧ RepA w' (AddM M (ownL 1000 os) loc') loc' r v

def prgEs : List Nat → (Nat → AV) → Nat → AV
  | [], f => f
  | n :: L, f => prgE n (prgEs L f)
def prgOs : List Nat → (Nat → Ob) → Nat → Ob
  | [], f => f
  | n :: L, f => prgO n (prgOs L f)

/-- A call that makes new objects: they get the numbers L. -/
def ACallN (P : Program) (d : Option Nat) (f : X) (xs : List X) (K : St → Prop) (σ : St) : Prop :=
  ∃ fid caps args Post, (σ.val f).dg = true ∧ (xs.all fun x => (σ.val x).dg) = true ∧ (σ.val f).dv = .fn fid caps ∧ AV.portL σ.own (xs.map (fun x => (σ.val x).dv) ++ caps) = some args ∧ FSpecN P fid args Post ∧
    ∀ r os, Post r os → ∃ L r' os', L.Nodup ∧ L.length = os.length ∧ (L.all fun n => decide (n < 1000) && (σ.own n).isNone) = true ∧ r.back L = some r' ∧ obsBack L os = some os' ∧
      K (St.put ⟨prgEs L σ.env, ownBack (prgOs L σ.own) L os'⟩ d r')

def ACallS (P : Program) (d : Option Nat) (f : X) (xs : List X) (K : St → Prop) (σ : St) : Prop :=
  ACall P d f xs K σ ∨ ACallV P d f xs K σ ∨ ACallL P d f xs K σ ∨ ACallH d f xs K σ ∨ ACallC P d f xs K σ ∨ ACallN P d f xs K σ

/-- One of the instructions that may change places. -/
def AStepP (P : Program) (i : Ins) (K : St → Prop) (σ : St) : Prop :=
  match i.g with
  | none =>
    match i.i with
    | .call f xs => ACall P i.d f xs K σ
    | ins =>
      match pev σ ins with
      | some (q, v) => q ∧ K (σ.put i.d v)
      | none =>
        match mev σ i.d ins with
        | some (q, σ') => q ∧ K σ'
        | none => False
  | some g =>
    match σ.guard g with
    | none => False
    | some G =>
      match i.i with
      | .call f xs => ACallG P G i.d f xs K σ
      | ins =>
        match pev σ ins with
        | some (q, v) => (G = true → q) ∧ K (σ.put i.d (.opt G v))
        | none =>
          (match mev σ i.d ins with
          | some (q, σ') => G = true ∧ q ∧ K σ'
          | none => False) ∨ (ins.putsB = false ∧ G = false ∧ K (σ.put i.d (.opt false .non)))

/-- Either may come out. -/
def nvw (σ : St) (d : Option Nat) (ins : I) (K : St → Prop) : Prop :=
  match ins with
  | .nils _ x => (match (σ.val x).dv with | .c (.sl _ []) => (σ.val x).dg = true ∧ ∀ b, K (σ.put d (.c (.bool b))) | _ => False)
  | .appv e sz bytes s x =>
    match d, (σ.val s).dv.vbase σ.own e sz, (σ.val x).dv.vcells σ.own sz with
    | some d, some (n, len, cs, q), some (k, ys, p) =>
      (rmv σ.own n d).isNone = true ∧ (σ.val s).dg = true ∧ (σ.val x).dg = true ∧ q ∧ p ∧ len + k ≤ maxLen ∧ (len + k) * bytes ≤ 140737488355328 ∧
        (if k = 0 then len = 0 ∧ K (σ.put (some d) (.c (.sl sz []))) else
          ∀ cap j, len + k ≤ cap → cap ≤ maxLen → cap * sz ≤ (len + k) * sz + j → K (St.new ⟨σ.env, rmv σ.own n⟩ d (.vw sz d 0 (len + k) cap) (.box (cs ++ ys ++ List.replicate j .non))))
    | _, _, _ => False
  | _ => False

/-- One that stands alone. -/
def AStepS (P : Program) (i : Ins) (K : St → Prop) (σ : St) : Prop :=
  match i.g with
  | none =>
    match i.i with
    | .call f xs => ACallS P i.d f xs K σ
    | ins =>
      match pev σ ins with
      | some (q, v) => q ∧ K (σ.put i.d v)
      | none =>
        match mev σ i.d ins with
        | some (q, σ') => q ∧ K σ'
        | none =>
          match pvw σ ins with
          | some (q, v) => q ∧ K (σ.put i.d v)
          | none =>
            match mvw σ i.d ins with
            | some (q, σ') => q ∧ K σ'
            | none => nvw σ i.d ins K
  | some g =>
    match σ.guard g with
    | none => False
    | some G =>
      match i.i with
      | .call f xs => ACallG P G i.d f xs K σ ∨ ACallGV P G i.d f xs K σ ∨ ((G = true → ACallS P i.d f xs K σ) ∧ (G = false → K (σ.put i.d (.opt false .non))))
      | ins =>
        match pev σ ins with
        | some (q, v) => (G = true → q) ∧ K (σ.put i.d (.opt G v))
        | none =>
          match mev σ i.d ins with
          | some (q, σ') => (G = true → q ∧ K σ') ∧ (G = false → K (σ.put i.d (.opt false .non)))
          | none =>
            match pvw σ ins with
            | some (q, v) => (G = true → q) ∧ K (σ.put i.d (.opt G v))
            | none =>
              match mvw σ i.d ins with
              | some (q, σ') => (G = true → q ∧ K σ') ∧ (G = false → K (σ.put i.d (.opt false .non)))
              | none => G = false ∧ K (σ.put i.d (.opt false .non))

def AStep (P : Program) (i : Ins) (K : St → Prop) (σ : St) : Prop := if i.s = true then AStepS P i K σ else AStepP P i K σ

def Gam (C : Ctx) (σ : St) (a : Act) (w : World) : Prop := ∃ loc, G C σ loc a w

section
variable {C : Ctx} {σ : St} {loc : Nat → Value} {a : Act} {w : World}

mutual
theorem port_rep (hg : G C σ loc a w) {loc' : Nat → Value} : ∀ {x : AV} {v : Value} {y : AV}, RepA w (MM C σ.own loc) loc x v → x.port σ.own = some y → RepA w (MM C σ.own loc) loc' y v
  | .c d, v, y, h, hp => by simp only [AV.port, Option.some.injEq] at hp; subst hp; simpa only [RepA] using h
  | .gr n, v, y, h, hp => by
    simp only [AV.port] at hp
    split at hp
    · rename_i e sz es hn
      simp only [Option.some.injEq] at hp; subst hp
      simp only [RepA] at h ⊢
      rw [h.1]; exact hg.grow_data hn
    · cases hp
  | .agg cs, v, y, h, hp => by
    simp only [AV.port, Option.map_eq_some_iff] at hp
    obtain ⟨ys, hp, rfl⟩ := hp
    simp only [RepA] at h ⊢
    obtain ⟨l, rfl, hr⟩ := h
    exact ⟨l, rfl, ports_rep hg hr hp⟩
  | .tup cs, v, y, h, hp => by
    simp only [AV.port, Option.map_eq_some_iff] at hp
    obtain ⟨ys, hp, rfl⟩ := hp
    simp only [RepA] at h ⊢
    obtain ⟨l, rfl, hr⟩ := h
    exact ⟨l, rfl, ports_rep hg hr hp⟩
  | .fn f cs, v, y, h, hp => by
    simp only [AV.port, Option.map_eq_some_iff] at hp
    obtain ⟨ys, hp, rfl⟩ := hp
    simp only [RepA] at h ⊢
    obtain ⟨l, rfl, hr⟩ := h
    exact ⟨l, rfl, ports_rep hg hr hp⟩
  | .non, v, y, h, hp => by simp [AV.port] at hp
  | .bp _ _, v, y, h, hp => by simp [AV.port] at hp
  | .vw _ _ _ _ _, v, y, h, hp => by simp [AV.port] at hp
  | .opt _ _, v, y, h, hp => by simp [AV.port] at hp
theorem ports_rep (hg : G C σ loc a w) {loc' : Nat → Value} : ∀ {xs : List AV} {l : List Value} {ys : List AV}, RepAs w (MM C σ.own loc) loc xs l → AV.portL σ.own xs = some ys → RepAs w (MM C σ.own loc) loc' ys l
  | [], l, ys, h, hp => by simp only [AV.portL, Option.some.injEq] at hp; subst hp; simpa only [RepAs] using h
  | x :: xs, l, ys, h, hp => by
    simp only [AV.portL] at hp
    split at hp
    · rename_i y ys' h1 h2
      simp only [Option.some.injEq] at hp; subst hp
      simp only [RepAs] at h ⊢
      obtain ⟨v, vs, rfl, k1, k2⟩ := h
      exact ⟨v, vs, rfl, port_rep hg k1 h1, ports_rep hg k2 h2⟩
    · cases hp
end

mutual
theorem pure_loc {M : Cells} {loc' : Nat → Value} : ∀ {x : AV} {v : Value}, x.pureB = true → RepA w M loc x v → RepA w M loc' x v
  | .c d, v, _, h => by simpa only [RepA] using h
  | .non, v, _, h => by simp only [RepA]
  | .gr n, v, hp, h => by simp [AV.pureB] at hp
  | .bp _ _, v, hp, h => by simp [AV.pureB] at hp
  | .vw _ _ _ _ _, v, hp, h => by simp [AV.pureB] at hp
  | .agg cs, v, hp, h => by
    simp only [AV.pureB] at hp
    simp only [RepA] at h ⊢
    obtain ⟨l, rfl, hr⟩ := h
    exact ⟨l, rfl, pures_loc hp hr⟩
  | .tup cs, v, hp, h => by
    simp only [AV.pureB] at hp
    simp only [RepA] at h ⊢
    obtain ⟨l, rfl, hr⟩ := h
    exact ⟨l, rfl, pures_loc hp hr⟩
  | .fn f cs, v, hp, h => by
    simp only [AV.pureB] at hp
    simp only [RepA] at h ⊢
    obtain ⟨l, rfl, hr⟩ := h
    exact ⟨l, rfl, pures_loc hp hr⟩
  | .opt g x, v, hp, h => by
    simp only [AV.pureB] at hp
    simp only [RepA] at h ⊢
    exact ⟨fun hg => pure_loc hp (h.1 hg), h.2⟩
theorem pures_loc {M : Cells} {loc' : Nat → Value} : ∀ {xs : List AV} {l : List Value}, AV.pureL xs = true → RepAs w M loc xs l → RepAs w M loc' xs l
  | [], l, _, h => by simpa only [RepAs] using h
  | x :: xs, l, hp, h => by
    simp only [AV.pureL, Bool.and_eq_true] at hp
    simp only [RepAs] at h ⊢
    obtain ⟨v, vs, rfl, k1, k2⟩ := h
    exact ⟨v, vs, rfl, pure_loc hp.1 k1, pures_loc hp.2 k2⟩
end

/-- Nothing of what was there turns. -/
theorem G.below (hg : G C σ loc a w) {w' : World} (hb : RowKit.Below w.heap.size w w') : Keeps w w' (MM C σ.own loc) (MM C σ.own loc) ∧ G C σ loc a w' := by
  have hk : Keeps w w' (MM C σ.own loc) (MM C σ.own loc) := ⟨fun p hp _ => World.cell?_of_block (hb.block _ (cell_lt hp)), fun p _ h => h⟩
  refine ⟨hk, ⟨⟨hb.os.trans hg.fr.os, hb.tape.trans hg.fr.tape, hb.output.trans hg.fr.output, Nat.le_trans hg.fr.size hb.size, fun k hk' hx => (hb.block k (Nat.lt_of_lt_of_le hk' hg.fr.size)).trans (hg.fr.block k hk' hx)⟩, hg.m0, hg.kp.trans hk, fun x hx => ?_, hg.mnd, hg.pin, hg.size,
    fun t => RepA.keep hk _ _ (hg.slots t), fun n => ObOk.keep' hk hb.size (fun b hbb => hb.block b ((hg.objs n).lt hbb)) (hg.objs n), hg.disj⟩⟩
  obtain ⟨D, e1, e2, e3, e4⟩ := hg.marks x hx
  exact ⟨D, e1, e2, (hb.block D (Array.getElem?_eq_some_iff.1 e3).1).trans e3, e4⟩

theorem MM_lt (hg : G C σ loc a w) : ∀ b o, MM C σ.own loc b o → b < w.heap.size := by
  rintro b o (h | ⟨n, h⟩)
  · exact Nat.lt_of_lt_of_le (hg.m0 b o h).1 hg.fr.size
  · exact (hg.objs n).lt (Ob.has_of_mut h)

theorem G.drew (hg : G C σ loc a w) : G C σ loc a { w with drawn := w.drawn + 1 } := (hg.below (w' := { w with drawn := w.drawn + 1 }) ⟨rfl, rfl, rfl, Nat.le_refl _, fun _ _ => rfl⟩).2
end

section
variable {C : Ctx} {σ : St} {loc : Nat → Value} {a : Act} {w : World}

theorem mev_sound (hg : G C σ loc a w) {o : Oper} {i : I} (hc : cI C.P o.op = some i) (hd : o.dst.all (· < C.N) = true) {q : Prop} {σ' : St} (hm : mev σ o.dst i = some (q, σ')) (hq : q) : Mnd C σ' a w o := by
  generalize hod : o.dst = dst at hm hd
  generalize ho : o.op = op at hc
  have hd' : ∀ d, dst = some d → d < C.N := fun d h => by subst h; simpa using hd
  cases cI_inv hc with
  | alloc hz =>
    cases dst <;> simp only [mev, Option.some.injEq, Prod.mk.injEq, reduceCtorEq] at hm
    obtain ⟨rfl, rfl⟩ := hm
    exact mev_alloc hg ho hod (hd' _ rfl) hz hq
  | box hs hx =>
    cases dst with
    | none => simp [mev] at hm
    | some d =>
      simp only [mev] at hm
      split at hm
      · rename_i cs hcs
        simp only [Option.some.injEq, Prod.mk.injEq] at hm
        obtain ⟨rfl, rfl⟩ := hm
        exact mev_box hg ho hod (hd' _ rfl) hx hq.2.1 hcs hq.1
      · cases hm
  | store hs hx hy =>
    cases dst with
    | some d => simp [mev] at hm
    | none =>
      simp only [mev] at hm
      split at hm
      · rename_i n off vs ex ey
        split at hm
        · rename_i cs hown
          simp only [Option.some.injEq, Prod.mk.injEq] at hm
          obtain ⟨rfl, rfl⟩ := hm
          obtain ⟨q1, q2, q3, q4, q5⟩ := hq
          exact mev_st hg ho hod hs hx hy q1 q2 ex ey hown q3 q4 q5
        · cases hm
      · cases hm
  | bsl ht hs hz hpr hpos hlim hzl hxs =>
    cases dst with
    | none => simp [mev] at hm
    | some d =>
      simp only [mev] at hm
      split at hm
      · rename_i es hes
        simp only [Option.some.injEq, Prod.mk.injEq] at hm
        obtain ⟨rfl, rfl⟩ := hm
        obtain ⟨q1, q2, q3⟩ := hq
        exact mev_bsl hg ho hod (hd' _ rfl) ht hs hz hpr hpos hlim hzl hxs hes q1 q2 q3
      · cases hm
  | app ht hinf hz hzs hpos h2 h3 =>
    cases dst with
    | none => simp [mev] at hm
    | some d =>
      simp only [mev] at hm
      split at hm
      · rename_i n ys es_ ey
        split at hm
        · rename_i e' sz' es hown
          split at hm
          · rename_i hee
            obtain ⟨rfl, rfl⟩ := hee
            simp only [Option.some.injEq, Prod.mk.injEq] at hm
            obtain ⟨rfl, rfl⟩ := hm
            obtain ⟨q1, q2, q3, q4, q5, q6⟩ := hq
            have hrs := vald hg h2 q1
            rw [es_] at hrs
            simp only [RepA] at hrs
            have hob := hg.objs n
            rw [hown] at hob
            obtain ⟨xs, hor, hA, hrg, _⟩ := hob
            have hob1 : ∀ b, (loc n).ownBlock = some b → (σ.own n).has (loc n) b := by
              intro b hb
              rw [hown]
              exact Ob.has_own.2 hb
            refine app_core (own1 := upd σ.own n .none) hg ho hod (hd' _ rfl) ht hinf hz hzs hpos hrs.1 h3 q2 ey hor hA hrg (fun m => ?_) ?_ (fun b k hb hk => ⟨n, ?_⟩) (fun m b hm hb => ?_) q4 q5 q6
            · by_cases hmn : m = n
              · subst hmn; right; simp [upd]
              · left; simp [upd, hmn]
            · cases hx : upd σ.own n .none d <;> simp_all [Ob.isNone]
            · rw [hown]
              cases hl : loc n <;> rw [hl] at hb <;> simp only [Value.ownBlock, reduceCtorEq] at hb
              rename_i A _ _
              cases A <;> simp only [reduceCtorEq] at hb
              simp only [Option.some.injEq] at hb
              exact ⟨hb, hk⟩
            · by_cases hmn : m = n
              · subst hmn; simp only [upd, if_true] at hm; exact Ob.has_none _ _ hm
              · simp only [upd, hmn, if_false] at hm
                exact hg.disj m n b hmn hm (hob1 b hb)
          · cases hm
        · cases hm
      · rename_i ys es_ ey
        simp only [Option.some.injEq, Prod.mk.injEq] at hm
        obtain ⟨rfl, rfl⟩ := hm
        obtain ⟨q1, q2, q3, q4, q5, q6⟩ := hq
        have hrs := vald hg h2 q1
        rw [es_] at hrs
        simp only [RepA, RepC] at hrs
        have hnone : σ.own d = .none := by cases h : σ.own d <;> simp_all [Ob.isNone]
        exact app_core (es := []) (xs := []) (own1 := σ.own) hg ho hod (hd' _ rfl) ht hinf hz hzs hpos hrs.1 h3 q2 ey (World.ownsRow_nil w _ _ _) (fun b hb => by simp [Value.ownBlock] at hb) ⟨by simp, by simp [RepAs]⟩
          (fun m => .inl rfl) hnone (fun b k hb _ => by simp [Value.ownBlock] at hb) (fun m b _ hb => by simp [Value.ownBlock] at hb) q4 (by simpa using q5) (by simpa using q6)
      · cases hm
  | _ => cases dst <;> simp [mev] at hm

theorem guard_sound (hg : G C σ loc a w) {ops : Array Oper} {j t : Nat} {want : Bool} (hj : (ops[j]?).bind (·.dst) = some t) {Gd : Bool} (h : σ.guard (t, want) = some Gd) : (yielded ops a.tmps j == some want) = Gd := by
  have hs := hg.slots t
  have hget : ∀ b, a.tmps.getD t undef = .bool b → a.tmps[t]? = some (.bool b) := by
    intro b hb
    rw [Array.getD_eq_getD_getElem?] at hb
    cases h : a.tmps[t]? with
    | none => rw [h] at hb; simp [undef] at hb
    | some v => rw [h] at hb; simp at hb; rw [hb]
  unfold St.guard at h
  split at h
  · rename_i b hb
    simp only [Option.some.injEq] at h
    subst h
    dsimp only at hb
    rw [hb] at hs
    simp only [RepA, RepC] at hs
    simp [yielded, hj, hget b hs]
  · rename_i q b hb
    simp only [Option.some.injEq] at h
    subst h
    dsimp only at hb
    rw [hb] at hs
    simp only [RepA, RepC] at hs
    cases q with
    | true => simp [yielded, hj, hget b (hs.1 rfl)]
    | false =>
      have hu := hs.2 rfl
      have : ∀ b, a.tmps[t]? ≠ some (.bool b) := by
        intro b hb
        rw [Array.getD_eq_getD_getElem?, hb] at hu
        simp [undef] at hu
      simp only [yielded, hj, Option.bind_some, Bool.false_and]
      cases h : a.tmps[t]? with
      | none => simp
      | some v => cases v <;> simp <;> exact (this _ h).elim
  · cases h

end
end Go.V

/-
  What has been lent comes back.
-/
namespace Go.V
variable {C : Ctx} {σ : St} {loc : Nat → Value} {a : Act} {w : World}

mutual
theorem RepA.reloc {M : Cells} {loc' : Nat → Value} (hl : ∀ n, (loc n).oneCell' = true → loc' n = loc n) : ∀ {x : AV} {v : Value}, RepA w M loc x v → RepA w M loc' x v
  | .non, v, _ => by simp only [RepA]
  | .c d, v, h => by simpa only [RepA] using h
  | .bp n off, v, h => by
    simp only [RepA] at h ⊢
    obtain ⟨b, e1, e2⟩ := h
    exact ⟨b, by rw [hl n (by rw [e1]; rfl)]; exact e1, e2⟩
  | .gr n, v, h => by
    simp only [RepA] at h ⊢
    rw [hl n (by rw [← h.1]; exact h.2)]
    exact h
  | .vw sz n off len cap, v, h => by
    simp only [RepA] at h ⊢
    obtain ⟨b, o, e1, e2⟩ := h
    exact ⟨b, o, by rw [hl n (by rw [e1]; rfl)]; exact e1, e2⟩
  | .agg cs, v, h => by
    simp only [RepA] at h ⊢
    obtain ⟨l, rfl, hr⟩ := h
    exact ⟨l, rfl, RepAs.reloc hl hr⟩
  | .tup cs, v, h => by
    simp only [RepA] at h ⊢
    obtain ⟨l, rfl, hr⟩ := h
    exact ⟨l, rfl, RepAs.reloc hl hr⟩
  | .fn f cs, v, h => by
    simp only [RepA] at h ⊢
    obtain ⟨l, rfl, hr⟩ := h
    exact ⟨l, rfl, RepAs.reloc hl hr⟩
  | .opt g x, v, h => by
    simp only [RepA] at h ⊢
    exact ⟨fun hg => RepA.reloc hl (h.1 hg), h.2⟩
theorem RepAs.reloc {M : Cells} {loc' : Nat → Value} (hl : ∀ n, (loc n).oneCell' = true → loc' n = loc n) : ∀ {xs : List AV} {l : List Value}, RepAs w M loc xs l → RepAs w M loc' xs l
  | [], l, h => by simpa only [RepAs] using h
  | x :: xs, l, h => by
    simp only [RepAs] at h ⊢
    obtain ⟨v, vs, rfl, h1, h2⟩ := h
    exact ⟨v, vs, rfl, RepA.reloc hl h1, RepAs.reloc hl h2⟩
end

theorem ObOk.reloc {P : Program} {A : Nat → Prop} {M : Cells} {v : Value} {loc' : Nat → Value} (hl : ∀ n, (loc n).oneCell' = true → loc' n = loc n) {o : Ob} (h : ObOk P A w M loc v o) : ObOk P A w M loc' v o := by
  cases o with
  | none => trivial
  | box cs =>
    obtain ⟨b, l, e, h1, h2, h3, h4⟩ := h
    exact ⟨b, l, e, h1, h2, h3, h4.reloc hl⟩
  | win cs =>
    obtain ⟨b, l, rest, e, h1, h3, h4⟩ := h
    exact ⟨b, l, rest, e, h1, h3, h4.reloc hl⟩
  | grow e sz es => exact h
  | guest g rem => exact h
  | mp kk ek l => exact h

mutual
theorem back_rep {M : Cells} {L : List Nat} {loc' : Nat → Value} (hl : ∀ (i n : Nat), L[i]? = some n → loc' n = loc (1000 + i)) : ∀ {x y : AV} {v : Value}, RepA w M loc x v → x.back L = some y → RepA w M loc' y v
  | .c d, y, v, h, hb => by simp only [AV.back, Option.some.injEq] at hb; subst hb; simpa only [RepA] using h
  | .non, y, v, h, hb => by simp only [AV.back, Option.some.injEq] at hb; subst hb; simp only [RepA]
  | .opt g x, y, v, h, hb => by
    simp only [AV.back, Option.map_eq_some_iff] at hb
    obtain ⟨z, hb, rfl⟩ := hb
    simp only [RepA] at h ⊢
    exact ⟨fun hg => back_rep hl (h.1 hg) hb, h.2⟩
  | .bp n off, y, v, h, hb => by
    simp only [AV.back] at hb
    split at hb
    · rename_i hn
      simp only [Option.map_eq_some_iff] at hb
      obtain ⟨m, hm, rfl⟩ := hb
      simp only [RepA] at h ⊢
      have := hl _ _ hm
      rw [show 1000 + (n - 1000) = n from by omega] at this
      rwa [this]
    · cases hb
  | .gr n, y, v, h, hb => by
    simp only [AV.back] at hb
    split at hb
    · rename_i hn
      simp only [Option.map_eq_some_iff] at hb
      obtain ⟨m, hm, rfl⟩ := hb
      simp only [RepA] at h ⊢
      have := hl _ _ hm
      rw [show 1000 + (n - 1000) = n from by omega] at this
      rwa [this]
    · cases hb
  | .vw sz n off len cap, y, v, h, hb => by
    simp only [AV.back] at hb
    split at hb
    · rename_i hn
      simp only [Option.map_eq_some_iff] at hb
      obtain ⟨m, hm, rfl⟩ := hb
      simp only [RepA] at h ⊢
      have := hl _ _ hm
      rw [show 1000 + (n - 1000) = n from by omega] at this
      rwa [this]
    · cases hb
  | .agg cs, y, v, h, hb => by
    simp only [AV.back, Option.map_eq_some_iff] at hb
    obtain ⟨ys, hb, rfl⟩ := hb
    simp only [RepA] at h ⊢
    obtain ⟨l, rfl, hr⟩ := h
    exact ⟨l, rfl, backs_rep hl hr hb⟩
  | .tup cs, y, v, h, hb => by
    simp only [AV.back, Option.map_eq_some_iff] at hb
    obtain ⟨ys, hb, rfl⟩ := hb
    simp only [RepA] at h ⊢
    obtain ⟨l, rfl, hr⟩ := h
    exact ⟨l, rfl, backs_rep hl hr hb⟩
  | .fn f cs, y, v, h, hb => by
    simp only [AV.back, Option.map_eq_some_iff] at hb
    obtain ⟨ys, hb, rfl⟩ := hb
    simp only [RepA] at h ⊢
    obtain ⟨l, rfl, hr⟩ := h
    exact ⟨l, rfl, backs_rep hl hr hb⟩
theorem backs_rep {M : Cells} {L : List Nat} {loc' : Nat → Value} (hl : ∀ (i n : Nat), L[i]? = some n → loc' n = loc (1000 + i)) : ∀ {xs ys : List AV} {l : List Value}, RepAs w M loc xs l → AV.backL L xs = some ys → RepAs w M loc' ys l
  | [], ys, l, h, hb => by simp only [AV.backL, Option.some.injEq] at hb; subst hb; simpa only [RepAs] using h
  | x :: xs, ys, l, h, hb => by
    simp only [AV.backL] at hb
    split at hb
    · rename_i y ys' h1 h2
      simp only [Option.some.injEq] at hb; subst hb
      simp only [RepAs] at h ⊢
      obtain ⟨v, vs, rfl, k1, k2⟩ := h
      exact ⟨v, vs, rfl, back_rep hl k1 h1, backs_rep hl k2 h2⟩
    · cases hb
end

mutual
theorem back_pure {L : List Nat} : ∀ {x : AV}, x.pureB = true → x.back L = some x
  | .c _, _ => rfl
  | .non, _ => rfl
  | .bp _ _, h => by simp [AV.pureB] at h
  | .gr _, h => by simp [AV.pureB] at h
  | .vw _ _ _ _ _, h => by simp [AV.pureB] at h
  | .agg cs, h => by simp only [AV.pureB] at h; simp [AV.back, backs_pure h]
  | .tup cs, h => by simp only [AV.pureB] at h; simp [AV.back, backs_pure h]
  | .fn f cs, h => by simp only [AV.pureB] at h; simp [AV.back, backs_pure h]
  | .opt g x, h => by simp only [AV.pureB] at h; simp [AV.back, back_pure h]
theorem backs_pure {L : List Nat} : ∀ {xs : List AV}, AV.pureL xs = true → AV.backL L xs = some xs
  | [], _ => rfl
  | x :: xs, h => by
    simp only [AV.pureL, Bool.and_eq_true] at h
    simp [AV.backL, back_pure h.1, backs_pure h.2]
end

theorem Ob.back_has {L : List Nat} {o o' : Ob} (h : o.back L = some o') (v : Value) (b : Nat) : o'.has v b ↔ o.has v b := by
  cases o <;> simp only [Ob.back, Option.map_eq_some_iff, Option.some.injEq] at h
  · subst h; exact Iff.rfl
  · obtain ⟨cs, _, rfl⟩ := h
    cases v <;> first | exact Iff.rfl | (rename_i p; cases p <;> exact Iff.rfl)
  · subst h; exact Iff.rfl
  · obtain ⟨cs, _, rfl⟩ := h
    cases v <;> first | exact Iff.rfl | (rename_i p; cases p <;> exact Iff.rfl)
  · subst h; exact Iff.rfl
  · subst h; exact Iff.rfl

theorem Ob.back_mut {L : List Nat} {o o' : Ob} (h : o.back L = some o') (v : Value) : o'.mut v = o.mut v := by
  cases o <;> simp only [Ob.back, Option.map_eq_some_iff, Option.some.injEq] at h
  · subst h; rfl
  · obtain ⟨cs, _, rfl⟩ := h
    cases v <;> first | rfl | (rename_i p; cases p <;> rfl)
  · subst h; rfl
  · obtain ⟨cs, _, rfl⟩ := h
    cases v <;> first | rfl | (rename_i p; cases p <;> rfl)
  · subst h; rfl
  · subst h; rfl

theorem ObOk.back {P : Program} {A A' : Nat → Prop} {M : Cells} {L : List Nat} {loc' : Nat → Value} {v : Value} (hl : ∀ (i n : Nat), L[i]? = some n → loc' n = loc (1000 + i)) {o o' : Ob} (hb : o.back L = some o') (hA : ∀ b, o.has v b → A' b) (h : ObOk P A w M loc v o) : ObOk P A' w M loc' v o' := by
  cases o <;> simp only [Ob.back, Option.map_eq_some_iff, Option.some.injEq] at hb
  · subst hb; trivial
  · obtain ⟨cs, hcs, rfl⟩ := hb
    obtain ⟨b, l, e, rfl, h2, h3, h4⟩ := h
    exact ⟨b, l, e, rfl, hA b rfl, h3, backs_rep hl h4 hcs⟩
  · subst hb
    obtain ⟨xs, h1, h2, h3⟩ := h
    exact ⟨xs, h1, fun b hb => hA b (Ob.has_own.2 hb), h3⟩
  · obtain ⟨cs, hcs, rfl⟩ := hb
    obtain ⟨b, l, rest, e, rfl, h3, h4⟩ := h
    exact ⟨b, l, rest, e, rfl, h3, backs_rep hl h4 hcs⟩
  · subst hb
    obtain ⟨h1, Lg, rfl, h2, h3⟩ := h
    exact ⟨h1, Lg, rfl, h2, fun b hb => ⟨(h3 b hb).1, hA b ((footV_encV Lg b).2 hb)⟩⟩
  · subst hb
    obtain ⟨b, es, clock, rfl, _, h3, h4⟩ := h
    exact ⟨b, es, clock, rfl, hA b rfl, h3, h4⟩

theorem obsBack_get {L : List Nat} : ∀ {l os : List Ob} {i : Nat} {o : Ob}, obsBack L l = some os → l[i]? = some o → ∃ o', os[i]? = some o' ∧ o.back L = some o'
  | [], _, _, _, _, h => by simp at h
  | x :: l, os, i, o, hb, h => by
    simp only [obsBack] at hb
    split at hb
    · rename_i o1 os1 h1 h2
      simp only [Option.some.injEq] at hb
      subst hb
      match i, h with
      | 0, h => simp at h; subst h; exact ⟨o1, rfl, h1⟩
      | i + 1, h => simpa using obsBack_get h2 (by simpa using h)
    · cases hb

theorem ownBack_in : ∀ {own : Nat → Ob} {L : List Nat} {os : List Ob} {i n : Nat} {o : Ob}, L.Nodup → L[i]? = some n → os[i]? = some o → ownBack own L os n = o
  | own, m :: L, p :: os, 0, n, o, _, h, ho => by simp at h ho; subst h; subst ho; simp [ownBack, upd]
  | own, m :: L, p :: os, i + 1, n, o, hn, h, ho => by
    simp only [List.nodup_cons] at hn
    have hne : n ≠ m := by
      rintro rfl
      exact hn.1 (List.mem_of_getElem? (by simpa using h))
    simp only [ownBack, upd, hne, if_false]
    exact ownBack_in hn.2 (by simpa using h) (by simpa using ho)
  | own, [], os, i, n, o, _, h, _ => by simp at h
  | own, m :: L, [], i, n, o, _, _, ho => by simp at ho

theorem ownBack_out : ∀ {own : Nat → Ob} {L : List Nat} {os : List Ob} {n : Nat}, n ∉ L → ownBack own L os n = own n
  | own, [], os, n, _ => by cases os <;> rfl
  | own, m :: L, [], n, _ => rfl
  | own, m :: L, p :: os, n, h => by
    simp only [List.mem_cons, not_or] at h
    simp only [ownBack, upd, h.1, if_false]
    exact ownBack_out h.2

/-- The blocks of the objects L. -/
def FootL (own : Nat → Ob) (loc : Nat → Value) (L : List Nat) (b : Nat) : Prop := ∃ n ∈ L, (own n).has (loc n) b

theorem G.lent (hg : G C σ loc a w) {L : List Nat} {l' os : List Ob} {loc' : Nat → Value} {w' : World} {M' : Cells} (hL : L.Nodup) (hlen : l'.length = L.length)
    (hA : ∀ n ∈ L, ∀ b, (σ.own n).has (loc n) b → C.A b) (fx : Fx w w' (FootL σ.own loc L))
    (kp : ∀ p : Addr, (w.cell? p).isSome = true → ¬ MM C σ.own loc p.block p.off → w'.cell? p = w.cell? p ∧ ¬ M' p.block p.off)
    (sub : ∀ b o, (MM C σ.own loc b o ∧ ¬ FootL σ.own loc L b) ∨ (∃ (i : Nat) (ob : Ob), l'[i]? = some ob ∧ ob.mut (loc' (1000 + i)) b o) → M' b o)
    (objs : ∀ (i : Nat) (o : Ob), l'[i]? = some o → ObOk C.P (fun _ => True) w' M' loc' (loc' (1000 + i)) o)
    (disj : ∀ (i j : Nat) (o o' : Ob) (b : Nat), i ≠ j → l'[i]? = some o → l'[j]? = some o' → o.has (loc' (1000 + i)) b → o'.has (loc' (1000 + j)) b → False)
    (has : ∀ (i : Nat) (o : Ob) (b : Nat), l'[i]? = some o → o.has (loc' (1000 + i)) b → FootL σ.own loc L b ∨ w.heap.size ≤ b)
    (plc : ∀ (i n : Nat), L[i]? = some n → (loc n).oneCell' = true → loc' (1000 + i) = loc n)
    (bk : obsBack L l' = some os) :
    ∃ loc'', G C ⟨σ.env, ownBack σ.own L os⟩ loc'' a w' ∧ ∀ r r' v, r.back L = some r' → RepA w' M' loc' r v → RepA w' (MM C (ownBack σ.own L os) loc'') loc'' r' v := by
  obtain ⟨loc'', hloc''⟩ : ∃ loc'' : Nat → Value, loc'' = fun n => if n ∈ L then loc' (1000 + L.idxOf n) else loc n := ⟨_, rfl⟩
  have hin : ∀ (i n : Nat), L[i]? = some n → loc'' n = loc' (1000 + i) := by
    intro i n h
    have hlt := (List.getElem?_eq_some_iff.1 h).1
    have he : L[i] = n := (List.getElem?_eq_some_iff.1 h).2
    have hm : n ∈ L := List.mem_of_getElem? h
    rw [hloc'']
    simp only [hm, if_true]
    rw [← he, hL.idxOf_getElem i hlt]
  have hout : ∀ n, n ∉ L → loc'' n = loc n := fun n h => by rw [hloc'']; simp [h]
  have hget : ∀ n, n ∈ L → ∃ (i : Nat) (o o' : Ob), L[i]? = some n ∧ l'[i]? = some o ∧ os[i]? = some o' ∧ o.back L = some o' := by
    intro n hn
    obtain ⟨i, hi⟩ := List.mem_iff_getElem?.1 hn
    have hlt := (List.getElem?_eq_some_iff.1 hi).1
    have h1 : l'[i]? = some (l'[i]'(by omega)) := List.getElem?_eq_getElem _
    obtain ⟨o', h2, h3⟩ := obsBack_get bk h1
    exact ⟨i, _, o', hi, h1, h2, h3⟩
  have hre : ∀ n, (loc n).oneCell' = true → loc'' n = loc n := by
    intro n h
    by_cases hn : n ∈ L
    · obtain ⟨i, hi⟩ := List.mem_iff_getElem?.1 hn
      rw [hin i n hi]
      exact plc i n hi h
    · exact hout n hn
  -- the blocks of what there is now
  have hhas : ∀ n b, (ownBack σ.own L os n).has (loc'' n) b → (n ∈ L ∧ ∃ (i : Nat) (o : Ob), L[i]? = some n ∧ l'[i]? = some o ∧ o.has (loc' (1000 + i)) b) ∨ (n ∉ L ∧ (σ.own n).has (loc n) b) := by
    intro n b h
    by_cases hn : n ∈ L
    · obtain ⟨i, o, o', h1, h2, h3, h4⟩ := hget n hn
      rw [ownBack_in hL h1 h3, hin i n h1, Ob.back_has h4] at h
      exact .inl ⟨hn, i, o, h1, h2, h⟩
    · rw [ownBack_out hn, hout n hn] at h
      exact .inr ⟨hn, h⟩
  have hmut : ∀ b k, Mut (ownBack σ.own L os) loc'' b k → (∃ (i : Nat) (ob : Ob), l'[i]? = some ob ∧ ob.mut (loc' (1000 + i)) b k) ∨ (∃ n, n ∉ L ∧ (σ.own n).mut (loc n) b k) := by
    rintro b k ⟨n, h⟩
    by_cases hn : n ∈ L
    · obtain ⟨i, o, o', h1, h2, h3, h4⟩ := hget n hn
      rw [ownBack_in hL h1 h3, hin i n h1, Ob.back_mut h4] at h
      exact .inl ⟨i, o, h2, h⟩
    · rw [ownBack_out hn, hout n hn] at h
      exact .inr ⟨n, hn, h⟩
  have hsub : ∀ b k, MM C (ownBack σ.own L os) loc'' b k → M' b k := by
    rintro b k (h | h)
    · refine sub b k (.inl ⟨.inl h, ?_⟩)
      rintro ⟨n, hn, hb⟩
      have h1 := hg.m0 b k h
      rcases hA n hn b hb with h2 | h2
      · omega
      · exact h1.2 h2
    · rcases hmut b k h with h1 | ⟨n, hn, h1⟩
      · exact sub b k (.inr h1)
      · refine sub b k (.inl ⟨.inr ⟨n, h1⟩, ?_⟩)
        rintro ⟨m, hm, hb⟩
        exact hg.disj n m b (fun e => hn (e ▸ hm)) (Ob.has_of_mut h1) hb
  have hk : Keeps w w' (MM C σ.own loc) (MM C (ownBack σ.own L os) loc'') :=
    ⟨fun p hp hm => (kp p hp hm).1, fun p hp hm h => (kp p hp hm).2 (hsub _ _ h)⟩
  have hless : Keeps w' w' M' (MM C (ownBack σ.own L os) loc'') := Keeps.less hsub
  refine ⟨loc'', ⟨⟨fx.os.trans hg.fr.os, fx.tape.trans hg.fr.tape, fx.output.trans hg.fr.output, Nat.le_trans hg.fr.size fx.size, fun k hk hx => ?_⟩, hg.m0, hg.kp.trans hk, fun x hx => ?_, hg.mnd, fun n hn => ?_, hg.size, fun t => ?_, fun n => ?_, fun n m b hnm hn hm => ?_⟩, fun r r' v hb hr => ?_⟩
  · refine (fx.block k (Nat.lt_of_lt_of_le hk hg.fr.size) ?_).trans (hg.fr.block k hk hx)
    rintro ⟨n, hn, hb⟩
    rcases hA n hn k hb with h2 | h2
    · exact absurd hk (by omega)
    · exact hx h2
  · obtain ⟨D, e1, e2, e3, e4⟩ := hg.marks x hx
    have hlt := (Array.getElem?_eq_some_iff.1 e3).1
    refine ⟨D, e1, e2, (fx.block D hlt (fun ⟨n, _, hb⟩ => e4 ⟨n, hb⟩)).trans e3, ?_⟩
    rintro ⟨n, hn⟩
    rcases hhas n D hn with ⟨_, i, o, _, h2, h3⟩ | ⟨_, h⟩
    · rcases has i o D h2 h3 with ⟨m, _, hm⟩ | h
      · exact e4 ⟨m, hm⟩
      · omega
    · exact e4 ⟨n, h⟩
  · obtain ⟨p1, p2, p3⟩ := hg.pin n hn
    exact ⟨p1, (hre n (by rw [p2]; exact p3)).trans p2, p3⟩
  · exact RepA.keep hk _ _ ((hg.slots t).reloc hre)
  · show ObOk C.P C.A w' (MM C (ownBack σ.own L os) loc'') loc'' (loc'' n) (ownBack σ.own L os n)
    by_cases hn : n ∈ L
    · obtain ⟨i, o, o', h1, h2, h3, h4⟩ := hget n hn
      rw [ownBack_in hL h1 h3, hin i n h1]
      have := (objs i o h2).keep' hless (Nat.le_refl _) (fun _ _ => rfl)
      refine this.back hin h4 (fun b hb => ?_)
      rcases has i o b h2 hb with ⟨m, hm, hb'⟩ | h
      · exact hA m hm b hb'
      · exact .inl (Nat.le_trans hg.fr.size h)
    · rw [ownBack_out hn, hout n hn]
      refine (ObOk.keep' hk fx.size (fun b hb => fx.block b ((hg.objs n).lt hb) ?_) (hg.objs n)).reloc hre
      rintro ⟨m, hm, hb'⟩
      exact hg.disj n m b (fun e => hn (e ▸ hm)) hb hb'
  · rcases hhas n b hn with ⟨h1, i, o, hi, ho, hb⟩ | ⟨h1, hb⟩ <;> rcases hhas m b hm with ⟨k1, j, o', hj, ho', hb'⟩ | ⟨k1, hb'⟩
    · refine disj i j o o' b ?_ ho ho' hb hb'
      rintro rfl
      rw [hi] at hj
      exact hnm (by simpa using hj)
    · rcases has i o b ho hb with ⟨p, hp, hpb⟩ | h
      · exact hg.disj p m b (fun e => k1 (e ▸ hp)) hpb hb'
      · have := (hg.objs m).lt hb'; omega
    · rcases has j o' b ho' hb' with ⟨p, hp, hpb⟩ | h
      · exact hg.disj p n b (fun e => h1 (e ▸ hp)) hpb hb
      · have := (hg.objs n).lt hb; omega
    · exact hg.disj n m b hnm hb hb'
  · exact back_rep hin (RepA.keep hless _ _ hr) hb
end Go.V

/-
  Calls that are lent objects.
-/
namespace Go.V
variable {C : Ctx} {σ : St} {loc : Nat → Value} {a : Act} {w : World}

def locL (b : Nat) (loc : Nat → Value) (L : List Nat) : Nat → Value := fun n => if b ≤ n then (match L[n - b]? with | some m => loc m | none => undef) else undef

theorem locL_at {b : Nat} {L : List Nat} {i n : Nat} (h : L[i]? = some n) : locL b loc L (b + i) = loc n := by
  simp only [locL, Nat.le_add_right, if_true]
  rw [show b + i - b = i from by omega, h]

theorem nodup_idx {L : List Nat} (hL : L.Nodup) {i j p : Nat} (hi : L[i]? = some p) (hj : L[j]? = some p) : i = j := by
  obtain ⟨h1, e1⟩ := List.getElem?_eq_some_iff.1 hi
  obtain ⟨h2, e2⟩ := List.getElem?_eq_some_iff.1 hj
  have k1 := hL.idxOf_getElem i h1
  have k2 := hL.idxOf_getElem j h2
  rw [e1] at k1
  rw [e2] at k2
  omega

theorem idxOf_get {L : List Nat} {n : Nat} (h : n ∈ L) : L[L.idxOf n]? = some n :=
  List.getElem?_eq_some_iff.2 ⟨List.idxOf_lt_length_iff.2 h, List.getElem_idxOf _⟩

mutual
theorem lend_rep (hg : G C σ loc a w) {b : Nat} {L : List Nat} : ∀ {x y : AV} {v : Value}, RepA w (MM C σ.own loc) loc x v → x.lend b L σ.own = some y → RepA w (MM C σ.own loc) (locL b loc L) y v
  | .c d, y, v, h, hp => by simp only [AV.lend, Option.some.injEq] at hp; subst hp; simpa only [RepA] using h
  | .gr n, y, v, h, hp => by
    simp only [AV.lend] at hp
    split at hp
    · rename_i e sz es hn
      simp only [Option.some.injEq] at hp; subst hp
      simp only [RepA] at h ⊢
      rw [h.1]; exact hg.grow_data hn
    · split at hp
      · rename_i hn
        simp only [Option.some.injEq] at hp; subst hp
        simp only [RepA] at h ⊢
        rw [locL_at (idxOf_get hn)]
        exact h
      · cases hp
    · cases hp
  | .bp n off, y, v, h, hp => by
    simp only [AV.lend] at hp
    split at hp
    · rename_i hn
      simp only [Option.some.injEq] at hp; subst hp
      simp only [RepA] at h ⊢
      rw [locL_at (idxOf_get hn)]
      exact h
    · cases hp
  | .vw sz n off len cap, y, v, h, hp => by
    simp only [AV.lend] at hp
    split at hp
    · rename_i hn
      simp only [Option.some.injEq] at hp; subst hp
      simp only [RepA] at h ⊢
      rw [locL_at (idxOf_get hn)]
      exact h
    · cases hp
  | .agg cs, y, v, h, hp => by
    simp only [AV.lend, Option.map_eq_some_iff] at hp
    obtain ⟨ys, hp, rfl⟩ := hp
    simp only [RepA] at h ⊢
    obtain ⟨l, rfl, hr⟩ := h
    exact ⟨l, rfl, lends_rep hg hr hp⟩
  | .tup cs, y, v, h, hp => by
    simp only [AV.lend, Option.map_eq_some_iff] at hp
    obtain ⟨ys, hp, rfl⟩ := hp
    simp only [RepA] at h ⊢
    obtain ⟨l, rfl, hr⟩ := h
    exact ⟨l, rfl, lends_rep hg hr hp⟩
  | .fn f cs, y, v, h, hp => by
    simp only [AV.lend, Option.map_eq_some_iff] at hp
    obtain ⟨ys, hp, rfl⟩ := hp
    simp only [RepA] at h ⊢
    obtain ⟨l, rfl, hr⟩ := h
    exact ⟨l, rfl, lends_rep hg hr hp⟩
  | .non, y, v, h, hp => by simp only [AV.lend, Option.some.injEq] at hp; subst hp; simp only [RepA]
  | .opt _ _, y, v, h, hp => by simp [AV.lend] at hp
theorem lends_rep (hg : G C σ loc a w) {b : Nat} {L : List Nat} : ∀ {xs ys : List AV} {l : List Value}, RepAs w (MM C σ.own loc) loc xs l → AV.lendL b L σ.own xs = some ys → RepAs w (MM C σ.own loc) (locL b loc L) ys l
  | [], ys, l, h, hp => by simp only [AV.lendL, Option.some.injEq] at hp; subst hp; simpa only [RepAs] using h
  | x :: xs, ys, l, h, hp => by
    simp only [AV.lendL] at hp
    split at hp
    · rename_i y ys' h1 h2
      simp only [Option.some.injEq] at hp; subst hp
      simp only [RepAs] at h ⊢
      obtain ⟨v, vs, rfl, k1, k2⟩ := h
      exact ⟨v, vs, rfl, lend_rep hg k1 h1, lends_rep hg k2 h2⟩
    · cases hp
end

theorem Ob.lend_has {L : List Nat} {own : Nat → Ob} {o o' : Ob} (h : o.lend L own = some o') (v : Value) (b : Nat) : o'.has v b ↔ o.has v b := by
  cases o <;> simp only [Ob.lend, Option.map_eq_some_iff, Option.some.injEq, reduceCtorEq] at h
  · obtain ⟨cs, _, rfl⟩ := h
    cases v <;> first | exact Iff.rfl | (rename_i p; cases p <;> exact Iff.rfl)
  · subst h; exact Iff.rfl
  · subst h; exact Iff.rfl

theorem Ob.lend_mut {L : List Nat} {own : Nat → Ob} {o o' : Ob} (h : o.lend L own = some o') (v : Value) : o'.mut v = o.mut v := by
  cases o <;> simp only [Ob.lend, Option.map_eq_some_iff, Option.some.injEq, reduceCtorEq] at h
  · obtain ⟨cs, _, rfl⟩ := h
    cases v <;> first | rfl | (rename_i p; cases p <;> rfl)
  · subst h; rfl
  · subst h; rfl

theorem ObOk.lend (hg : G C σ loc a w) {L : List Nat} {n : Nat} {o' : Ob} (hb : (σ.own n).lend L σ.own = some o') : ObOk C.P (fun _ => True) w (MM C σ.own loc) (locL 1000 loc L) (loc n) o' ∧ ∀ b, (σ.own n).has (loc n) b → C.A b := by
  have h := hg.objs n
  cases ho : σ.own n <;> rw [ho] at h hb <;> simp only [Ob.lend, Option.map_eq_some_iff, Option.some.injEq, reduceCtorEq] at hb
  · obtain ⟨cs, hcs, rfl⟩ := hb
    obtain ⟨b, l, e, h1, h2, h3, h4⟩ := h
    refine ⟨⟨b, l, e, h1, trivial, h3, lends_rep hg h4 hcs⟩, fun b' hb' => ?_⟩
    rw [h1] at hb'
    simp only [Ob.has] at hb'
    subst hb'
    exact h2
  · subst hb
    obtain ⟨h1, Lg, h0, h2, h3⟩ := h
    refine ⟨⟨h1, Lg, h0, h2, fun b hb => ⟨(h3 b hb).1, trivial⟩⟩, fun b hb => ?_⟩
    rw [h0] at hb
    simp only [Ob.has, footV_encV] at hb
    exact (h3 b hb).2
  · subst hb
    obtain ⟨b, es, clock, h1, h2, h3, h4⟩ := h
    refine ⟨⟨b, es, clock, h1, trivial, h3, h4⟩, fun b' hb' => ?_⟩
    rw [h1] at hb'
    simp only [Ob.has] at hb'
    subst hb'
    exact h2

theorem obsLend_get {L : List Nat} {own : Nat → Ob} : ∀ {ns : List Nat} {l : List Ob}, obsLend L own ns = some l → l.length = ns.length ∧ (∀ (i n : Nat), ns[i]? = some n → ∃ o, l[i]? = some o ∧ (own n).lend L own = some o) ∧ ∀ (i : Nat) (o : Ob), l[i]? = some o → ∃ n, ns[i]? = some n ∧ (own n).lend L own = some o
  | [], l, h => by simp only [obsLend, Option.some.injEq] at h; subst h; simp
  | m :: ns, l, h => by
    simp only [obsLend] at h
    split at h
    · rename_i o os h1 h2
      simp only [Option.some.injEq] at h
      subst h
      obtain ⟨i1, i2, i3⟩ := obsLend_get h2
      refine ⟨by simp [i1], fun i n hi => ?_, fun i o' hi => ?_⟩
      · match i, hi with
        | 0, hi => simp at hi; subst hi; exact ⟨o, rfl, h1⟩
        | i + 1, hi => simpa using i2 i n (by simpa using hi)
      · match i, hi with
        | 0, hi => simp at hi; subst hi; exact ⟨m, rfl, h1⟩
        | i + 1, hi => simpa using i3 i o' (by simpa using hi)
    · cases h

theorem ownW_at {l : List Ob} {wl : List (List AV)} {i : Nat} {o : Ob} (hl : l.length ≤ 1000) (h : l[i]? = some o) : ownW l wl (1000 + i) = o := by
  have hlt := (List.getElem?_eq_some_iff.1 h).1
  unfold ownW ownL
  rw [if_neg (by omega), if_pos (by omega), show 1000 + i - 1000 = i from by omega, List.getD_eq_getElem?_getD, h]
  rfl

theorem ownL_at {l : List Ob} {i : Nat} {o : Ob} (h : l[i]? = some o) : ownL 1000 l (1000 + i) = o := by
  unfold ownL
  rw [if_pos (by omega), show 1000 + i - 1000 = i from by omega, List.getD_eq_getElem?_getD, h]
  rfl

theorem ownL_cases (l : List Ob) (n : Nat) : (∃ i o, n = 1000 + i ∧ l[i]? = some o ∧ ownL 1000 l n = o) ∨ ownL 1000 l n = .none := by
  unfold ownL
  split
  · rename_i h
    cases ho : l[n - 1000]? with
    | none => right; rw [List.getD_eq_getElem?_getD, ho]; rfl
    | some o => exact .inl ⟨n - 1000, o, by omega, ho, by rw [List.getD_eq_getElem?_getD, ho]; rfl⟩
  · exact .inr rfl

theorem ownW_cases (l : List Ob) (wl : List (List AV)) (n : Nat) : (∃ i o, n = 1000 + i ∧ n < 2000 ∧ l[i]? = some o ∧ ownW l wl n = o) ∨ (∃ j cs, n = 2000 + j ∧ wl[j]? = some cs ∧ ownW l wl n = .win cs) ∨ ownW l wl n = .none := by
  unfold ownW
  split
  · rename_i h
    cases hw : wl[n - 2000]? with
    | none => exact .inr (.inr rfl)
    | some cs => exact .inr (.inl ⟨n - 2000, cs, by omega, hw, rfl⟩)
  · rename_i h
    rcases ownL_cases l n with ⟨i, o, h1, h2, h3⟩ | h1
    · exact .inl ⟨i, o, h1, by omega, h2, h3⟩
    · exact .inr (.inr h1)

/-- What is asked of whoever is lent objects: they are what they are said to be. -/
theorem lent_start (hg : G C σ loc a w) {L : List Nat} {l : List Ob} (hL : L.Nodup) (hlen : l.length ≤ 1000) (hl : obsLend L σ.own L = some l) :
    (∀ b k, ((MM C σ.own loc b k ∧ ¬ FootL σ.own loc L b) → b < w.heap.size ∧ ¬ Foot (ownW l []) (locL 1000 loc L) b)) ∧
    (∀ b k, AddM (fun b k => MM C σ.own loc b k ∧ ¬ FootL σ.own loc L b) (ownW l []) (locL 1000 loc L) b k → MM C σ.own loc b k) ∧
    LentOk C.P w (fun b k => MM C σ.own loc b k ∧ ¬ FootL σ.own loc L b) (locL 1000 loc L) (ownW l []) ∧
    (∀ n ∈ L, ∀ b, (σ.own n).has (loc n) b → C.A b) ∧
    (∀ b, Foot (ownL 1000 l) (locL 1000 loc L) b → FootL σ.own loc L b) ∧ (∀ b, Foot (ownW l []) (locL 1000 loc L) b → FootL σ.own loc L b) := by
  obtain ⟨e1, e2, e3⟩ := obsLend_get hl
  have hone : ∀ n b, (ownW l [] n).has (locL 1000 loc L n) b → ∃ i m, n = 1000 + i ∧ L[i]? = some m ∧ (σ.own m).has (loc m) b := by
    intro n b h
    rcases ownW_cases l [] n with ⟨i, o, rfl, _, h2, h3⟩ | ⟨j, cs, _, h2, _⟩ | h3
    · obtain ⟨m, hm, hlm⟩ := e3 i o h2
      rw [h3, locL_at hm, Ob.lend_has hlm] at h
      exact ⟨i, m, rfl, hm, h⟩
    · simp at h2
    · rw [h3] at h; exact (Ob.has_none _ _ h).elim
  have hfw : ∀ b, Foot (ownW l []) (locL 1000 loc L) b → FootL σ.own loc L b := by
    rintro b ⟨n, h⟩
    obtain ⟨i, m, _, hm, hb⟩ := hone n b h
    exact ⟨m, List.mem_of_getElem? hm, hb⟩
  have hfl : ∀ b, Foot (ownL 1000 l) (locL 1000 loc L) b → FootL σ.own loc L b := by
    rintro b ⟨n, h⟩
    rcases ownL_cases l n with ⟨i, o, rfl, h2, h3⟩ | h3
    · obtain ⟨m, hm, hlm⟩ := e3 i o h2
      rw [h3, locL_at hm, Ob.lend_has hlm] at h
      exact ⟨m, List.mem_of_getElem? hm, h⟩
    · rw [h3] at h; exact (Ob.has_none _ _ h).elim
  have hsub : ∀ b k, AddM (fun b k => MM C σ.own loc b k ∧ ¬ FootL σ.own loc L b) (ownW l []) (locL 1000 loc L) b k → MM C σ.own loc b k := by
    rintro b k (⟨h, _⟩ | ⟨n, h⟩)
    · exact h
    · rcases ownW_cases l [] n with ⟨i, o, rfl, _, h2, h3⟩ | ⟨j, cs, _, h2, _⟩ | h3
      · obtain ⟨m, hm, hlm⟩ := e3 i o h2
        rw [h3, locL_at hm, Ob.lend_mut hlm] at h
        exact .inr ⟨m, h⟩
      · simp at h2
      · rw [h3] at h; exact (Ob.has_none _ _ (Ob.has_of_mut h)).elim
  refine ⟨fun b k ⟨h1, h2⟩ => ⟨MM_lt hg b k h1, fun h => h2 (hfw b h)⟩, hsub, ⟨fun n => ?_, fun n m b hnm h1 h2 => ?_⟩, fun n hn b hb => ?_, hfl, hfw⟩
  · rcases ownW_cases l [] n with ⟨i, o, rfl, _, h2, h3⟩ | ⟨j, cs, _, h2, _⟩ | h3
    · obtain ⟨m, hm, hlm⟩ := e3 i o h2
      rw [h3, locL_at hm]
      exact (ObOk.lend hg hlm).1.keep' (Keeps.less hsub) (Nat.le_refl _) (fun _ _ => rfl)
    · simp at h2
    · rw [h3]; trivial
  · obtain ⟨i, p, rfl, hp, hpb⟩ := hone n b h1
    obtain ⟨j, q, rfl, hq, hqb⟩ := hone m b h2
    refine hg.disj p q b ?_ hpb hqb
    rintro rfl
    exact hnm (by rw [nodup_idx hL hp hq])
  · obtain ⟨i, hi⟩ := List.mem_iff_getElem?.1 hn
    obtain ⟨o, _, ho⟩ := e2 i n hi
    exact (ObOk.lend hg ho).2 b hb
end Go.V

/-
  Calls, each kind.
-/
namespace Go.V
variable {C : Ctx} {σ : St} {loc : Nat → Value} {a : Act} {w : World}

theorem Ctx.F_fn (C : Ctx) (f : FuncId) : C.F.fn f := by unfold Ctx.F; cases C.rd <;> exact trivial
theorem Ctx.F_depth (C : Ctx) : C.F.depth = none := by unfold Ctx.F; cases C.rd <;> rfl

theorem callsIn_C {P : Program} {f : FuncId} {args : Array Value} {w : World} {R : Ending → World → Prop} (C : Ctx) (h : Calls P f args w R) : CallsIn C.F 0 P f args w R := by
  unfold Ctx.F
  cases C.rd with
  | none => exact callsIn_wide.2 h
  | some l => exact CallsIn.inRound l (callsIn_wide.2 h)

theorem roundIn_C {P : Program} {l : Nat} {f : FuncId} {tmps : Array Value} {assign body : Code} {w : World} {R : Ending → World → Prop} (C : Ctx) (h : RoundIn Fence.wide 0 P l f tmps assign body w R) : RoundIn C.F 0 P l f tmps assign body w R := by
  unfold Ctx.F
  cases C.rd with
  | none => exact h
  | some l' => exact h

theorem cI_defer {P : Program} {op : Op} {i : I} (h : CI P op i) : ∀ c, op ≠ .defer c := by
  intro c
  cases h <;> simp

theorem wpIn_of {o : Oper} {i : I} (hc : cI C.P o.op = some i) {K : Act → World → Prop} {Q : Exit → Act → World → Prop} (hu : o.uponIn C.F 0 C.P a K Q ((execOp a.eval o).run C.P w)) : o.wpIn C.F 0 C.P a w K Q :=
  ⟨fun f _ => C.F_fn f, by rw [Oper.semAt_eq _ _ _ (cI_defer (cI_inv hc))]; exact hu⟩

theorem cI_call {P : Program} {op : Op} {f : X} {xs : List X} (hc : cI P op = some (.call f xs)) : ∃ c f', op = .call c ∧ c.callee = .value f' ∧ cX f' = some f ∧ cXs c.args.toList = some xs := by
  cases cI_inv hc with
  | call hcal hf hxs => exact ⟨_, _, rfl, hcal, hf, hxs⟩

/-- The call of a function value. -/
theorem wpIn_callV {o : Oper} {f : X} {xs : List X} (hc : cI C.P o.op = some (.call f xs)) {fv : Value} {vs : List Value}
    (he : ∀ c f', o.op = .call c → c.callee = .value f' → cX f' = some f → cXs c.args.toList = some xs → a.eval f' = fv ∧ c.args.toList.map a.eval = vs)
    {R : Ending → World → Prop} (h : CallsV C.P fv vs w R) {K : Act → World → Prop} {Q : Exit → Act → World → Prop} (hR : ∀ e w', R e w' → ∃ v, e = .returned v ∧ K (a.put o.dst v) w') : o.wpIn C.F 0 C.P a w K Q := by
  refine wpIn_of hc ?_
  obtain ⟨c, f', ho, hcal, hf', hxs⟩ := cI_call hc
  obtain ⟨e1, e2⟩ := he c f' ho hcal hf' hxs
  have hargs : c.args.map a.eval = vs.toArray := by apply Array.ext'; rw [Array.toList_map, e2]
  rcases h with ⟨fid, lc, rfl, ⟨fn, hfn, hbody, hname⟩, hcall⟩ | ⟨l, rfl, fn, tmps, assign, body, hy, hround⟩
  · obtain ⟨bd, hbn⟩ := Option.isSome_iff_exists.1 hbody
    have hrun : (execOp a.eval o).run C.P w = .ok (.enter fid (vs.toArray ++ lc)) w := by
      simp [execOp, ho, resolve, hcal, Deferred.ofValue, e1, invoke, callFunc, hfn, hname, hbn, hargs]
    rw [hrun, Oper.uponIn_enter]
    refine ⟨fun h => (by rw [C.F_depth] at h; cases h), (callsIn_C C hcall).mono fun e w' hr => ?_⟩
    obtain ⟨v, rfl, hk⟩ := hR e w' hr
    exact hk
  · have hrun : (execOp a.eval o).run C.P w = .ok (.round l fn tmps assign body) w := by
      simp [execOp, ho, resolve, hcal, Deferred.ofValue, e1, invoke, hargs, hy]
    rw [hrun, Oper.uponIn_round]
    refine ⟨fun h => (by rw [C.F_depth] at h; cases h), (roundIn_C C hround).mono fun e w' hr => ?_⟩
    obtain ⟨v, rfl, hk⟩ := hR e w' hr
    exact hk

section
variable {o : Oper} {f : X} {xs : List X}

/-- Of a call of a function, with what it has captured. -/
theorem wpIn_callF (hg : G C σ loc a w) (hc : cI C.P o.op = some (.call f xs)) {fid : FuncId} {caps : List AV} (hfd : (σ.val f).dg = true) (hxd : (xs.all fun x => (σ.val x).dg) = true) (hf : (σ.val f).dv = .fn fid caps) (hcl : callable C.P fid)
    {R : Ending → World → Prop} (h : ∀ vs, RepAs w (MM C σ.own loc) loc (xs.map (fun x => (σ.val x).dv) ++ caps) vs → Calls C.P fid vs.toArray w R)
    {K : Act → World → Prop} {Q : Exit → Act → World → Prop} (hR : ∀ e w', R e w' → ∃ v, e = .returned v ∧ K (a.put o.dst v) w') : o.wpIn C.F 0 C.P a w K Q := by
  obtain ⟨c, f', ho, hcal, hf', hxs⟩ := cI_call hc
  have hrf := vald hg hf' hfd
  rw [hf] at hrf
  simp only [RepA] at hrf
  obtain ⟨lc, hfv, hrc⟩ := hrf
  have hrx := vals_rep hg c.args.toList xs hxs (fun x hx => by have := List.all_eq_true.1 hxd x hx; simpa using this)
  refine wpIn_callV hc (fv := .func (.func fid) #[] lc.toArray) (vs := c.args.toList.map a.eval) (fun c1 f1 h1 h2 _ _ => ?_) (.inl ⟨fid, lc.toArray, rfl, hcl, ?_⟩) hR
  · rw [ho] at h1
    cases h1
    rw [hcal] at h2
    cases h2
    exact ⟨hfv, rfl⟩
  · have := h _ (hrx.append hrc)
    have e1 : (c.args.toList.map a.eval).toArray ++ lc.toArray = (c.args.toList.map a.eval ++ lc).toArray := by apply Array.ext'; simp
    rw [e1]
    exact this

theorem call_pure (hg : G C σ loc a w) (hc : cI C.P o.op = some (.call f xs)) {fid : FuncId} {caps args : List AV} {r : AV} (hfd : (σ.val f).dg = true) (hxd : (xs.all fun x => (σ.val x).dg) = true) (hf : (σ.val f).dv = .fn fid caps)
    (hp : AV.portL σ.own (xs.map (fun x => (σ.val x).dv) ++ caps) = some args) (hpure : r.pureB = true) (hs : FSpec C.P fid args r) {K : Act → World → Prop} {Q : Exit → Act → World → Prop}
    (hK : ∀ v w', RepA w' (MM C σ.own loc) loc r v → G C σ loc a w' → K (a.put o.dst v) w') : o.wpIn C.F 0 C.P a w K Q := by
  refine wpIn_callF hg hc hfd hxd hf hs.1 (fun vs hvs => hs.2 w (MM C σ.own loc) vs (MM_lt hg) (ports_rep hg hvs hp)) fun e w' h => ?_
  obtain ⟨v, rfl, hr, hb⟩ := h
  exact ⟨v, rfl, hK v w' (pure_loc hpure hr) (hg.below hb).2⟩

/-! ### Views, read for the time of a call -/
theorem grp_len {α : Type} (sz : Nat) : ∀ (n : Nat) (l : List α), (grp sz n l).length = n
  | 0, _ => rfl
  | n + 1, l => by simp [grp, grp_len sz n]
theorem grp_flat {α : Type} (sz : Nat) : ∀ (n : Nat) (l : List α), l.length = n * sz → (grp sz n l).flatten = l
  | 0, l, h => by simp at h; subst h; rfl
  | n + 1, l, h => by
    have hm : (n + 1) * sz = n * sz + sz := by rw [Nat.add_mul]; omega
    rw [hm] at h
    simp only [grp, List.flatten_cons]
    rw [grp_flat sz n _ (by simp; omega)]
    exact List.take_append_drop sz l
theorem grp_sz {α : Type} (sz : Nat) : ∀ (n : Nat) (l : List α), l.length = n * sz → ∀ e ∈ grp sz n l, e.length = sz
  | 0, l, h, e, he => by simp [grp] at he
  | n + 1, l, h, e, he => by
    have hm : (n + 1) * sz = n * sz + sz := by rw [Nat.add_mul]; omega
    rw [hm] at h
    simp only [grp, List.mem_cons] at he
    rcases he with rfl | he
    · simp; omega
    · exact grp_sz sz n _ (by simp; omega) e he

theorem cellsR_ok (hg : G C σ loc a w) {n : Nat} {cs : List AV} (h : (σ.own n).cellsR = some cs) : ∃ b l rest e, loc n = .pointer (some ⟨b, 0, none⟩) ∧ w.heap[b]? = some (.cells (l ++ rest).toArray e (0, 0)) ∧ RepAs w (MM C σ.own loc) loc cs l ∧ ∀ o, MM C σ.own loc b o := by
  have hob := hg.objs n
  cases ho : σ.own n <;> rw [ho] at h hob <;> simp only [Ob.cellsR, Option.some.injEq, reduceCtorEq] at h
  · subst h
    obtain ⟨b, l, e, h1, _, h3, h4⟩ := hob
    exact ⟨b, l, [], e, h1, by simpa using h3, h4, fun o => .inr ⟨n, by rw [ho, h1]; rfl⟩⟩
  · subst h
    obtain ⟨b, l, rest, e, h1, h3, h4⟩ := hob
    exact ⟨b, l, rest, e, h1, h3, h4, fun o => .inr ⟨n, by rw [ho, h1]; rfl⟩⟩

theorem elemsV_rep (hg : G C σ loc a w) {x : AV} {v : Value} {sz : Nat} {es : List (List CD)} (hr : RepA w (MM C σ.own loc) loc x v) (he : x.elemsV σ.own = some (sz, es)) : RepC w (fun _ _ => False) (.sl sz es) v := by
  cases x <;> simp only [AV.elemsV, reduceCtorEq] at he
  rename_i sz' n off len cap
  split at he
  · rename_i cs hcs
    split at he
    · rename_i hfit
      simp only [Option.map_eq_some_iff, Prod.mk.injEq] at he
      obtain ⟨ds, hds, rfl, rfl⟩ := he
      obtain ⟨b, l, rest, e, hl, hh, hrs, _⟩ := cellsR_ok hg hcs
      simp only [RepA] at hr
      obtain ⟨b', o', hl', rfl, hoff, hlc, hcm⟩ := hr
      rw [hl] at hl'
      simp only [Value.pointer.injEq, Option.some.injEq, Addr.mk.injEq, and_true] at hl'
      subst hl'
      have hll := hrs.length
      have hrd := toCDs_rep hg ((hrs.drop off).take (len * sz')) hds
      have hdl := hrd.length
      simp only [List.length_map, List.length_take, List.length_drop] at hdl
      have hdl' : ds.length = len * sz' := by omega
      simp only [RepC, grp_len]
      refine ⟨_, cap, rfl, hlc, hcm, ?_⟩
      by_cases h0 : len = 0
      · subst h0; exact .inl rfl
      · right
        have ho : o' = off := hoff (by omega)
        subst ho
        refine ⟨_, rfl, ?_⟩
        refine repE_of (grp sz' len ds) ((l.drop o').take (len * sz')) o' (grp_sz sz' len ds hdl') ?_ (fun j u hj => ?_) (fun _ _ h => h)
        · rw [grp_flat sz' len ds hdl']
          exact RepAs.keep (Keeps.less fun _ _ h => h.elim) _ _ hrd
        · rw [List.getElem?_take] at hj
          split at hj
          · rw [List.getElem?_drop] at hj
            rw [cell_bp hh, List.getElem?_append_left (List.getElem?_eq_some_iff.1 hj).1, hj]
          · cases hj
    · cases he
  · cases he

mutual
theorem vport_rep (hg : G C σ loc a w) : ∀ {x : AV} {v : Value} {y : AV}, RepA w (MM C σ.own loc) loc x v → x.vport σ.own = some y → RepA w (fun _ _ => False) (fun _ => undef) y v
  | .c d, v, y, h, hp => by simp only [AV.vport, Option.some.injEq] at hp; subst hp; simp only [RepA] at h ⊢; exact RepC.keeps (Keeps.less fun _ _ h => h.elim) _ _ h
  | .gr n, v, y, h, hp => by
    simp only [AV.vport] at hp
    split at hp
    · rename_i e sz es hn
      simp only [Option.some.injEq] at hp; subst hp
      simp only [RepA] at h ⊢
      rw [h.1]; exact RepC.keeps (Keeps.less fun _ _ h => h.elim) _ _ (hg.grow_data hn)
    · cases hp
  | .vw sz n off len cap, v, y, h, hp => by
    simp only [AV.vport, Option.map_eq_some_iff] at hp
    obtain ⟨⟨s, es⟩, he, rfl⟩ := hp
    simp only [RepA]
    exact elemsV_rep hg h he
  | .agg cs, v, y, h, hp => by
    simp only [AV.vport, Option.map_eq_some_iff] at hp
    obtain ⟨ys, hp, rfl⟩ := hp
    simp only [RepA] at h ⊢
    obtain ⟨l, rfl, hr⟩ := h
    exact ⟨l, rfl, vports_rep hg hr hp⟩
  | .tup cs, v, y, h, hp => by
    simp only [AV.vport, Option.map_eq_some_iff] at hp
    obtain ⟨ys, hp, rfl⟩ := hp
    simp only [RepA] at h ⊢
    obtain ⟨l, rfl, hr⟩ := h
    exact ⟨l, rfl, vports_rep hg hr hp⟩
  | .fn f cs, v, y, h, hp => by
    simp only [AV.vport, Option.map_eq_some_iff] at hp
    obtain ⟨ys, hp, rfl⟩ := hp
    simp only [RepA] at h ⊢
    obtain ⟨l, rfl, hr⟩ := h
    exact ⟨l, rfl, vports_rep hg hr hp⟩
  | .non, v, y, h, hp => by simp [AV.vport] at hp
  | .bp _ _, v, y, h, hp => by simp [AV.vport] at hp
  | .opt _ _, v, y, h, hp => by simp [AV.vport] at hp
theorem vports_rep (hg : G C σ loc a w) : ∀ {xs : List AV} {l : List Value} {ys : List AV}, RepAs w (MM C σ.own loc) loc xs l → AV.vportL σ.own xs = some ys → RepAs w (fun _ _ => False) (fun _ => undef) ys l
  | [], l, ys, h, hp => by simp only [AV.vportL, Option.some.injEq] at hp; subst hp; simpa only [RepAs] using h
  | x :: xs, l, ys, h, hp => by
    simp only [AV.vportL] at hp
    split at hp
    · rename_i y ys' h1 h2
      simp only [Option.some.injEq] at hp; subst hp
      simp only [RepAs] at h ⊢
      obtain ⟨v, vs, rfl, k1, k2⟩ := h
      exact ⟨v, vs, rfl, vport_rep hg k1 h1, vports_rep hg k2 h2⟩
    · cases hp
end

theorem scal_c {w' : World} {M M' : Cells} {d : CD} {v : Value} (hs : d.scal = true) (h : RepC w M d v) : RepC w' M' d v := by
  cases d <;> simp only [CD.scal, Bool.false_eq_true] at hs <;> simpa only [RepC] using h
mutual
theorem scal_rep {w' : World} {M M' : Cells} {loc loc' : Nat → Value} : ∀ {r : AV} {v : Value}, r.scal = true → RepA w M loc r v → RepA w' M' loc' r v
  | .c d, v, hs, h => by simp only [AV.scal] at hs; simp only [RepA] at h ⊢; exact scal_c hs h
  | .agg cs, v, hs, h => by
    simp only [AV.scal] at hs
    simp only [RepA] at h ⊢
    obtain ⟨l, rfl, hr⟩ := h
    exact ⟨l, rfl, scals_rep hs hr⟩
  | .tup cs, v, hs, h => by
    simp only [AV.scal] at hs
    simp only [RepA] at h ⊢
    obtain ⟨l, rfl, hr⟩ := h
    exact ⟨l, rfl, scals_rep hs hr⟩
  | .non, v, hs, h => by simp [AV.scal] at hs
  | .bp _ _, v, hs, h => by simp [AV.scal] at hs
  | .gr _, v, hs, h => by simp [AV.scal] at hs
  | .vw _ _ _ _ _, v, hs, h => by simp [AV.scal] at hs
  | .fn _ _, v, hs, h => by simp [AV.scal] at hs
  | .opt _ _, v, hs, h => by simp [AV.scal] at hs
theorem scals_rep {w' : World} {M M' : Cells} {loc loc' : Nat → Value} : ∀ {rs : List AV} {l : List Value}, AV.scalL rs = true → RepAs w M loc rs l → RepAs w' M' loc' rs l
  | [], l, _, h => by simpa only [RepAs] using h
  | r :: rs, l, hs, h => by
    simp only [AV.scalL, Bool.and_eq_true] at hs
    simp only [RepAs] at h ⊢
    obtain ⟨v, vs, rfl, h1, h2⟩ := h
    exact ⟨v, vs, rfl, scal_rep hs.1 h1, scals_rep hs.2 h2⟩
end

theorem call_vol (hg : G C σ loc a w) (hc : cI C.P o.op = some (.call f xs)) {fid : FuncId} {caps args : List AV} {r : AV} (hfd : (σ.val f).dg = true) (hxd : (xs.all fun x => (σ.val x).dg) = true) (hf : (σ.val f).dv = .fn fid caps)
    (hp : AV.vportL σ.own (xs.map (fun x => (σ.val x).dv) ++ caps) = some args) (hpure : r.pureB = true) (hs : FSpecF C.P fid args r ∨ FSpec C.P fid args r ∧ r.scal = true) {K : Act → World → Prop} {Q : Exit → Act → World → Prop}
    (hK : ∀ v w', RepA w' (MM C σ.own loc) loc r v → G C σ loc a w' → K (a.put o.dst v) w') : o.wpIn C.F 0 C.P a w K Q := by
  rcases hs with hs | ⟨hs, hsc⟩
  · refine wpIn_callF hg hc hfd hxd hf hs.1 (fun vs hvs => hs.2 w vs (vports_rep hg hvs hp)) fun e w' h => ?_
    obtain ⟨v, rfl, hr, hb⟩ := h
    exact ⟨v, rfl, hK v w' (pure_loc hpure (RepA.keep (Keeps.less fun b k h => MM_lt hg b k h) _ _ hr)) (hg.below hb).2⟩
  · refine wpIn_callF hg hc hfd hxd hf hs.1 (fun vs hvs => hs.2 w (fun _ _ => False) vs (fun _ _ h => h.elim) (vports_rep hg hvs hp)) fun e w' h => ?_
    obtain ⟨v, rfl, hr, hb⟩ := h
    exact ⟨v, rfl, hK v w' (scal_rep hsc hr) (hg.below hb).2⟩
end
end Go.V

/-
  Calls that are lent objects, and calls of guests.
-/
namespace Go.V
variable {C : Ctx} {σ : St} {loc : Nat → Value} {a : Act} {w : World}

/-- What is not lent, of what may not be read. -/
def McL (C : Ctx) (σ : St) (loc : Nat → Value) (L : List Nat) : Cells := fun b k => MM C σ.own loc b k ∧ ¬ FootL σ.own loc L b

theorem lent_end (hg : G C σ loc a w) {L : List Nat} {l : List Ob} (hL : L.Nodup) (hlen : l.length ≤ 1000) (hl : obsLend L σ.own L = some l) {w' : World} {l' os : List Ob} {loc' : Nat → Value} (hll : l'.length = l.length)
    (fx : Fx w w' (Foot (ownL 1000 l) (locL 1000 loc L)))
    (kp : Keeps w w' (AddM (McL C σ loc L) (ownW l []) (locL 1000 loc L)) (AddM (McL C σ loc L) (ownW l' []) loc')) (ok : LentOk C.P w' (McL C σ loc L) loc' (ownW l' []))
    (has : ∀ n b, (ownL 1000 l' n).has (loc' n) b → Foot (ownL 1000 l) (locL 1000 loc L) b ∨ w.heap.size ≤ b) (plc : ∀ n, (ownW l [] n).isPlace = true → loc' n = locL 1000 loc L n) (bk : obsBack L l' = some os) :
    ∃ loc'', G C ⟨σ.env, ownBack σ.own L os⟩ loc'' a w' ∧ ∀ r r' v, r.back L = some r' → RepA w' (AddM (McL C σ loc L) (ownW l' []) loc') loc' r v → RepA w' (MM C (ownBack σ.own L os) loc'') loc'' r' v := by
  obtain ⟨s1, s2, s3, s4, s5, s6⟩ := lent_start hg hL hlen hl
  obtain ⟨e1, e2, e3⟩ := obsLend_get hl
  have hlen' : l'.length ≤ 1000 := by omega
  refine hg.lent (M' := AddM (McL C σ loc L) (ownW l' []) loc') hL (by omega) s4 ⟨fx.os, fx.tape, fx.output, fx.size, fun k hk hn => fx.block k hk fun h => hn (s5 k h)⟩
    (fun p hp hm => ⟨kp.cell p hp fun h => hm (s2 _ _ h), kp.free p hp fun h => hm (s2 _ _ h)⟩) ?_ ?_ ?_ ?_ ?_ bk
  · rintro b k (h | ⟨i, ob, hi, hb⟩)
    · exact .inl h
    · exact .inr ⟨1000 + i, by rw [ownW_at hlen' hi]; exact hb⟩
  · intro i o hi
    have := ok.objs (1000 + i)
    rwa [ownW_at hlen' hi] at this
  · intro i j o o' b hij hi hj hb hb'
    exact ok.disj (1000 + i) (1000 + j) b (by omega) (by rw [ownW_at hlen' hi]; exact hb) (by rw [ownW_at hlen' hj]; exact hb')
  · intro i o b hi hb
    rcases has (1000 + i) b (by rw [ownL_at hi]; exact hb) with h | h
    · exact .inl (s5 b h)
    · exact .inr h
  · intro i n hi hone
    obtain ⟨o, ho, hlo⟩ := e2 i n hi
    have hob := hg.objs n
    have : (ownW l [] (1000 + i)).isPlace = true := by
      rw [ownW_at hlen ho]
      cases hx : σ.own n <;> rw [hx] at hlo hob <;> simp only [Ob.lend, Option.map_eq_some_iff, Option.some.injEq, reduceCtorEq] at hlo
      · obtain ⟨cs, _, rfl⟩ := hlo; rfl
      · obtain ⟨_, Lg, h0, _⟩ := hob
        rw [h0] at hone
        cases hone
      · subst hlo; rfl
    rw [plc _ this, locL_at hi]

section
variable {o : Oper} {f : X} {xs : List X}

theorem call_lend (hg : G C σ loc a w) (hc : cI C.P o.op = some (.call f xs)) (hd : o.dst.all (· < C.N) = true) {K' : St → Prop} (h : ACallL C.P o.dst f xs K' σ) {K : Act → World → Prop} {Q : Exit → Act → World → Prop}
    (hK : ∀ σ' a' w', Gam C σ' a' w' → K' σ' → K a' w') : o.wpIn C.F 0 C.P a w K Q := by
  obtain ⟨fid, caps, L, l, args, Post, hfd, hxd, hf, hL, hp, hl, hs, hpost⟩ := h
  obtain ⟨hcl, hlen, hs⟩ := hs
  obtain ⟨s1, s2, s3, s4, s5, s6⟩ := lent_start hg hL hlen hl
  refine wpIn_callF hg hc hfd hxd hf hcl (fun vs hvs => hs w (McL C σ loc L) (locL 1000 loc L) vs (fun b k hm => s1 b k hm) s3 (RepAs.keep (Keeps.less s2) _ _ (lends_rep hg hvs hp))) fun e w' h => ?_
  obtain ⟨v, r, l', loc', rfl, hP, hll, fx, kp, ok, has, plc, hr⟩ := h
  obtain ⟨r', os, hb, hbk, hk'⟩ := hpost r l' hP
  obtain ⟨loc'', hg', hre⟩ := lent_end hg hL hlen hl hll fx kp ok has (fun n hn => (plc n hn).2) hbk
  exact ⟨v, rfl, hK _ _ _ ⟨loc'', hg'.put hd (hre r r' v hb hr)⟩ hk'⟩

/-- A guest has been called. -/
theorem G.guest (hg : G C σ loc a w) {n : Nat} {g : Gst} {ent rem : List Ent} {Lg L' : List Nat} {w' : World} (hown : σ.own n = .guest g ent) (hloc : loc n = encV Lg) (fx : Fx w w' (· ∈ Lg)) (hL' : ∀ b ∈ L', (b ∈ Lg ∨ w.heap.size ≤ b) ∧ b < w'.heap.size)
    (hJ : g.J rem L' (fun b o => (MM C σ.own loc b o ∧ b ∉ Lg) ∨ b ∈ L') w') : G C ⟨σ.env, upd σ.own n (.guest g rem)⟩ (upd loc n (encV L')) a w' := by
  have hob := hg.objs n
  rw [hown] at hob
  obtain ⟨hok, Lg0, h0, _, hA⟩ := hob
  have hfoot : ∀ b, b ∈ Lg ↔ (σ.own n).has (loc n) b := fun b => by rw [hown, hloc]; simp only [Ob.has, footV_encV]
  have hA' : ∀ b ∈ Lg, b < w.heap.size ∧ C.A b := by
    intro b hb
    rw [hfoot, hown, h0] at hb
    simp only [Ob.has, footV_encV] at hb
    exact hA b hb
  have hin : upd loc n (encV L') n = encV L' := by simp [upd]
  have hout : ∀ m, m ≠ n → upd loc n (encV L') m = loc m := fun m hm => by simp [upd, hm]
  have hre : ∀ m, (loc m).oneCell' = true → upd loc n (encV L') m = loc m := by
    intro m hm
    by_cases e : m = n
    · subst e; rw [hloc] at hm; cases hm
    · exact hout m e
  have hhas : ∀ m b, (upd σ.own n (.guest g rem) m).has (upd loc n (encV L') m) b → (m = n ∧ b ∈ L') ∨ (m ≠ n ∧ (σ.own m).has (loc m) b) := by
    intro m b h
    by_cases e : m = n
    · subst e
      rw [hin] at h
      simp only [upd, if_true, Ob.has, footV_encV] at h
      exact .inl ⟨rfl, h⟩
    · rw [hout m e] at h
      simp only [upd, e, if_false] at h
      exact .inr ⟨e, h⟩
  have hsub : ∀ b o, MM C (upd σ.own n (.guest g rem)) (upd loc n (encV L')) b o → (MM C σ.own loc b o ∧ b ∉ Lg) ∨ b ∈ L' := by
    rintro b o (h | ⟨m, h⟩)
    · refine .inl ⟨.inl h, fun hb => ?_⟩
      have h1 := hg.m0 b o h
      rcases (hA' b hb).2 with h2 | h2
      · omega
      · exact h1.2 h2
    · by_cases e : m = n
      · subst e
        rw [hin] at h
        simp only [upd, if_true, Ob.mut, footV_encV] at h
        exact .inr h
      · rw [hout m e] at h
        simp only [upd, e, if_false] at h
        exact .inl ⟨.inr ⟨m, h⟩, fun hb => hg.disj m n b e (Ob.has_of_mut h) ((hfoot b).1 hb)⟩
  have hbar : ∀ b ∈ Lg, ∀ o, MM C σ.own loc b o := by
    intro b hb o
    refine .inr ⟨n, ?_⟩
    rw [hown, hloc]
    simp only [Ob.mut, footV_encV]
    exact hb
  have hk : Keeps w w' (MM C σ.own loc) (MM C (upd σ.own n (.guest g rem)) (upd loc n (encV L'))) := by
    have hne : ∀ p : Addr, ¬ MM C σ.own loc p.block p.off → p.block ∉ Lg := fun p hm hb => hm (hbar _ hb _)
    refine ⟨fun p hp hm => World.cell?_of_block (fx.block _ (cell_lt hp) (hne p hm)), fun p hp hm h => ?_⟩
    rcases hsub _ _ h with ⟨h1, _⟩ | h1
    · exact hm h1
    · rcases (hL' _ h1).1 with h2 | h2
      · exact hne p hm h2
      · have := cell_lt hp; omega
  refine ⟨⟨fx.os.trans hg.fr.os, fx.tape.trans hg.fr.tape, fx.output.trans hg.fr.output, Nat.le_trans hg.fr.size fx.size, fun k hk hx => ?_⟩, hg.m0, hg.kp.trans hk, fun x hx => ?_, hg.mnd, fun m hm => ?_, hg.size, fun t => RepA.keep hk _ _ ((hg.slots t).reloc hre), fun m => ?_, fun m k b hmk hm hk' => ?_⟩
  · refine (fx.block k (Nat.lt_of_lt_of_le hk hg.fr.size) fun hb => ?_).trans (hg.fr.block k hk hx)
    rcases (hA' k hb).2 with h2 | h2
    · exact absurd hk (by omega)
    · exact hx h2
  · obtain ⟨D, e1, e2, e3, e4⟩ := hg.marks x hx
    have hlt := (Array.getElem?_eq_some_iff.1 e3).1
    refine ⟨D, e1, e2, (fx.block D hlt fun hb => e4 ⟨n, (hfoot D).1 hb⟩).trans e3, ?_⟩
    rintro ⟨m, hm⟩
    rcases hhas m D hm with ⟨_, h⟩ | ⟨_, h⟩
    · rcases (hL' D h).1 with h2 | h2
      · exact e4 ⟨n, (hfoot D).1 h2⟩
      · omega
    · exact e4 ⟨m, h⟩
  · obtain ⟨p1, p2, p3⟩ := hg.pin m hm
    exact ⟨p1, (hre m (by rw [p2]; exact p3)).trans p2, p3⟩
  · show ObOk C.P C.A w' (MM C (upd σ.own n (.guest g rem)) (upd loc n (encV L'))) (upd loc n (encV L')) (upd loc n (encV L') m) (upd σ.own n (.guest g rem) m)
    by_cases e : m = n
    · subst e
      rw [hin]
      simp only [upd, if_true]
      refine ⟨hok, L', rfl, hok.keep hJ (Keeps.less hsub) (fun _ _ => rfl) (Nat.le_refl _), fun b hb => ⟨(hL' b hb).2, ?_⟩⟩
      rcases (hL' b hb).1 with h | h
      · exact (hA' b h).2
      · exact .inl (Nat.le_trans hg.fr.size h)
    · rw [hout m e]
      have : upd σ.own n (.guest g rem) m = σ.own m := by simp [upd, e]
      rw [this]
      exact (ObOk.keep' hk fx.size (fun b hb => fx.block b ((hg.objs m).lt hb) fun h => hg.disj m n b e hb ((hfoot b).1 h)) (hg.objs m)).reloc hre
  · rcases hhas m b hm with ⟨e1, h1⟩ | ⟨e1, h1⟩ <;> rcases hhas k b hk' with ⟨e2, h2⟩ | ⟨e2, h2⟩
    · exact hmk (e1.trans e2.symm)
    · rcases (hL' b h1).1 with h | h
      · exact hg.disj k n b e2 h2 ((hfoot b).1 h)
      · have := (hg.objs k).lt h2; omega
    · rcases (hL' b h2).1 with h | h
      · exact hg.disj m n b e1 h1 ((hfoot b).1 h)
      · have := (hg.objs m).lt h1; omega
    · exact hg.disj m k b hmk h1 h2

theorem winsOf_get {own : Nat → Ob} : ∀ {L : List Nat} {ws : List (List AV)}, winsOf own L ws → ws.length = L.length ∧ ∀ (j : Nat) (cs : List AV), ws[j]? = some cs → ∃ (n : Nat) (ds : List AV), L[j]? = some n ∧ (own n).cellsR = some ds ∧ cs <+: ds ∧ AV.pureL cs = true
  | [], [], _ => ⟨rfl, fun j cs h => by simp at h⟩
  | n :: L, w :: ws, h => by
    obtain ⟨⟨⟨ds, h1, h2⟩, hp⟩, h3⟩ := h
    obtain ⟨i1, i2⟩ := winsOf_get h3
    refine ⟨by simp [i1], fun j cs hj => ?_⟩
    match j, hj with
    | 0, hj => simp at hj; subst hj; exact ⟨n, ds, rfl, h1, h2, hp⟩
    | j + 1, hj => simpa using i2 j cs (by simpa using hj)
  | [], _ :: _, h => h.elim
  | _ :: _, [], h => h.elim

theorem call_guest (hg : G C σ loc a w) (hc : cI C.P o.op = some (.call f xs)) (hd : o.dst.all (· < C.N) = true) {K' : St → Prop} (h : ACallH o.dst f xs K' σ) {K : Act → World → Prop} {Q : Exit → Act → World → Prop}
    (hK : ∀ σ' a' w', Gam C σ' a' w' → K' σ' → K a' w') : o.wpIn C.F 0 C.P a w K Q := by
  obtain ⟨n, g, ⟨args, wins, r⟩, rem, L, hown, hfd, hxd, hf, hL, hp, hw, hk'⟩ := h
  simp only at hp hw hk'
  have hob := hg.objs n
  rw [hown] at hob
  obtain ⟨hok, Lg, hloc, hJ, hA⟩ := hob
  obtain ⟨c, f', ho, hcal, hf', hxs⟩ := cI_call hc
  have hrf := vald hg hf' hfd
  rw [hf] at hrf
  simp only [RepA, RepC] at hrf
  have hrx := vals_rep hg c.args.toList xs hxs (fun x hx => by have := List.all_eq_true.1 hxd x hx; simpa using this)
  obtain ⟨w1, w2⟩ := winsOf_get hw
  have hbar : ∀ b ∈ Lg, b < w.heap.size ∧ ∀ o, MM C σ.own loc b o := by
    intro b hb
    refine ⟨(hA b hb).1, fun o => .inr ⟨n, ?_⟩⟩
    rw [hown, hloc]
    simp only [Ob.mut, footV_encV]
    exact hb
  obtain ⟨hsc, hcall⟩ := hok.call hJ (MM_lt hg) hbar (lends_rep hg hrx hp) (fun m hm => by unfold locL; rw [if_neg (by omega)]) (fun j cs hj => by
      obtain ⟨m, ds, hm, hcs, ⟨t, rfl⟩, hpu⟩ := w2 j cs hj
      obtain ⟨b, l, rest, e, h1, h2, h3, h4⟩ := cellsR_ok hg hcs
      rw [locL_at hm]
      have hlen := h3.length
      refine ⟨b, l.take cs.length, l.drop cs.length ++ rest, e, h1, by rw [← List.append_assoc, List.take_append_drop]; exact h2, ?_, hpu, fun hb => ?_, h4⟩
      · have := RepAs.take cs.length h3
        rw [List.take_left'  rfl] at this
        exact pures_loc hpu this
      · have hmn : m ≠ n := by rintro rfl; rw [hown] at hcs; cases hcs
        refine hg.disj m n b hmn ?_ (by rw [hown, hloc]; simp only [Ob.has, footV_encV]; exact hb)
        cases hx : σ.own m <;> rw [hx] at hcs <;> simp only [Ob.cellsR, reduceCtorEq] at hcs <;> rw [h1] <;> rfl)
    (fun i j hi hj he => by
      obtain ⟨m1, ds1, e1, f1, _⟩ := w2 i _ (List.getElem?_eq_getElem hi)
      obtain ⟨m2, ds2, e2, f2, _⟩ := w2 j _ (List.getElem?_eq_getElem hj)
      rw [locL_at e1, locL_at e2] at he
      obtain ⟨b1, _, _, _, g1, _⟩ := cellsR_ok hg f1
      obtain ⟨b2, _, _, _, g2, _⟩ := cellsR_ok hg f2
      by_cases hm : m1 = m2
      · subst hm; exact nodup_idx hL e1 e2
      · exfalso
        rw [g1, g2] at he
        simp only [Value.pointer.injEq, Option.some.injEq, Addr.mk.injEq, and_true] at he
        subst he
        refine hg.disj m1 m2 b1 hm ?_ ?_
        · cases hx : σ.own m1 <;> rw [hx] at f1 <;> simp only [Ob.cellsR, reduceCtorEq] at f1 <;> rw [g1] <;> rfl
        · cases hx : σ.own m2 <;> rw [hx] at f2 <;> simp only [Ob.cellsR, reduceCtorEq] at f2 <;> rw [g2] <;> rfl)
  refine wpIn_callV hc (fv := g.fv) (vs := c.args.toList.map a.eval) (fun c1 f1 h1 h2 _ _ => ?_) hcall fun e w' h => ?_
  · rw [ho] at h1
    cases h1
    rw [hcal] at h2
    cases h2
    exact ⟨hrf.1, rfl⟩
  · obtain ⟨v, L', rfl, hr, fx, hL', hJ'⟩ := h
    have hg' := hg.guest hown hloc fx hL' hJ'
    exact ⟨v, rfl, hK _ _ _ ⟨_, hg'.put hd (scal_rep hsc hr)⟩ hk'⟩
end
/-! ### Calls that make new objects -/
/-- An object that is not there any more: what refers to it is forgotten, and its number is free. -/
theorem G.forget (hg : G C σ loc a w) {n : Nat} (hn : σ.own n = .none) (hlt : n < 1000) : G C ⟨prgE n σ.env, prgO n σ.own⟩ (upd loc n undef) a w := by
  have hl : ∀ m, m ≠ n → upd loc n undef m = loc m := fun m hm => by simp [upd, hm]
  have hhas : ∀ m b, (prgO n σ.own m).has (upd loc n undef m) b → (σ.own m).has (loc m) b := by
    intro m b h
    simp only [prgO, Ob.has_prg] at h
    by_cases hm : m = n
    · subst hm; rw [hn] at h; exact (Ob.has_none _ _ h).elim
    · rwa [hl m hm] at h
  have hsub : ∀ b o, MM C (prgO n σ.own) (upd loc n undef) b o → MM C σ.own loc b o := by
    rintro b o (h | ⟨m, h⟩)
    · exact .inl h
    · simp only [prgO, Ob.mut_prg] at h
      by_cases hm : m = n
      · subst hm; rw [hn] at h; exact (Ob.has_none _ _ (Ob.has_of_mut h)).elim
      · rw [hl m hm] at h; exact .inr ⟨m, h⟩
  have hk : Keeps w w (MM C σ.own loc) (MM C (prgO n σ.own) (upd loc n undef)) := Keeps.less hsub
  refine ⟨hg.fr, hg.m0, hg.kp.trans hk, fun x hx => ?_, hg.mnd, fun m hm => ?_, hg.size, fun t => RepA.keep hk _ _ (RepA.prg hl (hg.slots t)), fun m => ?_, fun m k b hmk h1 h2 => hg.disj m k b hmk (hhas m b h1) (hhas k b h2)⟩
  · obtain ⟨D, e1, e2, e3, e4⟩ := hg.marks x hx
    exact ⟨D, e1, e2, e3, fun ⟨m, hm⟩ => e4 ⟨m, hhas m D hm⟩⟩
  · obtain ⟨p1, p2, p3⟩ := hg.pin m hm
    exact ⟨p1, (hl m (by omega)).trans p2, p3⟩
  · by_cases hm : m = n
    · subst hm
      show ObOk C.P C.A w _ _ _ ((σ.own m).prg m)
      rw [hn]; trivial
    · rw [hl m hm]
      exact ObOk.keep hl hk (Nat.le_refl _) (fun _ _ => rfl) (hg.objs m)

def updU : List Nat → (Nat → Value) → Nat → Value
  | [], l => l
  | n :: L, l => upd (updU L l) n undef
theorem updU_in : ∀ {L : List Nat} {l : Nat → Value} {n : Nat}, n ∈ L → updU L l n = undef
  | m :: L, l, n, h => by
    simp only [updU, upd]
    split
    · rfl
    · rename_i hne
      exact updU_in (by simpa [hne] using h)
theorem prgOs_none : ∀ {L : List Nat} {own : Nat → Ob} {n : Nat}, own n = .none → prgOs L own n = .none
  | [], own, n, h => h
  | m :: L, own, n, h => by simp only [prgOs, prgO]; rw [prgOs_none h]; rfl
theorem G.forgets : ∀ {L : List Nat} {σ : St} {loc : Nat → Value}, G C σ loc a w → (L.all fun n => decide (n < 1000) && (σ.own n).isNone) = true → G C ⟨prgEs L σ.env, prgOs L σ.own⟩ (updU L loc) a w
  | [], σ, loc, hg, _ => hg
  | n :: L, σ, loc, hg, h => by
    simp only [List.all_cons, Bool.and_eq_true, decide_eq_true_eq] at h
    have h0 : σ.own n = .none := by cases hx : σ.own n <;> simp_all [Ob.isNone]
    have hg' := G.forgets (L := L) hg (by simpa using h.2)
    exact hg'.forget (prgOs_none h0) h.1.1

section
variable {o : Oper} {f : X} {xs : List X}
theorem call_new (hg : G C σ loc a w) (hc : cI C.P o.op = some (.call f xs)) (hd : o.dst.all (· < C.N) = true) {K' : St → Prop} (h : ACallN C.P o.dst f xs K' σ) {K : Act → World → Prop} {Q : Exit → Act → World → Prop}
    (hK : ∀ σ' a' w', Gam C σ' a' w' → K' σ' → K a' w') : o.wpIn C.F 0 C.P a w K Q := by
  obtain ⟨fid, caps, args, Post, hfd, hxd, hf, hp, hs, hpost⟩ := h
  obtain ⟨hcl, hs⟩ := hs
  refine wpIn_callF hg hc hfd hxd hf hcl (fun vs hvs => hs w (MM C σ.own loc) vs (MM_lt hg) (ports_rep hg hvs hp)) fun e w' h => ?_
  obtain ⟨v, r, os, loc', rfl, hP, hlen, hb, ok, has, hr⟩ := h
  obtain ⟨L, r', os', hL, hll, hall, hbr, hbk, hk'⟩ := hpost r os hP
  have hgF := G.forgets hg hall
  have hnone : ∀ n ∈ L, prgOs L σ.own n = .none := fun n hn => by
    have := List.all_eq_true.1 hall n hn
    simp only [Bool.and_eq_true] at this
    exact prgOs_none (by cases hx : σ.own n <;> simp_all [Ob.isNone])
  have hnf : ∀ b, ¬ FootL (prgOs L σ.own) (updU L loc) L b := by
    rintro b ⟨n, hn, hb⟩
    rw [hnone n hn] at hb
    exact Ob.has_none _ _ hb
  have hsubF : ∀ b k, MM C (prgOs L σ.own) (updU L loc) b k → MM C σ.own loc b k := by
    have : ∀ (L : List Nat) (σ : St), (L.all fun n => decide (n < 1000) && (σ.own n).isNone) = true → ∀ b k, MM C (prgOs L σ.own) (updU L loc) b k → MM C σ.own loc b k := by
      intro L σ hall b k hm
      rcases hm with h | ⟨n, h⟩
      · exact .inl h
      · have hkey : ∀ (L : List Nat) (n : Nat), (n ∉ L → updU L loc n = loc n) ∧ (∀ v, (prgOs L σ.own n).mut v = (σ.own n).mut v) := by
          intro L
          induction L with
          | nil => exact fun n => ⟨fun _ => rfl, fun _ => rfl⟩
          | cons m L ih =>
            intro n
            refine ⟨fun hn => ?_, fun v => ?_⟩
            · simp only [List.mem_cons, not_or] at hn
              simp only [updU, upd, hn.1, if_false]
              exact (ih n).1 hn.2
            · simp only [prgOs, prgO, Ob.mut_prg]
              exact (ih n).2 v
        rw [(hkey L n).2] at h
        by_cases hn : n ∈ L
        · have := List.all_eq_true.1 hall n hn
          simp only [Bool.and_eq_true] at this
          have h0 : σ.own n = .none := by cases hx : σ.own n <;> simp_all [Ob.isNone]
          rw [h0] at h
          exact (Ob.has_none _ _ (Ob.has_of_mut h)).elim
        · rw [(hkey L n).1 hn] at h
          exact .inr ⟨n, h⟩
    exact this L σ hall
  have howl : ∀ (i : Nat) (o : Ob), os[i]? = some o → ownL 1000 os (1000 + i) = o := fun i o hi => ownL_at hi
  have kp : ∀ p : Addr, (w.cell? p).isSome = true → ¬ MM C (prgOs L σ.own) (updU L loc) p.block p.off → w'.cell? p = w.cell? p ∧ ¬ AddM (MM C σ.own loc) (ownL 1000 os) loc' p.block p.off := by
    intro p hp hm
    have hlt := cell_lt hp
    refine ⟨World.cell?_of_block (hb.block _ hlt), ?_⟩
    rintro (h0 | ⟨n, h0⟩)
    · refine hm ?_
      -- what is barred of the objects that are there is barred without those that are not
      rcases h0 with h0 | ⟨n, h0⟩
      · exact .inl h0
      · have hkey : ∀ (L : List Nat) (n : Nat), (n ∉ L → updU L loc n = loc n) ∧ (∀ v, (prgOs L σ.own n).mut v = (σ.own n).mut v) := by
          intro L
          induction L with
          | nil => exact fun n => ⟨fun _ => rfl, fun _ => rfl⟩
          | cons m L ih =>
            intro n
            refine ⟨fun hn => ?_, fun v => ?_⟩
            · simp only [List.mem_cons, not_or] at hn
              simp only [updU, upd, hn.1, if_false]
              exact (ih n).1 hn.2
            · simp only [prgOs, prgO, Ob.mut_prg]
              exact (ih n).2 v
        by_cases hn : n ∈ L
        · have := List.all_eq_true.1 hall n hn
          simp only [Bool.and_eq_true] at this
          have hx0 : σ.own n = .none := by cases hx : σ.own n <;> simp_all [Ob.isNone]
          rw [hx0] at h0
          exact (Ob.has_none _ _ (Ob.has_of_mut h0)).elim
        · refine .inr ⟨n, ?_⟩
          show (prgOs L σ.own n).mut (updU L loc n) _ _
          rw [(hkey L n).2, (hkey L n).1 hn]
          exact h0
    · have := has n p.block (Ob.has_of_mut h0)
      omega
  have sub : ∀ b k, (MM C (prgOs L σ.own) (updU L loc) b k ∧ ¬ FootL (prgOs L σ.own) (updU L loc) L b) ∨ (∃ (i : Nat) (ob : Ob), os[i]? = some ob ∧ ob.mut (loc' (1000 + i)) b k) → AddM (MM C σ.own loc) (ownL 1000 os) loc' b k := by
    rintro b k (⟨h, _⟩ | ⟨i, ob, hi, hb'⟩)
    · exact .inl (hsubF b k h)
    · exact .inr ⟨1000 + i, by rw [howl i ob hi]; exact hb'⟩
  obtain ⟨loc'', hg', hre⟩ := hgF.lent (M' := AddM (MM C σ.own loc) (ownL 1000 os) loc') (l' := os) (loc' := loc') (w' := w') hL hll.symm (fun n hn b hb => (hnf b ⟨n, hn, hb⟩).elim)
    ⟨hb.os, hb.tape, hb.output, hb.size, fun k hk _ => hb.block k hk⟩ kp sub (fun i o hi => by have := ok.objs (1000 + i); rwa [howl i o hi] at this)
    (fun i j o o' b hij hi hj h1 h2 => ok.disj (1000 + i) (1000 + j) b (by omega) (by rw [howl i o hi]; exact h1) (by rw [howl j o' hj]; exact h2))
    (fun i o b hi hb' => .inr (has (1000 + i) b (by rw [howl i o hi]; exact hb')))
    (fun i n hi hone => by rw [updU_in (List.mem_of_getElem? hi)] at hone; cases hone) hbk
  exact ⟨v, rfl, hK _ _ _ ⟨loc'', hg'.put hd (hre r r' v hbr hr)⟩ hk'⟩
end
end Go.V

/-
  A guest that is made of a function and what it has captured.
-/
namespace Go.V

def Ob.blocks : Ob → Value → List Nat
  | .box _, .pointer (some a) => [a.block]
  | .win _, .pointer (some a) => [a.block]
  | .grow .., .slice (some a) _ _ => [a.block]
  | .guest _ _, .tuple l => l.toList.filterMap fun v => match v with | .int .u64 k => if 0 ≤ k then some k.toNat else Option.none | _ => Option.none
  | .mp _ _ _, .map (some a) => [a]
  | _, _ => []

theorem blocks_iff (o : Ob) (v : Value) (b : Nat) : b ∈ o.blocks v ↔ o.has v b := by
  cases o with
  | none => cases v <;> simp [Ob.blocks, Ob.has]
  | box cs =>
    cases v <;> first | (simp [Ob.blocks, Ob.has]; done) | skip
    rename_i p
    cases p <;> simp [Ob.blocks, Ob.has, eq_comm]
  | win cs =>
    cases v <;> first | (simp [Ob.blocks, Ob.has]; done) | skip
    rename_i p
    cases p <;> simp [Ob.blocks, Ob.has, eq_comm]
  | grow e sz es =>
    cases v <;> first | (simp [Ob.blocks, Ob.has]; done) | skip
    rename_i A _ _
    cases A <;> simp [Ob.blocks, Ob.has, eq_comm]
  | guest g rem =>
    cases v <;> first | (simp [Ob.blocks, Ob.has, footV]; done) | skip
    rename_i l
    simp only [Ob.blocks, Ob.has, footV, List.mem_filterMap]
    constructor
    · rintro ⟨v, hv, h⟩
      split at h
      · rename_i k
        split at h
        · rename_i hk
          simp only [Option.some.injEq] at h
          subst h
          have : Int.ofNat k.toNat = k := Int.toNat_of_nonneg hk
          rw [this]
          exact hv
        · cases h
      · cases h
    · intro h
      exact ⟨_, h, by simp⟩
  | mp kk ek l =>
    cases v <;> first | (simp [Ob.blocks, Ob.has]; done) | skip
    rename_i p
    cases p <;> simp [Ob.blocks, Ob.has, eq_comm]

/-- All blocks of a list of objects. -/
def obsBlocks (l : List Ob) (loc : Nat → Value) : List Nat := (List.range l.length).flatMap fun i => (l.getD i .none).blocks (loc (1000 + i))

theorem obsBlocks_iff {l : List Ob} {loc : Nat → Value} {b : Nat} : b ∈ obsBlocks l loc ↔ Foot (ownL 1000 l) loc b := by
  simp only [obsBlocks, List.mem_flatMap, List.mem_range, blocks_iff, Foot]
  constructor
  · rintro ⟨i, hi, h⟩
    exact ⟨1000 + i, by rw [ownL_at (List.getElem?_eq_getElem hi)]; simpa [hi] using h⟩
  · rintro ⟨n, h⟩
    rcases ownL_cases l n with ⟨i, o, rfl, h2, h3⟩ | h3
    · rw [h3] at h
      exact ⟨i, (List.getElem?_eq_some_iff.1 h2).1, by rw [List.getD_eq_getElem?_getD, h2]; exact h⟩
    · rw [h3] at h; exact (Ob.has_none _ _ h).elim

mutual
theorem RepA.refs {w : World} {M : Cells} {loc loc' : Nat → Value} {k : Nat} (hl : ∀ n, 1000 ≤ n → n < 1000 + k → loc' n = loc n) : ∀ {x : AV} {v : Value}, x.refs k = true → RepA w M loc x v → RepA w M loc' x v
  | .c d, v, _, h => by simpa only [RepA] using h
  | .non, v, _, h => by simp only [RepA]
  | .bp n off, v, hp, h => by simp only [AV.refs, decide_eq_true_eq] at hp; simp only [RepA] at h ⊢; rwa [hl n hp.1 hp.2]
  | .gr n, v, hp, h => by simp only [AV.refs, decide_eq_true_eq] at hp; simp only [RepA] at h ⊢; rwa [hl n hp.1 hp.2]
  | .vw sz n off len cap, v, hp, h => by simp only [AV.refs, decide_eq_true_eq] at hp; simp only [RepA] at h ⊢; rwa [hl n hp.1 hp.2]
  | .agg cs, v, hp, h => by
    simp only [AV.refs] at hp
    simp only [RepA] at h ⊢
    obtain ⟨l, rfl, hr⟩ := h
    exact ⟨l, rfl, RepAs.refs hl hp hr⟩
  | .tup cs, v, hp, h => by
    simp only [AV.refs] at hp
    simp only [RepA] at h ⊢
    obtain ⟨l, rfl, hr⟩ := h
    exact ⟨l, rfl, RepAs.refs hl hp hr⟩
  | .fn f cs, v, hp, h => by
    simp only [AV.refs] at hp
    simp only [RepA] at h ⊢
    obtain ⟨l, rfl, hr⟩ := h
    exact ⟨l, rfl, RepAs.refs hl hp hr⟩
  | .opt g x, v, hp, h => by
    simp only [AV.refs] at hp
    simp only [RepA] at h ⊢
    exact ⟨fun hg => RepA.refs hl hp (h.1 hg), h.2⟩
theorem RepAs.refs {w : World} {M : Cells} {loc loc' : Nat → Value} {k : Nat} (hl : ∀ n, 1000 ≤ n → n < 1000 + k → loc' n = loc n) : ∀ {xs : List AV} {l : List Value}, AV.refsL k xs = true → RepAs w M loc xs l → RepAs w M loc' xs l
  | [], l, _, h => by simpa only [RepAs] using h
  | x :: xs, l, hp, h => by
    simp only [AV.refsL, Bool.and_eq_true] at hp
    simp only [RepAs] at h ⊢
    obtain ⟨v, vs, rfl, k1, k2⟩ := h
    exact ⟨v, vs, rfl, RepA.refs hl hp.1 k1, RepAs.refs hl hp.2 k2⟩
end

theorem ObOk.refs {P : Program} {A : Nat → Prop} {w : World} {M : Cells} {loc loc' : Nat → Value} {k : Nat} (hl : ∀ n, 1000 ≤ n → n < 1000 + k → loc' n = loc n) {v : Value} {o : Ob} (hs : o.solid k = true) (h : ObOk P A w M loc v o) : ObOk P A w M loc' v o := by
  cases o with
  | none => trivial
  | box cs =>
    obtain ⟨b, l, e, h1, h2, h3, h4⟩ := h
    exact ⟨b, l, e, h1, h2, h3, h4.refs hl hs⟩
  | win cs => cases hs
  | grow e sz es => cases hs
  | guest g rem => exact h
  | mp kk ek l => exact h

theorem solid_mut {k : Nat} {o : Ob} (hs : o.solid k = true) {v : Value} {b : Nat} (h : o.has v b) (j : Nat) : o.mut v b j := by
  cases o with
  | none => cases hs
  | box cs =>
    cases v <;> first | exact h | skip
    rename_i p
    cases p <;> exact h
  | win cs => cases hs
  | grow e sz es => cases hs
  | guest g rem => exact h
  | mp kk ek l =>
    cases v <;> first | exact h | skip
    rename_i p
    cases p <;> exact h

/-- The invariant. -/
def ClosJ (P : Program) (fc : FuncId) (lc : List Value) (caps : List AV) (Fin : List Ob → Prop) (loc0 : Nat → Value) (rem : List Ent) (Lg : List Nat) (M : Nat → Nat → Prop) (w : World) : Prop :=
  ∃ (l : List Ob) (loc : Nat → Value), Run P fc caps Fin rem l ∧ l.length ≤ 1000 ∧ (∀ n, n < 1000 ∨ 1000 + l.length ≤ n → loc n = undef) ∧ (∀ n, ObOk P (fun _ => True) w M loc (loc n) (ownL 1000 l n)) ∧
    (∀ n m b, n ≠ m → (ownL 1000 l n).has (loc n) b → (ownL 1000 l m).has (loc m) b → False) ∧ RepAs w M loc caps lc ∧ (∀ b, Foot (ownL 1000 l) loc b → b ∈ Lg) ∧ (∀ n, (loc0 n).oneCell' = true → (ownL 1000 l n).isPlace = true ∧ loc n = loc0 n)

def closG (P : Program) (fc : FuncId) (lc : List Value) (caps : List AV) (Fin : List Ob → Prop) (loc0 : Nat → Value) : Gst := ⟨.func (.func fc) #[] lc.toArray, ClosJ P fc lc caps Fin loc0⟩

theorem Run.solid {P : Program} {fc : FuncId} {caps : List AV} {Fin : List Ob → Prop} {rem : List Ent} {l : List Ob} (h : Run P fc caps Fin rem l) : l.all (Ob.solid l.length) = true := by
  cases rem <;> exact h.1

theorem ownW_small {l : List Ob} {wl : List (List AV)} {n : Nat} (h : n < 2000) : ownW l wl n = ownL 1000 l n := by
  unfold ownW; rw [if_neg (by omega)]
theorem ownW_big {l : List Ob} {wl : List (List AV)} {j : Nat} {cs : List AV} (h : wl[j]? = some cs) : ownW l wl (2000 + j) = .win cs := by
  unfold ownW; rw [if_pos (by omega), show 2000 + j - 2000 = j from by omega, h]
theorem ownL_out {l : List Ob} {n : Nat} (h : n < 1000 ∨ 1000 + l.length ≤ n) : ownL 1000 l n = .none := by
  rcases ownL_cases l n with ⟨i, o, rfl, h2, _⟩ | h3
  · have := (List.getElem?_eq_some_iff.1 h2).1
    omega
  · exact h3

theorem closG_ok {P : Program} {fc : FuncId} {lc : List Value} {caps : List AV} {Fin : List Ob → Prop} {loc0 : Nat → Value} (hcl : callable P fc) : (closG P fc lc caps Fin loc0).Ok P := by
  refine ⟨rfl, ?_, ?_⟩
  · rintro rem L M w M' w' ⟨l, loc, h1, h2, h3, h4, h5, h6, h7, h8⟩ hk hb hs
    exact ⟨l, loc, h1, h2, h3, fun n => (h4 n).keep' hk hs fun b hbn => hb b (h7 b ⟨n, hbn⟩), h5, RepAs.keep hk _ _ h6, h7, h8⟩
  · rintro args wins r rem L M w loc2 vs ⟨l, loc, h1, h2, h3, h4, h5, h6, h7, h8⟩ hMlt hbar hargs hl2 hwin hdis
    obtain ⟨hsol, hsc, _, _, hspec⟩ := h1
    refine ⟨hsc, .inl ⟨fc, lc.toArray, rfl, hcl, ?_⟩⟩
    obtain ⟨locx, hlocx⟩ : ∃ locx : Nat → Value, locx = fun n => if 2000 ≤ n then loc2 n else loc n := ⟨_, rfl⟩
    have hx1 : ∀ n, n < 2000 → locx n = loc n := fun n h => by rw [hlocx]; simp only; rw [if_neg (by omega)]
    have hx2 : ∀ n, 2000 ≤ n → locx n = loc2 n := fun n h => by rw [hlocx]; simp only; rw [if_pos h]
    have hundef : Value.oneCell' undef = false := rfl
    have hre1 : ∀ n, (loc n).oneCell' = true → locx n = loc n := by
      intro n h
      by_cases hn : n < 2000
      · exact hx1 n hn
      · rw [h3 n (.inr (by omega)), hundef] at h; cases h
    have hre2 : ∀ n, (loc2 n).oneCell' = true → locx n = loc2 n := by
      intro n h
      by_cases hn : n < 2000
      · rw [hl2 n hn, hundef] at h; cases h
      · exact hx2 n (by omega)
    have hfoot : ∀ n b, (ownW l wins n).has (locx n) b → (n < 2000 ∧ (ownL 1000 l n).has (loc n) b) ∨ (∃ j cs, n = 2000 + j ∧ wins[j]? = some cs ∧ loc2 (2000 + j) = .pointer (some ⟨b, 0, none⟩)) := by
      intro n b h
      by_cases hn : n < 2000
      · rw [ownW_small hn, hx1 n hn] at h
        exact .inl ⟨hn, h⟩
      · rcases ownW_cases l wins n with ⟨i, o, _, hlt, _⟩ | ⟨j, cs, rfl, hj, hw⟩ | hw
        · omega
        · rw [hw, hx2 _ (by omega)] at h
          obtain ⟨b', _, _, _, e1, _⟩ := hwin j cs hj
          rw [e1] at h
          simp only [Ob.has] at h
          subst h
          exact .inr ⟨j, cs, rfl, hj, e1⟩
        · rw [hw] at h; exact (Ob.has_none _ _ h).elim
    have hall : ∀ b, Foot (ownW l wins) locx b → ∀ o, M b o := by
      rintro b ⟨n, h⟩ o
      rcases hfoot n b h with ⟨_, h'⟩ | ⟨j, cs, _, hj, e1⟩
      · exact (hbar b (h7 b ⟨n, h'⟩)).2 o
      · obtain ⟨b', _, _, _, e2, _, _, _, _, hM⟩ := hwin j cs hj
        rw [e1] at e2
        simp only [Value.pointer.injEq, Option.some.injEq, Addr.mk.injEq, and_true] at e2
        subst e2
        exact hM o
    have hsub : ∀ b o, AddM (fun b o => M b o ∧ ¬ Foot (ownW l wins) locx b) (ownW l wins) locx b o → M b o := by
      rintro b o (⟨h, _⟩ | ⟨n, h⟩)
      · exact h
      · exact hall b ⟨n, Ob.has_of_mut h⟩ o
    have hless := Keeps.less (w := w) hsub
    have hcall := hspec w (fun b o => M b o ∧ ¬ Foot (ownW l wins) locx b) locx (vs ++ lc) (fun b o h => ⟨hMlt b o h.1, h.2⟩)
      ⟨fun n => by
        rcases ownW_cases l wins n with ⟨i, o, rfl, hlt, ho, hw⟩ | ⟨j, cs, rfl, hj, hw⟩ | hw
        · have h := h4 (1000 + i)
          rw [ownL_at ho] at h
          rw [hw, hx1 _ hlt]
          exact (h.keep' hless (Nat.le_refl _) fun _ _ => rfl).reloc hre1
        · rw [hw, hx2 _ (by omega)]
          obtain ⟨b, u, rest, e, e1, e2, e3, e4, _⟩ := hwin j cs hj
          exact ⟨b, u, rest, e, e1, e2, RepAs.keep hless _ _ (pures_loc e4 e3)⟩
        · rw [hw]; trivial,
       fun n m b hnm hn hm => by
        rcases hfoot n b hn with ⟨_, k1⟩ | ⟨j, cs, rfl, hj, e1⟩ <;> rcases hfoot m b hm with ⟨_, k2⟩ | ⟨j', cs', rfl, hj', e2⟩
        · exact h5 n m b hnm k1 k2
        · obtain ⟨b', _, _, _, e3, _, _, _, hnb, _⟩ := hwin j' cs' hj'
          rw [e2] at e3
          simp only [Value.pointer.injEq, Option.some.injEq, Addr.mk.injEq, and_true] at e3
          subst e3
          exact hnb (h7 b ⟨n, k1⟩)
        · obtain ⟨b', _, _, _, e3, _, _, _, hnb, _⟩ := hwin j cs hj
          rw [e1] at e3
          simp only [Value.pointer.injEq, Option.some.injEq, Addr.mk.injEq, and_true] at e3
          subst e3
          exact hnb (h7 b ⟨m, k2⟩)
        · refine hnm ?_
          rw [hdis j j' (List.getElem?_eq_some_iff.1 hj).1 (List.getElem?_eq_some_iff.1 hj').1 (e1.trans e2.symm)]⟩
      ((RepAs.keep hless _ _ (hargs.reloc hre2)).append (RepAs.keep hless _ _ (h6.reloc hre1)))
    have e0 : vs.toArray ++ lc.toArray = (vs ++ lc).toArray := by apply Array.ext'; simp
    rw [e0]
    refine hcall.mono fun e w' h => ?_
    obtain ⟨v, r', l', loc', rfl, ⟨rfl, hrun⟩, hll, fx, kp, ok, has, plc, hr⟩ := h
    have hsol' := hrun.solid
    have hlen' : l'.length ≤ 1000 := by omega
    obtain ⟨locn, hlocn⟩ : ∃ locn : Nat → Value, locn = fun n => if 1000 ≤ n ∧ n < 1000 + l'.length then loc' n else undef := ⟨_, rfl⟩
    have hn1 : ∀ n, 1000 ≤ n → n < 1000 + l'.length → locn n = loc' n := fun n a b => by rw [hlocn]; simp only; rw [if_pos ⟨a, b⟩]
    have hn2 : ∀ n, n < 1000 ∨ 1000 + l'.length ≤ n → locn n = undef := fun n a => by rw [hlocn]; simp only; rw [if_neg (by omega)]
    have hrange : ∀ n b, (ownL 1000 l' n).has (locn n) b → 1000 ≤ n ∧ n < 1000 + l'.length ∧ (ownL 1000 l' n).has (loc' n) b := by
      intro n b h
      by_cases hr : n < 1000 ∨ 1000 + l'.length ≤ n
      · rw [ownL_out hr] at h; exact (Ob.has_none _ _ h).elim
      · refine ⟨by omega, by omega, ?_⟩
        rwa [hn1 n (by omega) (by omega)] at h
    have hfb : ∀ b, Foot (ownL 1000 l') locn b ↔ b ∈ obsBlocks l' loc' := by
      intro b
      rw [obsBlocks_iff]
      constructor
      · rintro ⟨n, h⟩; exact ⟨n, (hrange n b h).2.2⟩
      · rintro ⟨n, h⟩
        refine ⟨n, ?_⟩
        by_cases hr : n < 1000 ∨ 1000 + l'.length ≤ n
        · rw [ownL_out hr] at h; exact (Ob.has_none _ _ h).elim
        · rwa [hn1 n (by omega) (by omega)]
    have hblk : ∀ b ∈ obsBlocks l' loc', (b ∈ L ∨ w.heap.size ≤ b) ∧ b < w'.heap.size := by
      intro b hb
      obtain ⟨n, hn⟩ := obsBlocks_iff.1 hb
      refine ⟨?_, ?_⟩
      · rcases has n b hn with ⟨m, hm⟩ | h
        · by_cases hm2 : m < 2000
          · rw [hx1 m hm2] at hm
            exact .inl (h7 b ⟨m, hm⟩)
          · rw [ownL_out (by omega)] at hm; exact (Ob.has_none _ _ hm).elim
        · exact .inr h
      · by_cases hr : n < 1000 ∨ 1000 + l'.length ≤ n
        · rw [ownL_out hr] at hn; exact (Ob.has_none _ _ hn).elim
        · have := ok.objs n
          rw [ownW_small (by omega)] at this
          exact this.lt hn
    have hM2 : ∀ b o, ((M b o ∧ b ∉ L) ∨ b ∈ obsBlocks l' loc') → AddM (fun b o => M b o ∧ ¬ Foot (ownW l wins) locx b) (ownW l' wins) loc' b o := by
      rintro b o (⟨h, hb⟩ | hb)
      · by_cases hf : Foot (ownW l wins) locx b
        · obtain ⟨n, hn⟩ := hf
          rcases hfoot n b hn with ⟨_, h'⟩ | ⟨j, cs, rfl, hj, e1⟩
          · exact (hb (h7 b ⟨n, h'⟩)).elim
          · refine .inr ⟨2000 + j, ?_⟩
            have hp := (plc (2000 + j) (by rw [ownW_big hj]; rfl)).2
            rw [ownW_big hj, hp, hx2 _ (by omega), e1]
            rfl
        · exact .inl ⟨h, hf⟩
      · obtain ⟨n, hn⟩ := obsBlocks_iff.1 hb
        refine .inr ⟨n, ?_⟩
        rcases ownL_cases l' n with ⟨i, ob, rfl, ho, hw⟩ | hw
        · rw [hw] at hn
          rw [ownW_at hlen' ho]
          exact solid_mut (List.all_eq_true.1 hsol' ob (List.mem_of_getElem? ho)) hn o
        · rw [hw] at hn; exact (Ob.has_none _ _ hn).elim
    have hless' := Keeps.less (w := w') hM2
    have hplace : ∀ n, (ownL 1000 l n).isPlace = true → 1000 ≤ n ∧ n < 1000 + l'.length ∧ (ownL 1000 l' n).isPlace = true ∧ loc' n = loc n := by
      intro n h
      by_cases hr : n < 1000 ∨ 1000 + l.length ≤ n
      · rw [ownL_out hr] at h; cases h
      · have hn : n < 2000 := by omega
        have := plc n (by rw [ownW_small hn]; exact h)
        rw [ownW_small hn, hx1 n hn] at this
        exact ⟨by omega, by omega, this.1, this.2⟩
    refine ⟨v, obsBlocks l' loc', rfl, scal_rep hsc hr, ⟨fx.os, fx.tape, fx.output, fx.size, fun k hk hn => fx.block k hk ?_⟩, hblk, l', locn, hrun, hlen', hn2, fun n => ?_, fun n m b hnm hn hm => ?_, ?_, fun b hb => (hfb b).1 hb, fun n hn => ?_⟩
    · rintro ⟨m, hm⟩
      by_cases hm2 : m < 2000
      · rw [hx1 m hm2] at hm
        exact hn (h7 k ⟨m, hm⟩)
      · rw [ownL_out (by omega)] at hm; exact (Ob.has_none _ _ hm).elim
    · rcases ownL_cases l' n with ⟨i, ob, rfl, ho, hw⟩ | hw
      · have hlt := (List.getElem?_eq_some_iff.1 ho).1
        rw [hw, hn1 _ (by omega) (by omega)]
        have h := ok.objs (1000 + i)
        rw [ownW_at hlen' ho] at h
        exact (h.keep' hless' (Nat.le_refl _) fun _ _ => rfl).refs hn1 (List.all_eq_true.1 hsol' ob (List.mem_of_getElem? ho))
      · rw [hw]; trivial
    · obtain ⟨a1, a2, a3⟩ := hrange n b hn
      obtain ⟨b1, b2, b3⟩ := hrange m b hm
      exact ok.disj n m b hnm (by rw [ownW_small (by omega)]; exact a3) (by rw [ownW_small (by omega)]; exact b3)
    · have hk : Keeps w w' M (fun b o => (M b o ∧ b ∉ L) ∨ b ∈ obsBlocks l' loc') :=
        ⟨fun p hp hm => kp.cell p hp fun h => hm (hsub _ _ h), fun p hp hm h => kp.free p hp (fun h => hm (hsub _ _ h)) (hM2 _ _ h)⟩
      refine RepAs.keep hk _ _ (h6.reloc fun n hn => ?_)
      have hr : ¬ (n < 1000 ∨ 1000 + l.length ≤ n) := fun hr => by rw [h3 n hr, hundef] at hn; cases hn
      have hpl : (ownL 1000 l n).isPlace = true := by
        have hob := h4 n
        rcases ownL_cases l n with ⟨i, ob, rfl, ho, hw⟩ | hw
        · have hso := List.all_eq_true.1 hsol ob (List.mem_of_getElem? ho)
          rw [hw] at hob ⊢
          cases ob <;> first | rfl | cases hso | skip
          obtain ⟨_, Lq, e1, _⟩ := hob
          rw [e1] at hn
          cases hn
        · exfalso
          have : l[n - 1000]? = none := by
            cases hq : l[n - 1000]? with
            | none => rfl
            | some ob =>
              exfalso
              have hq' := ownL_at hq
              rw [show 1000 + (n - 1000) = n from by omega, hw] at hq'
              have hso := List.all_eq_true.1 hsol ob (List.mem_of_getElem? hq)
              rw [← hq'] at hso
              cases hso
          rw [List.getElem?_eq_none_iff] at this
          omega
      obtain ⟨a1, a2, a3, a4⟩ := hplace n hpl
      rw [hn1 n a1 a2]; exact a4
    · obtain ⟨a1, a2⟩ := h8 n hn
      obtain ⟨b1, b2, b3, b4⟩ := hplace n a1
      exact ⟨b3, by rw [hn1 n b1 b2, b4]; exact a2⟩
end Go.V

/-
  Calls that make a guest; one instruction at a time.
-/
namespace Go.V
variable {C : Ctx} {σ : St} {loc : Nat → Value} {a : Act} {w : World}

theorem RepAs.split {M : Cells} : ∀ {as bs : List AV} {l : List Value}, RepAs w M loc (as ++ bs) l → ∃ l1 l2, l = l1 ++ l2 ∧ RepAs w M loc as l1 ∧ RepAs w M loc bs l2
  | [], bs, l, h => ⟨[], l, rfl, by simp [RepAs], by simpa using h⟩
  | x :: as, bs, l, h => by
    simp only [List.cons_append, RepAs] at h
    obtain ⟨v, vs, rfl, h1, h2⟩ := h
    obtain ⟨l1, l2, rfl, k1, k2⟩ := h2.split
    exact ⟨v :: l1, l2, rfl, by simp only [RepAs]; exact ⟨v, l1, rfl, h1, k1⟩, k2⟩

theorem call_clos (hg : G C σ loc a w) {o : Oper} {f : X} {xs : List X} (hc : cI C.P o.op = some (.call f xs)) (hd : o.dst.all (· < C.N) = true) {K' : St → Prop} (h : ACallC C.P o.dst f xs K' σ) {K : Act → World → Prop} {Q : Exit → Act → World → Prop}
    (hK : ∀ σ' a' w', Gam C σ' a' w' → K' σ' → K a' w') : o.wpIn C.F 0 C.P a w K Q := by
  obtain ⟨fid, caps, L, l, pre, fc, fcaps, post, fcaps', pre', post', rem, Fin, r, hfd, hxd, hf, hL, hLl, hsplit, hlf, hpre, hpost, hl, hclc, hrun, hpure, hspec, hend⟩ := h
  obtain ⟨e1, e2, e3⟩ := obsLend_get hl
  have hlen : l.length ≤ 1000 := by omega
  obtain ⟨s1, s2, s3, s4, s5, s6⟩ := lent_start hg hL hlen hl
  have hcl : callable C.P fid := (hspec ⟨undef, fun _ _ _ _ => False⟩).1
  refine wpIn_callF (R := fun e w' => ∃ v l' os loc'', e = .returned v ∧ Fin l' ∧ obsBack L l' = some os ∧ G C ⟨σ.env, ownBack σ.own L os⟩ loc'' a w' ∧ K' (St.put ⟨σ.env, ownBack σ.own L os⟩ o.dst r) ∧ RepA w' (MM C (ownBack σ.own L os) loc'') loc'' r v)
    hg hc hfd hxd hf hcl (fun vs hvs => ?_) fun e w' h => ?_
  · rw [hsplit] at hvs
    obtain ⟨l1, l2, rfl, r1, r2⟩ := hvs.split
    simp only [RepAs] at r2
    obtain ⟨fv, l3, rfl, r2, r3⟩ := r2
    simp only [RepA] at r2
    obtain ⟨lc, rfl, r2⟩ := r2
    -- the guest
    have hundef : Value.oneCell' undef = false := rfl
    have hloc1 : ∀ n, (locL 1000 loc L n).oneCell' = true → (ownL 1000 l n).isPlace = true ∧ n < 2000 := by
      intro n hn
      unfold locL at hn
      split at hn
      · rename_i hge
        cases hm : L[n - 1000]? with
        | none => rw [hm, hundef] at hn; cases hn
        | some m =>
          rw [hm] at hn
          simp only at hn
          obtain ⟨ob, ho, hlo⟩ := e2 _ _ hm
          have hlt := (List.getElem?_eq_some_iff.1 hm).1
          have := ownL_at ho
          rw [show 1000 + (n - 1000) = n from by omega] at this
          rw [this]
          refine ⟨?_, by omega⟩
          have hob := hg.objs m
          cases hx : σ.own m <;> rw [hx] at hlo hob <;> simp only [Ob.lend, Option.map_eq_some_iff, Option.some.injEq, reduceCtorEq] at hlo
          · obtain ⟨cs, _, rfl⟩ := hlo; rfl
          · obtain ⟨_, Lg, h0, _⟩ := hob
            rw [h0] at hn
            cases hn
          · subst hlo; rfl
      · rw [hundef] at hn; cases hn
    have hout : ∀ n, n < 1000 ∨ 1000 + l.length ≤ n → locL 1000 loc L n = undef := by
      intro n hn
      unfold locL
      split
      · rw [List.getElem?_eq_none (by omega)]
      · rfl
    have hfl : ∀ b, Foot (ownL 1000 l) (locL 1000 loc L) b ↔ FootL σ.own loc L b := by
      intro b
      refine ⟨s5 b, ?_⟩
      rintro ⟨m, hm, hb⟩
      obtain ⟨i, hi⟩ := List.mem_iff_getElem?.1 hm
      obtain ⟨ob, ho, hlo⟩ := e2 i m hi
      exact ⟨1000 + i, by rw [ownL_at ho, locL_at hi, Ob.lend_has hlo]; exact hb⟩
    have hobj : ∀ n, ObOk C.P (fun _ => True) w (MM C σ.own loc) (locL 1000 loc L) (locL 1000 loc L n) (ownL 1000 l n) := by
      intro n
      rcases ownL_cases l n with ⟨i, ob, rfl, ho, hw⟩ | hw
      · obtain ⟨m, hm, hlo⟩ := e3 i ob ho
        rw [hw, locL_at hm]
        exact (ObOk.lend hg hlo).1
      · rw [hw]; trivial
    have hJ : ClosJ C.P fc lc fcaps' Fin (locL 1000 loc L) rem (obsBlocks l (locL 1000 loc L)) (MM C σ.own loc) w := by
      refine ⟨l, locL 1000 loc L, hrun, hlen, hout, hobj, fun n m b hnm hn hm => ?_, lends_rep hg r2 hlf, fun b hb => obsBlocks_iff.2 hb, fun n hn => ⟨(hloc1 n hn).1, rfl⟩⟩
      have hs : ∀ n, (ownL 1000 l n).has (locL 1000 loc L n) b → n < 2000 := by
        intro n h
        rcases Nat.lt_or_ge n 2000 with h' | h'
        · exact h'
        · rw [ownL_out (by omega)] at h; exact (Ob.has_none _ _ h).elim
      exact s3.disj n m b hnm (by rw [ownW_small (hs n hn)]; exact hn) (by rw [ownW_small (hs m hm)]; exact hm)
    obtain ⟨g, hgd⟩ : ∃ g, g = closG C.P fc lc fcaps' Fin (locL 1000 loc L) := ⟨_, rfl⟩
    have hgok : g.Ok C.P := by rw [hgd]; exact closG_ok hclc
    have hgfv : g.fv = .func (.func fc) #[] lc.toArray := by rw [hgd]; rfl
    have hgJ : g.J = ClosJ C.P fc lc fcaps' Fin (locL 1000 loc L) := by rw [hgd]; rfl
    obtain ⟨Lg, hLg⟩ : ∃ Lg, Lg = obsBlocks l (locL 1000 loc L) := ⟨_, rfl⟩
    have hLgf : ∀ b, b ∈ Lg ↔ FootL σ.own loc L b := fun b => by rw [hLg, obsBlocks_iff]; exact hfl b
    obtain ⟨lh, hlh⟩ : ∃ lh : Nat → Value, lh = fun n => if n = 1000 then encV Lg else undef := ⟨_, rfl⟩
    have hlh1 : lh 1000 = encV Lg := by rw [hlh]; rfl
    have how : ∀ (rm : List Ent) (n : Nat), ownW [.guest g rm] [] n = if n = 1000 then .guest g rm else .none := by
      intro rm n
      rcases ownW_cases [.guest g rm] [] n with ⟨i, ob, rfl, _, ho, hw⟩ | ⟨j, cs, _, hj, _⟩ | hw
      · have : i = 0 := by have := (List.getElem?_eq_some_iff.1 ho).1; simp at this; exact this
        subst this
        simp at ho
        rw [hw, ← ho]; simp
      · simp at hj
      · by_cases hn : n = 1000
        · subst hn; simp [ownW, ownL] at hw
        · rw [hw, if_neg hn]
    have hol : ∀ (rm : List Ent) (n : Nat), ownL 1000 [.guest g rm] n = if n = 1000 then .guest g rm else .none := by
      intro rm n
      rcases ownL_cases [.guest g rm] n with ⟨i, ob, rfl, ho, hw⟩ | hw
      · have : i = 0 := by have := (List.getElem?_eq_some_iff.1 ho).1; simp at this; exact this
        subst this
        simp at ho
        rw [hw, ← ho]; simp
      · by_cases hn : n = 1000
        · subst hn; simp [ownL] at hw
        · rw [hw, if_neg hn]
    have hfootg : ∀ (rm : List Ent) (lx : Nat → Value) (b : Nat), Foot (ownW [.guest g rm] []) lx b ↔ footV (lx 1000) b := by
      intro rm lx b
      constructor
      · rintro ⟨n, h⟩
        rw [how] at h
        by_cases hn : n = 1000
        · subst hn; rw [if_pos rfl] at h; exact h
        · rw [if_neg hn] at h; exact (Ob.has_none _ _ h).elim
      · intro h; exact ⟨1000, by rw [how, if_pos rfl]; exact h⟩
    have hfootl : ∀ (rm : List Ent) (lx : Nat → Value) (b : Nat), Foot (ownL 1000 [.guest g rm]) lx b ↔ footV (lx 1000) b := by
      intro rm lx b
      constructor
      · rintro ⟨n, h⟩
        rw [hol] at h
        by_cases hn : n = 1000
        · subst hn; rw [if_pos rfl] at h; exact h
        · rw [if_neg hn] at h; exact (Ob.has_none _ _ h).elim
      · intro h; exact ⟨1000, by rw [hol, if_pos rfl]; exact h⟩
    have hbar : ∀ b ∈ Lg, ∀ k, MM C σ.own loc b k := by
      intro b hb k
      rw [hLg] at hb
      obtain ⟨n, hn⟩ := obsBlocks_iff.1 hb
      rcases ownL_cases l n with ⟨i, ob, rfl, ho, hw⟩ | hw
      · obtain ⟨m, hm, hlo⟩ := e3 i ob ho
        rw [hw] at hn
        have := solid_mut (List.all_eq_true.1 hrun.solid ob (List.mem_of_getElem? ho)) hn k
        rw [locL_at hm, Ob.lend_mut hlo] at this
        exact .inr ⟨m, this⟩
      · rw [hw] at hn; exact (Ob.has_none _ _ hn).elim
    have hsubg : ∀ b k, AddM (McL C σ loc L) (ownW [.guest g rem] []) lh b k → MM C σ.own loc b k := by
      rintro b k (h | h)
      · exact h.1
      · obtain ⟨n, h⟩ := h
        have : Foot (ownW [.guest g rem] []) lh b := ⟨n, Ob.has_of_mut h⟩
        rw [hfootg, hlh1, footV_encV] at this
        exact hbar b this k
    have hless := Keeps.less (w := w) hsubg
    have hspec1 := (hspec g).2.2 w (McL C σ loc L) lh (l1 ++ .func (.func fc) #[] lc.toArray :: l3)
      (fun b k hm => ⟨MM_lt hg b k hm.1, fun h => by rw [hfootg, hlh1, footV_encV] at h; exact hm.2 ((hLgf b).1 h)⟩)
      ⟨fun n => by
        rw [how]
        by_cases hn : n = 1000
        · subst hn
          rw [if_pos rfl, hlh1]
          refine ⟨hgok, Lg, rfl, hgok.keep (by rw [hgJ, hLg]; exact hJ) hless (fun _ _ => rfl) (Nat.le_refl _), fun b hb => ⟨?_, trivial⟩⟩
          obtain ⟨m, hm, hb'⟩ := (hLgf b).1 hb
          exact (hg.objs m).lt hb'
        · rw [if_neg hn]; trivial,
       fun n m b hnm hn hm => by
        rw [how] at hn hm
        by_cases h1 : n = 1000
        · by_cases h2 : m = 1000
          · exact hnm (h1.trans h2.symm)
          · rw [if_neg h2] at hm; exact Ob.has_none _ _ hm
        · rw [if_neg h1] at hn; exact Ob.has_none _ _ hn⟩
      (by
        refine RepAs.keep hless _ _ ((ports_rep hg r1 hpre).append ?_)
        simp only [RepAs]
        exact ⟨_, l3, rfl, by simp only [RepA, RepC]; exact ⟨hgfv.symm, by rw [hgfv]; rfl⟩, ports_rep hg r3 hpost⟩)
    refine hspec1.mono fun e w' h => ?_
    obtain ⟨v, r', l', loc', rfl, ⟨rfl, rfl⟩, hll, fx, kp, ok, has, plc, hr⟩ := h
    have hob := ok.objs 1000
    rw [how, if_pos rfl] at hob
    obtain ⟨_, Lq, hq, hJ', hLq⟩ := hob
    rw [hgJ] at hJ'
    obtain ⟨lf, lx, k1, k2, k3, k4, k5, k6, k7, k8⟩ := hJ'
    obtain ⟨hsolf, hfin⟩ := k1
    obtain ⟨os, hbk, hlfl, hk'⟩ := hend lf hfin
    have hfx : Fx w w' (FootL σ.own loc L) := ⟨fx.os, fx.tape, fx.output, fx.size, fun k hk hn => fx.block k hk fun h => hn (by rw [hfootl, hlh1, footV_encV] at h; exact (hLgf k).1 h)⟩
    have hqin : ∀ b, b ∈ Lq → FootL σ.own loc L b ∨ w.heap.size ≤ b := by
      intro b hb
      rcases has 1000 b (by rw [hol, if_pos rfl, hq]; simp only [Ob.has, footV_encV]; exact hb) with h | h
      · rw [hfootl, hlh1, footV_encV] at h; exact .inl ((hLgf b).1 h)
      · exact .inr h
    obtain ⟨loc'', hg', hre⟩ := hg.lent (M' := AddM (McL C σ loc L) (ownW [.guest g []] []) loc') (l' := lf) (loc' := lx) hL hlfl s4 hfx
      (fun p hp hm => ⟨kp.cell p hp fun h => hm (hsubg _ _ h), kp.free p hp fun h => hm (hsubg _ _ h)⟩)
      (by
        rintro b k (h | ⟨i, ob, hi, hb⟩)
        · exact .inl h
        · refine .inr ⟨1000, ?_⟩
          rw [how, if_pos rfl, hq]
          simp only [Ob.mut, footV_encV]
          exact k7 b ⟨1000 + i, by rw [ownL_at hi]; exact Ob.has_of_mut hb⟩)
      (fun i ob hi => by have := k4 (1000 + i); rwa [ownL_at hi] at this)
      (fun i j o o' b hij hi hj hb hb' => k5 (1000 + i) (1000 + j) b (by omega) (by rw [ownL_at hi]; exact hb) (by rw [ownL_at hj]; exact hb'))
      (fun i ob b hi hb => hqin b (k7 b ⟨1000 + i, by rw [ownL_at hi]; exact hb⟩))
      (fun i n hi hone => by
        have := (k8 (1000 + i) (by rw [locL_at hi]; exact hone)).2
        rw [this, locL_at hi]) hbk
    refine ⟨v, lf, os, loc'', rfl, hfin, hbk, hg', hk', ?_⟩
    exact hre _ _ v (back_pure hpure) (pure_loc hpure hr)
  · obtain ⟨v, l', os, loc'', rfl, h1, h2, h3, h4, h5⟩ := h
    exact ⟨v, rfl, hK _ _ _ ⟨loc'', h3.put hd h5⟩ h4⟩

theorem call_sound (hg : G C σ loc a w) {o : Oper} {f : X} {xs : List X} (hc : cI C.P o.op = some (.call f xs)) (hd : o.dst.all (· < C.N) = true) {K' : St → Prop} (h : ACallS C.P o.dst f xs K' σ) {K : Act → World → Prop} {Q : Exit → Act → World → Prop}
    (hK : ∀ σ' a' w', Gam C σ' a' w' → K' σ' → K a' w') : o.wpIn C.F 0 C.P a w K Q := by
  rcases h with h | h | h | h | h | h
  · obtain ⟨fid, caps, args, r, h1, h2, h3, h4, h5, h6, h7⟩ := h
    exact call_pure hg hc h1 h2 h3 h4 h5 h6 fun v w' hr hg' => hK _ _ _ ⟨loc, hg'.put hd hr⟩ h7
  · obtain ⟨fid, caps, args, r, h1, h2, h3, h4, h5, h6, h7⟩ := h
    exact call_vol hg hc h1 h2 h3 h4 h5 h6 fun v w' hr hg' => hK _ _ _ ⟨loc, hg'.put hd hr⟩ h7
  · exact call_lend hg hc hd h hK
  · exact call_guest hg hc hd h hK
  · exact call_clos hg hc hd h hK
  · exact call_new hg hc hd h hK

theorem astep_sound0 (hg : Gam C σ a w) {ops : Array Oper} {o : Oper} {i : Ins} (hc : ∃ s, cOp C.P C.N ops o = some { i with s := s }) {K : St → Prop} (h : AStep C.P i K σ) {K' : Act → World → Prop} {Q : Exit → Act → World → Prop}
    (hK : ∀ σ' a' w', Gam C σ' a' w' → K σ' → K' a' w') :
    if Region.wanted o (yielded ops a.tmps) = true then o.wpIn C.F 0 C.P a w K' Q else (∀ f, o.about C.P w a.eval = some f → C.F.fn f) ∧ K' (a.put o.dst undef) w := by
  obtain ⟨loc, hg⟩ := hg
  -- the parts of the compilation
  obtain ⟨di, ii, gi, si⟩ := i
  obtain ⟨s, hc⟩ := hc
  unfold cOp at hc
  split at hc
  case h_2 => cases hc
  rename_i ins g hi hgd
  split at hc
  case isFalse => cases hc
  rename_i hd
  simp only [Option.some.injEq, Ins.mk.injEq] at hc
  obtain ⟨rfl, rfl, rfl, _⟩ := hc
  unfold cGuard at hgd
  have pure_case : ∀ {q : Prop} {v x : AV}, (pev σ ins = some (q, v) ∨ pvw σ ins = some (q, v)) → q → (∀ u, RepA w (MM C σ.own loc) loc v u → RepA w (MM C σ.own loc) loc x u) → K (σ.put o.dst x) → o.wpIn C.F 0 C.P a w K' Q := by
    intro q v x hp hq hx hk
    obtain ⟨u, hrun, hr⟩ : Snd C σ loc a w o v := hp.elim (fun h => pev_sound hg hi h hq) (fun h => pvw_sound hg hi h hq)
    refine wpIn_of hi ?_
    rw [hrun, Oper.uponIn_value]
    exact hK _ _ _ ⟨loc, hg.put hd (hx u hr)⟩ hk
  have mut_case : ∀ {q : Prop} {σ' : St}, (mev σ o.dst ins = some (q, σ') ∨ mvw σ o.dst ins = some (q, σ')) → q → K σ' → o.wpIn C.F 0 C.P a w K' Q := by
    intro q σ' hm hq hk
    obtain ⟨w', loc', h⟩ : Mnd C σ' a w o := hm.elim (fun h => mev_sound hg hi hd h hq) (fun h => mvw_sound hg hi hd h hq)
    refine wpIn_of hi ?_
    rcases h with ⟨u, hrun, hg'⟩ | ⟨hrun, hg'⟩
    · rw [hrun, Oper.uponIn_value]
      exact hK _ _ _ ⟨loc', hg'⟩ hk
    · rw [hrun, Oper.uponIn_skip]
      exact hK _ _ _ ⟨loc', hg'⟩ hk
  cases hog : o.guard with
  | none =>
    rw [hog] at hgd
    simp only [Option.some.injEq] at hgd
    subst hgd
    rw [if_pos (by simp [Region.wanted, hog])]
    unfold AStep at h
    split at h
    · simp only [AStepS] at h
      split at h
      · exact call_sound hg hi hd h hK
      · split at h
        · rename_i q v hp
          exact pure_case (.inl hp) h.1 (fun _ h => h) h.2
        · split at h
          · rename_i q σ' hm
            exact mut_case (.inl hm) h.1 h.2
          · split at h
            · rename_i q v hp
              exact pure_case (.inr hp) h.1 (fun _ h => h) h.2
            · split at h
              · rename_i q σ' hm
                exact mut_case (.inr hm) h.1 h.2
              · unfold nvw at h
                split at h
                · rename_i ne x' _ _ _ _ _ _
                  split at h
                  · rename_i ex
                    generalize hop : o.op = op at hi
                    cases cI_inv hi with
                    | nils ne ht hx =>
                      have rx := vald hg hx h.1
                      rw [ex] at rx
                      simp only [RepA, RepC] at rx
                      obtain ⟨A, cap, ev, _⟩ := rx
                      have hrun := nils_run hop ht ev (C := C) (w := w)
                      refine wpIn_of (by rw [hop]; exact hi) ?_
                      rw [hrun, Oper.uponIn_value]
                      exact hK _ _ _ ⟨loc, hg.put hd (x := .c (.bool (bif ne then !A.isNone else A.isNone))) (by simp only [RepA, RepC])⟩ (h.2 _)
                  · exact h.elim
                · exfalso
                  generalize o.op = op at hi
                  cases cI_inv hi
                · exact h.elim
    · simp only [AStepP] at h
      split at h
      · exact call_sound hg hi hd (.inl h) hK
      · split at h
        · rename_i q v hp
          exact pure_case (.inl hp) h.1 (fun _ h => h) h.2
        · split at h
          · rename_i q σ' hm
            exact mut_case (.inl hm) h.1 h.2
          · exact h.elim
  | some jw =>
    obtain ⟨j, want⟩ := jw
    rw [hog] at hgd
    simp only at hgd
    split at hgd
    case h_2 => cases hgd
    rename_i t hj
    simp only [Option.some.injEq] at hgd
    subst hgd
    have skip : ∀ {Gd : Bool} {v : AV}, Gd = false → K (σ.put o.dst (.opt Gd v)) → K' (a.put o.dst undef) w := by
      intro Gd v hfalse hk
      refine hK _ _ _ ⟨loc, hg.put hd ?_⟩ hk
      simp only [RepA]
      exact ⟨fun h => (by rw [hfalse] at h; cases h), fun _ => trivial⟩
    have wanted : ∀ {Gd : Bool}, σ.guard (t, want) = some Gd → Region.wanted o (yielded ops a.tmps) = Gd := by
      intro Gd hGd
      unfold Region.wanted
      rw [hog]
      exact guard_sound hg hj hGd
    have habout : ∀ f, o.about C.P w a.eval = some f → C.F.fn f := fun f _ => C.F_fn f
    unfold AStep at h
    split at h
    · simp only [AStepS] at h
      split at h
      · exact h.elim
      · rename_i Gd hGd
        rw [wanted hGd]
        split at h
        · rcases h with h | h | h
          · obtain ⟨r, h1, h2, h3⟩ := h
            cases hb : Gd with
            | true =>
              rw [if_pos rfl]
              obtain ⟨fid, caps, args, k1, k2, k3, k4, k5⟩ := h2 hb
              refine call_pure hg hi k1 k2 k3 k4 h1 k5 fun v w' hr hg' => hK _ _ _ ⟨loc, hg'.put hd ?_⟩ h3
              simp only [RepA]
              exact ⟨fun _ => hr, fun h => by rw [hb] at h; cases h⟩
            | false => rw [if_neg (by simp)]; exact ⟨habout, skip hb h3⟩
          · obtain ⟨r, h1, h2, h3⟩ := h
            cases hb : Gd with
            | true =>
              rw [if_pos rfl]
              obtain ⟨fid, caps, args, k1, k2, k3, k4, k5⟩ := h2 hb
              refine call_vol hg hi k1 k2 k3 k4 h1 k5 fun v w' hr hg' => hK _ _ _ ⟨loc, hg'.put hd ?_⟩ h3
              simp only [RepA]
              exact ⟨fun _ => hr, fun h => by rw [hb] at h; cases h⟩
            | false => rw [if_neg (by simp)]; exact ⟨habout, skip hb h3⟩
          · cases hb : Gd with
            | true => rw [if_pos rfl]; exact call_sound hg hi hd (h.1 hb) hK
            | false => rw [if_neg (by simp)]; exact ⟨habout, skip rfl (h.2 hb)⟩
        · split at h
          · rename_i q v hp
            cases hb : Gd with
            | true =>
              rw [if_pos rfl]
              refine pure_case (.inl hp) (h.1 hb) (fun u hu => ?_) h.2
              simp only [RepA]
              exact ⟨fun _ => hu, fun h => by rw [hb] at h; cases h⟩
            | false => rw [if_neg (by simp)]; exact ⟨habout, skip hb h.2⟩
          · split at h
            · rename_i q σ' hm
              cases hb : Gd with
              | true => rw [if_pos rfl]; exact mut_case (.inl hm) (h.1 hb).1 (h.1 hb).2
              | false => rw [if_neg (by simp)]; exact ⟨habout, skip rfl (h.2 hb)⟩
            · split at h
              · rename_i q v hp
                cases hb : Gd with
                | true =>
                  rw [if_pos rfl]
                  refine pure_case (.inr hp) (h.1 hb) (fun u hu => ?_) h.2
                  simp only [RepA]
                  exact ⟨fun _ => hu, fun h => by rw [hb] at h; cases h⟩
                | false => rw [if_neg (by simp)]; exact ⟨habout, skip hb h.2⟩
              · split at h
                · rename_i q σ' hm
                  cases hb : Gd with
                  | true => rw [if_pos rfl]; exact mut_case (.inr hm) (h.1 hb).1 (h.1 hb).2
                  | false => rw [if_neg (by simp)]; exact ⟨habout, skip rfl (h.2 hb)⟩
                · rw [h.1, if_neg (by simp)]; exact ⟨habout, skip rfl h.2⟩
    · simp only [AStepP] at h
      split at h
      · exact h.elim
      · rename_i Gd hGd
        rw [wanted hGd]
        split at h
        · obtain ⟨r, h1, h2, h3⟩ := h
          cases hb : Gd with
          | true =>
            rw [if_pos rfl]
            obtain ⟨fid, caps, args, k1, k2, k3, k4, k5⟩ := h2 hb
            refine call_pure hg hi k1 k2 k3 k4 h1 k5 fun v w' hr hg' => hK _ _ _ ⟨loc, hg'.put hd ?_⟩ h3
            simp only [RepA]
            exact ⟨fun _ => hr, fun h => by rw [hb] at h; cases h⟩
          | false => rw [if_neg (by simp)]; exact ⟨habout, skip hb h3⟩
        · split at h
          · rename_i q v hp
            cases hb : Gd with
            | true =>
              rw [if_pos rfl]
              refine pure_case (.inl hp) (h.1 hb) (fun u hu => ?_) h.2
              simp only [RepA]
              exact ⟨fun _ => hu, fun h => by rw [hb] at h; cases h⟩
            | false => rw [if_neg (by simp)]; exact ⟨habout, skip hb h.2⟩
          · rcases h with h | ⟨_, h1, h2⟩
            · split at h
              · rename_i q σ' hm
                obtain ⟨h1, h2, h3⟩ := h
                subst h1
                rw [if_pos rfl]
                exact mut_case (.inl hm) h2 h3
              · exact h.elim
            · rw [h1, if_neg (by simp)]
              exact ⟨habout, skip rfl h2⟩
/-- An instruction is what comes of an operation, or its view. -/
def INS (P : Program) (N : Nat) (ops : Array Oper) (o : Oper) (i : Ins) : Prop := ∃ s ii, cOp P N ops o = some { i with s := s, i := ii } ∧ Vw ii i.i

theorem viewS {P : Program} {di : Option Nat} {iv : I} {si : Bool} {K : St → Prop} (hiv : (∃ e sz b s x, iv = .appv e sz b s x) ∨ ∃ e sz xs, iv = .bslv e sz xs) (h : AStep P ⟨di, iv, none, si⟩ K σ) :
    match mvw σ di iv with | some (q, σ') => q ∧ K σ' | none => nvw σ di iv K := by
  unfold AStep at h
  split at h
  · rcases hiv with ⟨e, sz, b, s, x, rfl⟩ | ⟨e, sz, xs, rfl⟩ <;> cases di <;> (simp only [AStepS, pev, mev, pvw] at h; exact h)
  · rcases hiv with ⟨e, sz, b, s, x, rfl⟩ | ⟨e, sz, xs, rfl⟩ <;> cases di <;> simp only [AStepP, pev, mev] at h
theorem viewG {P : Program} {di : Option Nat} {iv : I} {g : Nat × Bool} {si : Bool} {K : St → Prop} (hiv : (∃ e sz b s x, iv = .appv e sz b s x) ∨ ∃ e sz xs, iv = .bslv e sz xs) (h : AStep P ⟨di, iv, some g, si⟩ K σ) :
    ∃ Gd, σ.guard g = some Gd ∧ (match mvw σ di iv with | some (q, σ') => (Gd = true → q ∧ K σ') ∧ (Gd = false → K (σ.put di (.opt false .non))) | none => Gd = false ∧ K (σ.put di (.opt false .non))) := by
  unfold AStep at h
  split at h
  · cases hg : σ.guard g with
    | none => simp only [AStepS, hg] at h
    | some Gd =>
      refine ⟨Gd, rfl, ?_⟩
      rcases hiv with ⟨e, sz, b, s, x, rfl⟩ | ⟨e, sz, xs, rfl⟩ <;> cases di <;> (simp only [AStepS, hg, pev, mev, pvw] at h; exact h)
  · cases hg : σ.guard g with
    | none => simp only [AStepP, hg] at h
    | some Gd =>
      rcases hiv with ⟨e, sz, b, s, x, rfl⟩ | ⟨e, sz, xs, rfl⟩ <;> cases di <;> simp only [AStepP, hg, pev, mev, I.putsB, false_or, reduceCtorEq, false_and, Bool.true_eq_false] at h

theorem view_step (hg : Gam C σ a w) {ops : Array Oper} {o : Oper} {di : Option Nat} {ii iv : I} {gi : Option (Nat × Bool)} {s si : Bool} (hc : cOp C.P C.N ops o = some ⟨di, ii, gi, s⟩) (hiv : (∃ e sz b s x, iv = .appv e sz b s x) ∨ ∃ e sz xs, iv = .bslv e sz xs)
    {K : St → Prop} (h : AStep C.P ⟨di, iv, gi, si⟩ K σ) {K' : Act → World → Prop} {Q : Exit → Act → World → Prop} (hK : ∀ σ' a' w', Gam C σ' a' w' → K σ' → K' a' w')
    (hm : ∀ q σ', mvw σ o.dst iv = some (q, σ') → q → K σ' → o.wpIn C.F 0 C.P a w K' Q) (hn : mvw σ o.dst iv = none → nvw σ o.dst iv K → o.wpIn C.F 0 C.P a w K' Q) :
    if Region.wanted o (yielded ops a.tmps) = true then o.wpIn C.F 0 C.P a w K' Q else (∀ f, o.about C.P w a.eval = some f → C.F.fn f) ∧ K' (a.put o.dst undef) w := by
  obtain ⟨loc, hg⟩ := hg
  unfold cOp at hc
  split at hc
  case h_2 => cases hc
  rename_i ins g hi hgd
  split at hc
  case isFalse => cases hc
  rename_i hd
  simp only [Option.some.injEq, Ins.mk.injEq] at hc
  obtain ⟨rfl, rfl, rfl, _⟩ := hc
  unfold cGuard at hgd
  cases hog : o.guard with
  | none =>
    rw [hog] at hgd
    simp only [Option.some.injEq] at hgd
    subst hgd
    rw [if_pos (by simp [Region.wanted, hog])]
    have h := viewS hiv h
    split at h
    · rename_i q σ' hmm
      exact hm q σ' hmm h.1 h.2
    · rename_i hmm
      exact hn hmm h
  | some jw =>
    obtain ⟨j, want⟩ := jw
    rw [hog] at hgd
    simp only at hgd
    split at hgd
    case h_2 => cases hgd
    rename_i t hj
    simp only [Option.some.injEq] at hgd
    subst hgd
    have skip : ∀ {Gd : Bool} {v : AV}, Gd = false → K (σ.put o.dst (.opt Gd v)) → K' (a.put o.dst undef) w := by
      intro Gd v hfalse hk
      refine hK _ _ _ ⟨loc, hg.put hd ?_⟩ hk
      simp only [RepA]
      exact ⟨fun h => (by rw [hfalse] at h; cases h), fun _ => trivial⟩
    have habout : ∀ f, o.about C.P w a.eval = some f → C.F.fn f := fun f _ => C.F_fn f
    obtain ⟨Gd, hGd, h⟩ := viewG hiv h
    have wanted : Region.wanted o (yielded ops a.tmps) = Gd := by
      unfold Region.wanted
      rw [hog]
      exact guard_sound hg hj hGd
    rw [wanted]
    split at h
    · rename_i q σ' hmm
      cases hb : Gd with
      | true => rw [if_pos rfl]; exact hm q σ' hmm (h.1 hb).1 (h.1 hb).2
      | false => rw [if_neg (by simp)]; exact ⟨habout, skip rfl (h.2 hb)⟩
    · rw [h.1, if_neg (by simp)]; exact ⟨habout, skip rfl h.2⟩

/-- **One instruction.** -/
theorem astep_sound (hg : Gam C σ a w) {ops : Array Oper} {o : Oper} {i : Ins} (hc : INS C.P C.N ops o i) {K : St → Prop} (h : AStep C.P i K σ) {K' : Act → World → Prop} {Q : Exit → Act → World → Prop}
    (hK : ∀ σ' a' w', Gam C σ' a' w' → K σ' → K' a' w') :
    if Region.wanted o (yielded ops a.tmps) = true then o.wpIn C.F 0 C.P a w K' Q else (∀ f, o.about C.P w a.eval = some f → C.F.fn f) ∧ K' (a.put o.dst undef) w := by
  obtain ⟨s, ii, hc, hvw⟩ := hc
  obtain ⟨di, iv, gi, si⟩ := i
  simp only at hc hvw
  have hci : cI C.P o.op = some ii ∧ o.dst.all (· < C.N) = true := by
    unfold cOp at hc
    split at hc
    · rename_i ins g hi hgd
      split at hc
      · rename_i hd
        simp only [Option.some.injEq, Ins.mk.injEq] at hc
        obtain ⟨_, rfl, _⟩ := hc
        exact ⟨hi, hd⟩
      · cases hc
    · cases hc
  obtain ⟨loc, hg1⟩ := id hg
  rcases hvw with rfl | ⟨e, sz, b, sx, x, rfl, rfl⟩ | ⟨e, sz, xs, rfl, rfl⟩
  · exact astep_sound0 hg ⟨s, hc⟩ h hK
  · refine view_step hg hc (.inl ⟨_, _, _, _, _, rfl⟩) h hK (fun q σ' hm => by cases hd : o.dst <;> rw [hd] at hm <;> simp [mvw] at hm) (fun _ hn => ?_)
    obtain ⟨hi, hd⟩ := hci
    simp only [nvw] at hn
    split at hn
    · rename_i d n len cs q k ys p hod hvb hvc
      obtain ⟨q1, q2, q3, q4, q5, q6, q7, hrest⟩ := hn
      have hd' : d < C.N := by rw [hod] at hd; simpa using hd
      have hi0 := hi
      generalize hop : o.op = op at hi
      cases cI_inv hi with
      | app ht hi' hz hzs hpos hs hx =>
        by_cases hk : k = 0
        · rw [if_pos hk] at hrest
          obtain ⟨hl0, hkk⟩ := hrest
          subst hk; subst hl0
          obtain ⟨u, hrun, hru⟩ := appv_none hg1 hop ht hi' hs hx q2 q3 hvb hvc q4 q5
          refine wpIn_of hi0 ?_
          rw [hrun, Oper.uponIn_value]
          refine hK _ _ _ ⟨loc, ?_⟩ hkk
          rw [hod]
          exact hg1.put (d := some d) (by simpa using hd') (by simp only [RepA]; exact hru)
        · rw [if_neg hk] at hrest
          obtain ⟨g, w', cap, cur, e', xs, hrun⟩ := appv_run hg1 hop ht hi' hz hzs hpos hs hx q2 q3 hvb hvc q4 q5 q6 q7 hk
          obtain ⟨j, hj, w2, loc2, hmn⟩ := appv_end hg1 hod hd' q1 hrun
          have hkk := hrest cap j hrun.hcap.1 hrun.hcap.2 hj
          refine wpIn_of hi0 ?_
          rcases hmn with ⟨u, hr, hg'⟩ | ⟨hr, hg'⟩
          · rw [hr, Oper.uponIn_value]
            exact hK _ _ _ ⟨loc2, hg'⟩ hkk
          · rw [hr, Oper.uponIn_skip]
            exact hK _ _ _ ⟨loc2, hg'⟩ hkk
    · exact hn.elim
  · refine view_step hg hc (.inr ⟨_, _, _, rfl⟩) h hK (fun q σ' hm hq hkk => ?_) (fun _ hn => hn.elim)
    obtain ⟨hi, hd⟩ := hci
    cases hod : o.dst with
    | none => rw [hod] at hm; simp [mvw] at hm
    | some d =>
      rw [hod] at hm hd
      have hd' : d < C.N := by simpa using hd
      simp only [mvw] at hm
      split at hm
      · rename_i p cs hgo
        simp only [Option.some.injEq, Prod.mk.injEq] at hm
        obtain ⟨rfl, rfl⟩ := hm
        have hi0 := hi
        generalize hop : o.op = op at hi
        cases cI_inv hi with
        | bsl ht hs hz hpr hpos hlim hzl hxs =>
          obtain ⟨w2, loc2, hmn⟩ := bslv_sound hg1 hop hod hd' ht hs hz hpr hpos hlim hzl hxs hgo hq.1 hq.2
          refine wpIn_of hi0 ?_
          rcases hmn with ⟨u, hr, hg'⟩ | ⟨hr, hg'⟩
          · rw [hr, Oper.uponIn_value]
            exact hK _ _ _ ⟨loc2, hg'⟩ hkk
          · rw [hr, Oper.uponIn_skip]
            exact hK _ _ _ ⟨loc2, hg'⟩ hkk
      · cases hm
end Go.V

/-
  Which instructions may change places.
-/
namespace Go.V

inductive Eff where
  | put (v : AV)
  | new (r : AV) (o : Ob) (rm : Option Nat)
  | set (n : Nat) (o : Ob)

def rmO (own : Nat → Ob) : Option Nat → Nat → Ob
  | some n => upd own n .none
  | none => own

def Eff.app (ε : Eff) (d : Option Nat) (σ : St) : St :=
  match ε, d with
  | .put v, d => σ.put d v
  | .new r o rm, some d => St.new ⟨σ.env, rmO σ.own rm⟩ d r o
  | .new _ _ _, none => σ
  | .set n o, _ => ⟨σ.env, upd σ.own n o⟩

/-- 'mev', with its effect told apart. -/
def meff (σ : St) (d : Option Nat) (i : I) : Option (Prop × Eff) :=
  match d, i with
  | some d, .alloc cs => some ((σ.own d).isNone = true, .new (.bp d 0) (.box cs) none)
  | some d, .box sz x =>
    match (σ.val x).dv.cellsA σ.own with
    | some cs => some ((σ.own d).isNone = true ∧ (σ.val x).dg = true ∧ cs.length = sz, .new (.bp d 0) (.box cs) none)
    | none => none
  | none, .st sz x y =>
    match (σ.val x).dv, (σ.val y).dv.cellsA σ.own with
    | .bp n o, some vs =>
      match σ.own n with
      | .box cs => some ((σ.val x).dg = true ∧ (σ.val y).dg = true ∧ vs.length = sz ∧ o + sz ≤ cs.length ∧ vs.all AV.oneB = true, .set n (.box (setAt cs o vs)))
      | _ => none
    | _, _ => none
  | some d, .bsl e sz parts =>
    match parts.mapM fun x => (σ.val x).dv.cds σ.own with
    | some es => some ((σ.own d).isNone = true ∧ (parts.all fun x => (σ.val x).dg) = true ∧ (es.all fun e => e.length == sz) = true, .new (.gr d) (.grow e sz es) none)
    | none => none
  | some d, .app e sz bytes s x =>
    match (σ.val s).dv, (σ.val x).dv.elems σ.own with
    | .gr n, some ys =>
      match σ.own n with
      | .grow e' sz' es =>
        if e' = e ∧ sz' = sz then
          some ((σ.val s).dg = true ∧ (σ.val x).dg = true ∧ (upd σ.own n .none d).isNone = true ∧ (ys.all fun e => e.length == sz) = true ∧ es.length + ys.length ≤ maxLen ∧ (es.length + ys.length) * bytes ≤ 140737488355328,
            .new (.gr d) (.grow e sz (es ++ ys)) (some n))
        else none
      | _ => none
    | .c (.raw (.slice none 0 0)), some ys =>
      some ((σ.val s).dg = true ∧ (σ.val x).dg = true ∧ (σ.own d).isNone = true ∧ (ys.all fun e => e.length == sz) = true ∧ ys.length ≤ maxLen ∧ ys.length * bytes ≤ 140737488355328,
        .new (.gr d) (.grow e sz ys) none)
    | _, _ => none
  | _, _ => none

theorem mev_eq (σ : St) (d : Option Nat) (i : I) : mev σ d i = (meff σ d i).map fun p => (p.1, p.2.app d σ) := by
  cases i <;> cases d <;> try rfl
  case box.some sz x d => simp only [mev, meff]; cases hc : (σ.val x).dv.cellsA σ.own <;> rfl
  case st.none sz x y =>
    simp only [mev, meff]
    cases h1 : (σ.val x).dv <;> cases h2 : (σ.val y).dv.cellsA σ.own <;> try rfl
    rename_i n o vs
    dsimp only
    cases h3 : σ.own n <;> rfl
  case bsl.some e sz parts d => simp only [mev, meff]; cases hc : (parts.mapM fun x => (σ.val x).dv.cds σ.own) <;> rfl
  case app.some e sz bytes s x d =>
    simp only [mev, meff]
    cases h2 : (σ.val x).dv.elems σ.own with
    | none =>
      cases h1 : (σ.val s).dv <;> try rfl
      rename_i c
      cases c <;> try rfl
      rename_i v
      cases v <;> try rfl
      rename_i A l c
      cases A <;> cases l <;> cases c <;> rfl
    | some ys =>
      cases h1 : (σ.val s).dv <;> try rfl
      · rename_i c
        cases c <;> try rfl
        rename_i v
        cases v <;> try rfl
        rename_i A l c
        cases A <;> cases l <;> cases c <;> rfl
      · rename_i n
        dsimp only
        cases h3 : σ.own n <;> try rfl
        rename_i e' sz' es
        dsimp only
        by_cases hh : e' = e ∧ sz' = sz
        · simp only [if_pos hh]; rfl
        · simp only [if_neg hh]; rfl

/-! ### What becomes of values behind an effect -/
theorem dg_prg (d : Nat) (x : AV) : (x.prg d).dg = x.dg := by
  cases x <;> simp only [AV.prg] <;> first | rfl | (rename_i n _ _ _; by_cases h : n = d <;> simp [h, AV.dg]) | (rename_i n o; by_cases h : n = d <;> simp [h, AV.dg]) | (rename_i n; by_cases h : n = d <;> simp [h, AV.dg])
theorem dv_prg (d : Nat) (x : AV) : (x.prg d).dv = x.dv.prg d := by
  cases x <;> simp only [AV.prg] <;> first | rfl | (rename_i n _ _ _; by_cases h : n = d <;> simp [h, AV.dv, AV.prg]; done) | (rename_i n o; by_cases h : n = d <;> simp [h, AV.dv, AV.prg]) | (rename_i n; by_cases h : n = d <;> simp [h, AV.dv, AV.prg])

theorem prgL_eq (d : Nat) : ∀ l : List AV, AV.prgL d l = l.map (AV.prg d)
  | [] => rfl
  | a :: l => by simp [AV.prgL, prgL_eq d l]

mutual
theorem prg_pure (d : Nat) : ∀ {x : AV}, x.pureB = true → x.prg d = x
  | .c _, _ => rfl
  | .non, _ => rfl
  | .bp _ _, h => by simp [AV.pureB] at h
  | .gr _, h => by simp [AV.pureB] at h
  | .vw _ _ _ _ _, h => by simp [AV.pureB] at h
  | .agg cs, h => by simp only [AV.pureB] at h; simp only [AV.prg, prgL_pure d h]
  | .tup cs, h => by simp only [AV.pureB] at h; simp only [AV.prg, prgL_pure d h]
  | .fn f cs, h => by simp only [AV.pureB] at h; simp only [AV.prg, prgL_pure d h]
  | .opt g x, h => by simp only [AV.pureB] at h; simp only [AV.prg, prg_pure d h]
theorem prgL_pure (d : Nat) : ∀ {l : List AV}, AV.pureL l = true → AV.prgL d l = l
  | [], _ => rfl
  | a :: l, h => by simp only [AV.pureL, Bool.and_eq_true] at h; simp only [AV.prgL, prg_pure d h.1, prgL_pure d h.2]
end


/-! ### Values that are the same -/
section
variable {σ σ' : St}

theorem bldGo_congr (ho : σ'.own = σ.own) : ∀ (ps : List (Nat × Nat × X)) (cs : List AV), (∀ p ∈ ps, σ'.val p.2.2 = σ.val p.2.2) → bldGo σ' ps cs = bldGo σ ps cs
  | [], _, _ => rfl
  | (off, sz, x) :: ps, cs, h => by
    have hx : σ'.val x = σ.val x := h (off, sz, x) (by simp)
    simp only [bldGo, hx, ho]
    cases (σ.val x).dv.cellsA σ.own with
    | none => rfl
    | some vs => simp only [bldGo_congr ho ps _ (fun p hp => h p (by simp [hp]))]

theorem bound_congr {n : Nat} {x : Option X} (h : ∀ y, x = some y → σ'.val y = σ.val y) : bound σ' n x = bound σ n x := by
  cases x with
  | none => rfl
  | some y => simp only [bound, h y rfl]

theorem pev_congr {i : I} (h : ∀ x ∈ i.xs, σ'.val x = σ.val x) (ho : σ'.own = σ.own) : pev σ' i = pev σ i := by
  cases i <;> try rfl
  case slc sz x lo hi =>
    simp only [I.xs, List.mem_cons, List.mem_append, Option.mem_toList] at h
    simp only [pev, h x (.inl rfl), ho, bound_congr (x := lo) (fun y hy => h y (.inr (.inl hy))), bound_congr (x := hi) (fun y hy => h y (.inr (.inr hy)))]
  case mkfn f caps =>
    simp only [I.xs] at h
    have h1 : (caps.map fun x => (σ'.val x).dv) = caps.map fun x => (σ.val x).dv := List.map_congr_left fun x hx => by rw [h x hx]
    have h2 : (caps.all fun x => (σ'.val x).dg) = caps.all fun x => (σ.val x).dg := by
      rw [Bool.eq_iff_iff, List.all_eq_true, List.all_eq_true]
      exact ⟨fun k x hx => by rw [← h x hx]; exact k x hx, fun k x hx => by rw [h x hx]; exact k x hx⟩
    simp only [pev, h1, h2]
  case bld z ps =>
    simp only [I.xs, List.mem_map] at h
    simp only [pev, bldGo_congr ho ps z (fun p hp => h _ ⟨p, hp, rfl⟩)]
  all_goals
    simp only [I.xs, List.mem_cons, List.not_mem_nil, or_false, forall_eq_or_imp, forall_eq] at h
    simp only [pev, h, ho]

theorem mapM_cds_congr {xs : List X} {own : Nat → Ob} (h : ∀ x ∈ xs, σ'.val x = σ.val x) : (xs.mapM fun x => (σ'.val x).dv.cds own) = xs.mapM fun x => (σ.val x).dv.cds own := by
  induction xs with
  | nil => rfl
  | cons x xs ih => simp only [List.mapM_cons, h x (by simp), ih fun y hy => h y (by simp [hy])]

theorem all_dg_congr {xs : List X} (h : ∀ x ∈ xs, σ'.val x = σ.val x) : (xs.all fun x => (σ'.val x).dg) = xs.all fun x => (σ.val x).dg := by
  induction xs with
  | nil => rfl
  | cons x xs ih => simp only [List.all_cons, h x (by simp), ih fun y hy => h y (by simp [hy])]

theorem map_dv_congr {xs : List X} (h : ∀ x ∈ xs, σ'.val x = σ.val x) : (xs.map fun x => (σ'.val x).dv) = xs.map fun x => (σ.val x).dv := List.map_congr_left fun x hx => by rw [h x hx]

theorem meff_congr {d : Option Nat} {i : I} (h : ∀ x ∈ i.xs, σ'.val x = σ.val x) (ho : σ'.own = σ.own) : meff σ' d i = meff σ d i := by
  cases i <;> cases d <;> try rfl
  case bsl.some e sz xs d =>
    simp only [I.xs] at h
    simp only [meff, ho, mapM_cds_congr h, all_dg_congr h]
  all_goals
    simp only [I.xs, List.mem_cons, List.not_mem_nil, or_false, forall_eq_or_imp, forall_eq, false_implies, implies_true] at h
    simp only [meff, h, ho]

end

/-! ### Values behind a new object -/
/-- σ' is σ behind a new object d, as far as the instruction sees. -/
structure Newer (σ σ' : St) (d : Nat) (xs : List X) : Prop where
  val : ∀ x ∈ xs, σ'.val x = (σ.val x).prg d
  own : ∀ n, n ≠ d → σ'.own n = (σ.own n).prg d
  none : σ.own d = .none

section
variable {σ σ' : St} {d : Nat}

theorem Newer.dg {xs : List X} (h : Newer σ σ' d xs) {x : X} (hx : x ∈ xs) : (σ'.val x).dg = (σ.val x).dg := by rw [h.val x hx, dg_prg]
theorem Newer.dv {xs : List X} (h : Newer σ σ' d xs) {x : X} (hx : x ∈ xs) : (σ'.val x).dv = (σ.val x).dv.prg d := by rw [h.val x hx, dv_prg]

theorem asC_prg (x : AV) : (x.prg d).asC = x.asC := by
  cases x
  case bp n o => by_cases hn : n = d <;> simp [AV.prg, hn, AV.asC]
  case gr n => by_cases hn : n = d <;> simp [AV.prg, hn, AV.asC]
  case vw sz n off len cap => by_cases hn : n = d <;> simp [AV.prg, hn, AV.asC]
  all_goals rfl

theorem isBo_prg (x : AV) : (x.prg d).isBo = x.isBo := by
  cases x <;> simp only [AV.prg] <;> (try split) <;> rfl
theorem bo_prg (x : AV) : (x.prg d).bo = x.bo := by
  cases x <;> simp only [AV.prg] <;> (try split) <;> rfl
theorem elems_c {o1 o2 : Nat → Ob} (c : CD) : (AV.c c).elems o1 = (AV.c c).elems o2 := by
  cases c <;> try rfl
  rename_i v
  cases v <;> try rfl
  rename_i A l c
  cases A <;> cases l <;> cases c <;> rfl
theorem elemsZ_c {o1 o2 : Nat → Ob} (c : CD) : (AV.c c).elemsZ o1 = (AV.c c).elemsZ o2 := by cases c <;> rfl
theorem toCD_c {o1 o2 : Nat → Ob} (c : CD) : (AV.c c).toCD o1 = (AV.c c).toCD o2 := rfl

theorem Newer.elems {xs : List X} (h : Newer σ σ' d xs) (x : AV) : (x.prg d).elems σ'.own = x.elems σ.own := by
  cases x <;> simp only [AV.prg]
  case c c => exact elems_c c
  case bp n o => by_cases hn : n = d <;> simp [hn, AV.elems]
  case vw sz n off len cap => by_cases hn : n = d <;> simp [hn, AV.elems]
  case gr n =>
    by_cases hn : n = d
    · subst hn; simp [AV.elems, h.none]
    · simp only [hn, if_false, AV.elems, h.own n hn]
      cases σ.own n <;> rfl
  all_goals rfl

theorem Newer.elemsZ {xs : List X} (h : Newer σ σ' d xs) (x : AV) : (x.prg d).elemsZ σ'.own = x.elemsZ σ.own := by
  cases x <;> simp only [AV.prg]
  case c c => exact elemsZ_c c
  case bp n o => by_cases hn : n = d <;> simp [hn, AV.elemsZ]
  case vw sz n off len cap => by_cases hn : n = d <;> simp [hn, AV.elemsZ]
  case gr n =>
    by_cases hn : n = d
    · subst hn; simp [AV.elemsZ, h.none]
    · simp only [hn, if_false, AV.elemsZ, h.own n hn]
      cases σ.own n <;> rfl
  all_goals rfl

theorem Newer.toCD {xs : List X} (h : Newer σ σ' d xs) (x : AV) : (x.prg d).toCD σ'.own = x.toCD σ.own := by
  cases x <;> simp only [AV.prg]
  case c c => exact toCD_c c
  case bp n o => by_cases hn : n = d <;> simp [hn, AV.toCD]
  case vw sz n off len cap => by_cases hn : n = d <;> simp [hn, AV.toCD]
  case gr n =>
    by_cases hn : n = d
    · subst hn; simp [AV.toCD, h.none]
    · simp only [hn, if_false, AV.toCD, h.own n hn]
      cases σ.own n <;> rfl
  all_goals rfl

theorem Newer.toCDs {xs : List X} (h : Newer σ σ' d xs) : ∀ l : List AV, (AV.prgL d l).mapM (AV.toCD σ'.own) = l.mapM (AV.toCD σ.own)
  | [] => rfl
  | x :: l => by simp only [AV.prgL, List.mapM_cons, h.toCD x, h.toCDs l]

theorem Newer.cds {xs : List X} (h : Newer σ σ' d xs) (x : AV) : (x.prg d).cds σ'.own = x.cds σ.own := by
  have ht := h.toCD x
  cases x
  case agg cs => simp only [AV.prg, AV.cds, h.toCDs cs]
  case bp n o =>
    simp only [AV.prg] at ht ⊢
    by_cases hn : n = d
    · simp only [hn, if_true] at ht ⊢; rfl
    · simp only [hn, if_false]; rfl
  case gr n =>
    simp only [AV.prg] at ht ⊢
    by_cases hn : n = d
    · simp only [hn, if_true] at ht ⊢; simp only [AV.cds, ht]
    · simp only [hn, if_false] at ht ⊢; simp only [AV.cds, ht]
  case vw sz n off len cap =>
    simp only [AV.prg] at ht ⊢
    by_cases hn : n = d
    · simp only [hn, if_true] at ht ⊢; rfl
    · simp only [hn, if_false]; rfl
  all_goals rfl

mutual
theorem Newer.port {xs : List X} (h : Newer σ σ' d xs) : ∀ x : AV, (x.prg d).port σ'.own = x.port σ.own
  | .c _ => rfl
  | .non => rfl
  | .bp n o => by by_cases hn : n = d <;> simp [hn, AV.prg, AV.port]
  | .vw sz n off len cap => by by_cases hn : n = d <;> simp [hn, AV.prg, AV.port]
  | .gr n => by
    by_cases hn : n = d
    · subst hn; simp [AV.prg, AV.port, h.none]
    · simp only [AV.prg, hn, if_false, AV.port, h.own n hn]
      cases σ.own n <;> rfl
  | .agg cs => by simp only [AV.prg, AV.port, h.portL cs]
  | .tup cs => by simp only [AV.prg, AV.port, h.portL cs]
  | .fn f cs => by simp only [AV.prg, AV.port, h.portL cs]
  | .opt g x => rfl
theorem Newer.portL {xs : List X} (h : Newer σ σ' d xs) : ∀ l : List AV, AV.portL σ'.own (AV.prgL d l) = AV.portL σ.own l
  | [] => rfl
  | x :: l => by simp only [AV.prgL, AV.portL, h.port x, h.portL l]
end

theorem Newer.cellsA {xs : List X} (h : Newer σ σ' d xs) (x : AV) : (x.prg d).cellsA σ'.own = (x.cellsA σ.own).map (AV.prgL d) := by
  have hno : ∀ n, n ≠ d → (σ'.own n).isNone = (σ.own n).isNone := fun n hn => by rw [h.own n hn]; cases σ.own n <;> rfl
  cases x
  case bp n o =>
    by_cases hn : n = d
    · subst hn; simp [AV.prg, AV.cellsA, h.none, Ob.isNone]
    · simp only [AV.prg, hn, if_false, AV.cellsA, hno n hn]
      split <;> simp [AV.prgL, AV.prg, hn]
  case gr n =>
    by_cases hn : n = d
    · subst hn; simp [AV.prg, AV.cellsA, h.none, Ob.isNone]
    · simp only [AV.prg, hn, if_false, AV.cellsA, hno n hn]
      split <;> simp [AV.prgL, AV.prg, hn]
  case vw sz n off len cap =>
    by_cases hn : n = d
    · subst hn; simp [AV.prg, AV.cellsA, h.none, Ob.isNone]
    · simp only [AV.prg, hn, if_false, AV.cellsA, hno n hn]
      split <;> simp [AV.prgL, AV.prg, hn]
  all_goals rfl

/-- A value that stays what it is: no reference to d. -/
theorem Newer.bound {xs : List X} (h : Newer σ σ' d xs) {n : Nat} {x : Option X} (hx : ∀ y, x = some y → y ∈ xs) : bound σ' n x = bound σ n x := by
  cases x with
  | none => rfl
  | some y =>
    simp only [Go.V.bound, h.dg (hx y rfl), h.dv (hx y rfl), asC_prg]
end

section
variable {σ σ' : St} {d : Nat}

theorem prgL_length (l : List AV) : (AV.prgL d l).length = l.length := by rw [prgL_eq]; simp
theorem prgL_get (l : List AV) (i : Nat) : (AV.prgL d l)[i]? = (l[i]?).map (AV.prg d) := by rw [prgL_eq]; simp
theorem prgL_take (l : List AV) (i : Nat) : (AV.prgL d l).take i = AV.prgL d (l.take i) := by simp [prgL_eq]
theorem prgL_drop (l : List AV) (i : Nat) : (AV.prgL d l).drop i = AV.prgL d (l.drop i) := by simp [prgL_eq]
theorem prgL_append (l m : List AV) : AV.prgL d (l ++ m) = AV.prgL d l ++ AV.prgL d m := by simp [prgL_eq]
theorem prgL_splice (l m : List AV) (o : Nat) : AV.prgL d (splice l o m) = splice (AV.prgL d l) o (AV.prgL d m) := by
  simp only [splice, prgL_append, prgL_take, prgL_drop, prgL_length]
theorem Newer.bldGo {xs : List X} (h : Newer σ σ' d xs) : ∀ (ps : List (Nat × Nat × X)) (cs : List AV), (∀ p ∈ ps, p.2.2 ∈ xs) → bldGo σ' ps (AV.prgL d cs) = (bldGo σ ps cs).map fun p => (p.1, AV.prgL d p.2)
  | [], cs, _ => rfl
  | (off, sz, x) :: ps, cs, hp => by
    have hx : x ∈ xs := hp (off, sz, x) (by simp)
    simp only [Go.V.bldGo, h.dv hx, h.cellsA, h.dg hx]
    cases (σ.val x).dv.cellsA σ.own with
    | none => rfl
    | some vs =>
      simp only [Option.map_some, prgL_length]
      split
      · rw [← prgL_splice, Newer.bldGo h ps _ (fun p hp' => hp p (by simp [hp']))]
        cases Go.V.bldGo σ ps (splice cs off vs) with
        | none => rfl
        | some r => rfl
      · rfl

theorem pev_newer {i : I} (h : Newer σ σ' d i.xs) (hc : i.constB = true) : pev σ' i = (pev σ i).map fun p => (p.1, p.2.prg d) := by
  have hno : ∀ n, n ≠ d → (σ'.own n).isBox = (σ.own n).isBox := fun n hn => by rw [h.own n hn]; cases σ.own n <;> rfl
  cases i <;> try rfl
  case mv x =>
    have hx : x ∈ (I.mv x).xs := by simp [I.xs]
    simp only [pev, h.dg hx, h.dv hx, Option.map_some]
  case pick c a b =>
    have h1 : c ∈ (I.pick c a b).xs := by simp [I.xs]
    have h2 : a ∈ (I.pick c a b).xs := by simp [I.xs]
    have h3 : b ∈ (I.pick c a b).xs := by simp [I.xs]
    simp only [pev, h.dg h1, h.dv h1, h.dg h2, h.dv h2, h.dg h3, h.dv h3, asC_prg, isBo_prg, bo_prg]
    split <;> simp [AV.prg]
  case bin op x y =>
    have h1 : x ∈ (I.bin op x y).xs := by simp [I.xs]
    have h2 : y ∈ (I.bin op x y).xs := by simp [I.xs]
    simp only [pev, h.dg h1, h.dv h1, h.dg h2, h.dv h2, asC_prg]
    split
    · split <;> simp [AV.prg]
    · simp
  case eqs ne x y =>
    have h1 : x ∈ (I.eqs ne x y).xs := by simp [I.xs]
    have h2 : y ∈ (I.eqs ne x y).xs := by simp [I.xs]
    simp only [pev, h.dg h1, h.dv h1, h.dg h2, h.dv h2, asC_prg]
    split <;> simp [AV.prg]
  case un op x =>
    have h1 : x ∈ (I.un op x).xs := by simp [I.xs]
    simp only [pev, h.dg h1, h.dv h1, asC_prg]
    split <;> simp [AV.prg]
  case fa off x =>
    have h1 : x ∈ (I.fa off x).xs := by simp [I.xs]
    simp only [pev, h.dg h1, h.dv h1]
    cases (σ.val x).dv
    case c c => cases c <;> rfl
    case bp n o =>
      by_cases hn : n = d
      · subst hn; simp [AV.prg, h.none, Ob.isBox]
      · simp only [AV.prg, hn, if_false, hno n hn]
        split <;> simp [AV.prg, hn]
    case gr n => by_cases hn : n = d <;> simp [AV.prg, hn]
    case vw sz n off len cap => by_cases hn : n = d <;> simp [AV.prg, hn]
    all_goals rfl
  case nilc x =>
    have h1 : x ∈ (I.nilc x).xs := by simp [I.xs]
    simp only [pev, h.dg h1, h.dv h1]
    cases (σ.val x).dv
    case c c => cases c <;> rfl
    case bp n o =>
      by_cases hn : n = d
      · subst hn; simp [AV.prg, h.none, Ob.isBox]
      · simp only [AV.prg, hn, if_false, hno n hn]
        split <;> simp [AV.prg, hn]
    case gr n => by_cases hn : n = d <;> simp [AV.prg, hn]
    case vw sz n off len cap => by_cases hn : n = d <;> simp [AV.prg, hn]
    all_goals rfl
  case ia sz x y =>
    have h1 : x ∈ (I.ia sz x y).xs := by simp [I.xs]
    have h2 : y ∈ (I.ia sz x y).xs := by simp [I.xs]
    simp only [pev, h.dg h1, h.dv h1, h.dg h2, h.dv h2, asC_prg, h.elemsZ]
    split
    · split <;> simp [AV.prg]
    · simp
  case ld one sz x =>
    have h1 : x ∈ (I.ld one sz x).xs := by simp [I.xs]
    simp only [pev, h.dg h1, h.dv h1]
    cases (σ.val x).dv
    case c c =>
      cases c <;> try rfl
      rename_i cs
      simp only [AV.prg]
      cases one
      · simp only [Bool.false_eq_true, if_false, Option.map_some, AV.prg]
        congr 3
        rw [prgL_eq, List.map_map]
        rfl
      · simp only [if_true, Option.map_some, AV.prg]
    case bp n o =>
      by_cases hn : n = d
      · subst hn; simp [AV.prg, h.none]
      · simp only [AV.prg, hn, if_false, h.own n hn]
        cases σ.own n <;> try rfl
        rename_i cs
        simp only [Ob.prg]
        cases one
        · simp only [Bool.false_eq_true, if_false, Option.map_some, AV.prg, prgL_length, prgL_take, prgL_drop]
        · simp only [if_true, Option.map_some, prgL_length]
          rw [List.getD_eq_getElem?_getD, List.getD_eq_getElem?_getD, prgL_get]
          cases cs[o]? <;> rfl
    case gr n => by_cases hn : n = d <;> simp [AV.prg, hn]
    case vw sz n off len cap => by_cases hn : n = d <;> simp [AV.prg, hn]
    all_goals rfl
  case len x =>
    have h1 : x ∈ (I.len x).xs := by simp [I.xs]
    simp only [pev, h.dg h1, h.dv h1, h.elems]
    split <;> simp [AV.prg]
  case mm mx x y =>
    have h1 : x ∈ (I.mm mx x y).xs := by simp [I.xs]
    have h2 : y ∈ (I.mm mx x y).xs := by simp [I.xs]
    simp only [pev, h.dg h1, h.dv h1, h.dg h2, h.dv h2, asC_prg]
    split <;> simp [AV.prg]
  case ext x k =>
    have h1 : x ∈ (I.ext x k).xs := by simp [I.xs]
    simp only [pev, h.dg h1, h.dv h1]
    cases (σ.val x).dv
    case bp n o => by_cases hn : n = d <;> simp [AV.prg, hn]
    case gr n => by_cases hn : n = d <;> simp [AV.prg, hn]
    case vw sz n off len cap => by_cases hn : n = d <;> simp [AV.prg, hn]
    case tup vs =>
      simp only [AV.prg, prgL_get]
      cases vs[k]? <;> rfl
    all_goals rfl
  case fld one sz off x =>
    have h1 : x ∈ (I.fld one sz off x).xs := by simp [I.xs]
    simp only [pev, h.dg h1, h.dv h1]
    cases (σ.val x).dv
    case bp n o => by_cases hn : n = d <;> simp [AV.prg, hn]
    case gr n => by_cases hn : n = d <;> simp [AV.prg, hn]
    case vw sz n off len cap => by_cases hn : n = d <;> simp [AV.prg, hn]
    case agg cs =>
      simp only [AV.prg]
      cases one
      · simp only [Bool.false_eq_true, if_false, Option.map_some, AV.prg, prgL_length, prgL_take, prgL_drop]
      · simp only [if_true, prgL_get]
        cases cs[off]? <;> rfl
    all_goals rfl
  case slc sz x lo hi =>
    have h1 : x ∈ (I.slc sz x lo hi).xs := by simp [I.xs]
    simp only [pev, h.dg h1, h.dv h1, h.elemsZ, h.bound (x := lo) (fun y hy => by simp [I.xs, hy]), h.bound (x := hi) (fun y hy => by simp [I.xs, hy])]
    split
    · split
      · split <;> simp [AV.prg]
      · simp
    · simp
  case mkfn f caps =>
    have h1 : (caps.map fun x => (σ'.val x).dv) = AV.prgL d (caps.map fun x => (σ.val x).dv) := by
      rw [prgL_eq, List.map_map]
      exact List.map_congr_left fun x hx => h.dv (by simpa [I.xs] using hx)
    have h2 : (caps.all fun x => (σ'.val x).dg) = caps.all fun x => (σ.val x).dg := by
      rw [Bool.eq_iff_iff, List.all_eq_true, List.all_eq_true]
      exact ⟨fun k x hx => by rw [← h.dg (by simpa [I.xs] using hx)]; exact k x hx, fun k x hx => by rw [h.dg (by simpa [I.xs] using hx)]; exact k x hx⟩
    simp only [pev, h1, h2, Option.map_some, AV.prg]
  case bld z ps =>
    simp only [I.constB] at hc
    have := h.bldGo ps z (fun p hp => by simp only [I.xs, List.mem_map]; exact ⟨p, hp, rfl⟩)
    rw [prgL_pure d hc] at this
    simp only [pev, this, Option.map_map]
    rfl
end

def Eff.prg (d : Nat) : Eff → Eff
  | .put v => .put (v.prg d)
  | .new r o rm => .new (r.prg d) (o.prg d) rm
  | .set n o => .set n (o.prg d)

section
variable {σ σ' : St} {d : Nat}

theorem Newer.all_dg {xs : List X} (h : Newer σ σ' d xs) : ∀ l : List X, (∀ x ∈ l, x ∈ xs) → (l.all fun x => (σ'.val x).dg) = l.all fun x => (σ.val x).dg
  | [], _ => rfl
  | x :: l, hl => by simp only [List.all_cons, h.dg (hl x (by simp)), Newer.all_dg h l (fun y hy => hl y (by simp [hy]))]

theorem Newer.map_dv {xs : List X} (h : Newer σ σ' d xs) : ∀ l : List X, (∀ x ∈ l, x ∈ xs) → (l.map fun x => (σ'.val x).dv) = AV.prgL d (l.map fun x => (σ.val x).dv)
  | [], _ => rfl
  | x :: l, hl => by simp only [List.map_cons, AV.prgL, h.dv (hl x (by simp)), Newer.map_dv h l (fun y hy => hl y (by simp [hy]))]

theorem guard_newer {g : Nat × Bool} (h : σ'.env g.1 = (σ.env g.1).prg d) : σ'.guard g = σ.guard g := by
  unfold St.guard
  rw [h]
  cases σ.env g.1
  case bp n o => by_cases hn : n = d <;> simp [AV.prg, hn]
  case gr n => by_cases hn : n = d <;> simp [AV.prg, hn]
  case vw sz n off len cap => by_cases hn : n = d <;> simp [AV.prg, hn]
  case opt q x =>
    simp only [AV.prg]
    cases x
    case bp n o => by_cases hn : n = d <;> simp [AV.prg, hn]
    case gr n => by_cases hn : n = d <;> simp [AV.prg, hn]
    case vw sz n off len cap => by_cases hn : n = d <;> simp [AV.prg, hn]
    all_goals rfl
  all_goals rfl
end

/-! ### Fewer objects, or boxes that hold something else -/
/-- own' holds what own holds, or nothing; or, where boxes aren't read, another box. -/
def OwnLe (b : Bool) (own' own : Nat → Ob) : Prop := ∀ n, own' n = own n ∨ own' n = .none ∨ (b = true ∧ (own' n).isBox = true ∧ (own n).isBox = true)

section
variable {own own' : Nat → Ob} {b : Bool} {env : Nat → AV}

theorem OwnLe.elems (h : OwnLe b own' own) {x : AV} {es : List (List CD)} (he : x.elems own' = some es) : x.elems own = some es := by
  cases x
  case c c => rw [← he]; exact elems_c c
  case gr n =>
    simp only [AV.elems] at he ⊢
    rcases h n with h | h | ⟨_, h, _⟩
    · rwa [h] at he
    · rw [h] at he; cases he
    · cases ho : own' n <;> rw [ho] at h he <;> simp_all [Ob.isBox]
  all_goals cases he

theorem OwnLe.elemsZ (h : OwnLe b own' own) {x : AV} {es : Nat × List (List CD)} (he : x.elemsZ own' = some es) : x.elemsZ own = some es := by
  cases x
  case c c => rw [← he]; exact elemsZ_c c
  case gr n =>
    simp only [AV.elemsZ] at he ⊢
    rcases h n with h | h | ⟨_, h, _⟩
    · rwa [h] at he
    · rw [h] at he; cases he
    · cases ho : own' n <;> rw [ho] at h he <;> simp_all [Ob.isBox]
  all_goals cases he

theorem OwnLe.box (h : OwnLe b own' own) {n : Nat} (hb : (own' n).isBox = true) : (own n).isBox = true := by
  rcases h n with h | h | ⟨_, _, h⟩
  · rwa [h] at hb
  · rw [h] at hb; cases hb
  · exact h

theorem OwnLe.some_ (h : OwnLe b own' own) {n : Nat} (hb : (own' n).isNone = false) : (own n).isNone = false := by
  rcases h n with h | h | ⟨_, _, h⟩
  · rwa [h] at hb
  · rw [h] at hb; cases hb
  · cases ho : own n <;> rw [ho] at h <;> simp_all [Ob.isBox, Ob.isNone]

theorem OwnLe.cellsA (h : OwnLe b own' own) {x : AV} {vs : List AV} (he : x.cellsA own' = some vs) : x.cellsA own = some vs := by
  cases x
  case bp n o =>
    simp only [AV.cellsA] at he ⊢
    split at he
    · cases he
    · rename_i hn
      rw [h.some_ (by simpa using hn)]
      exact he
  case gr n =>
    simp only [AV.cellsA] at he ⊢
    split at he
    · cases he
    · rename_i hn
      rw [h.some_ (by simpa using hn)]
      exact he
  case vw sz n off len cap =>
    simp only [AV.cellsA] at he ⊢
    split at he
    · cases he
    · rename_i hn
      rw [h.some_ (by simpa using hn)]
      exact he
  all_goals exact he

mutual
theorem OwnLe.port (h : OwnLe b own' own) : ∀ {x y : AV}, x.port own' = some y → x.port own = some y
  | .c _, y, he => he
  | .non, y, he => he
  | .bp _ _, y, he => he
  | .opt _ _, y, he => he
  | .gr n, y, he => by
    simp only [AV.port] at he ⊢
    rcases h n with h | h | ⟨_, h, _⟩
    · rwa [h] at he
    · rw [h] at he; cases he
    · cases ho : own' n <;> rw [ho] at h he <;> simp_all [Ob.isBox]
  | .agg cs, y, he => by
    simp only [AV.port, Option.map_eq_some_iff] at he ⊢
    obtain ⟨l, hl, rfl⟩ := he
    exact ⟨l, h.portL hl, rfl⟩
  | .tup cs, y, he => by
    simp only [AV.port, Option.map_eq_some_iff] at he ⊢
    obtain ⟨l, hl, rfl⟩ := he
    exact ⟨l, h.portL hl, rfl⟩
  | .fn f cs, y, he => by
    simp only [AV.port, Option.map_eq_some_iff] at he ⊢
    obtain ⟨l, hl, rfl⟩ := he
    exact ⟨l, h.portL hl, rfl⟩
theorem OwnLe.portL (h : OwnLe b own' own) : ∀ {x y : List AV}, AV.portL own' x = some y → AV.portL own x = some y
  | [], y, he => he
  | a :: x, y, he => by
    simp only [AV.portL] at he ⊢
    split at he
    · rename_i u us h1 h2
      rw [h.port h1, h.portL h2]
      exact he
    · cases he
end

theorem OwnLe.bldGo (h : OwnLe b own' own) : ∀ (ps : List (Nat × Nat × X)) (cs : List AV) {r : Prop × List AV}, bldGo ⟨env, own'⟩ ps cs = some r → bldGo ⟨env, own⟩ ps cs = some r
  | [], cs, r, he => he
  | (off, sz, x) :: ps, cs, r, he => by
    simp only [Go.V.bldGo] at he ⊢
    split at he
    · rename_i vs hv
      have hv' : (St.val ⟨env, own⟩ x).dv.cellsA own = some vs := h.cellsA (by cases x <;> exact hv)
      rw [hv']
      simp only
      split at he
      · rename_i hfit
        rw [if_pos hfit]
        split at he
        · rename_i p r' hb
          rw [h.bldGo ps _ hb]
          cases x <;> exact he
        · cases he
      · cases he
    · cases he

theorem val_own (x : X) : St.val ⟨env, own'⟩ x = St.val ⟨env, own⟩ x := by cases x <;> rfl
theorem bound_own (n : Nat) (x : Option X) : Go.V.bound ⟨env, own'⟩ n x = Go.V.bound ⟨env, own⟩ n x := by
  cases x with
  | none => rfl
  | some x => simp only [Go.V.bound]; rw [val_own (own' := own') (own := own)]

theorem OwnLe.pev (h : OwnLe b own' own) {i : I} (hb : b = true → i.readsBox = false) {r : Prop × AV} (he : pev ⟨env, own'⟩ i = some r) : pev ⟨env, own⟩ i = some r := by
  cases i
  case fa off x =>
    simp only [Go.V.pev, val_own (own' := own') (own := own)] at he ⊢
    generalize hx : (St.val ⟨env, own⟩ x).dv = y at he ⊢
    cases y
    case bp n o =>
      simp only at he ⊢
      split at he
      · rename_i hbx; rw [if_pos (h.box hbx)]; exact he
      · cases he
    case c c => cases c <;> exact he
    all_goals exact he
  case nilc x =>
    simp only [Go.V.pev, val_own (own' := own') (own := own)] at he ⊢
    generalize hx : (St.val ⟨env, own⟩ x).dv = y at he ⊢
    cases y
    case bp n o =>
      simp only at he ⊢
      split at he
      · rename_i hbx; rw [if_pos (h.box hbx)]; exact he
      · cases he
    case c c => cases c <;> exact he
    all_goals exact he
  case ia sz x y =>
    simp only [Go.V.pev, val_own (own' := own') (own := own)] at he ⊢
    cases hx : (St.val ⟨env, own⟩ x).dv.elemsZ own' with
    | none => rw [hx] at he; cases he
    | some es => rw [hx] at he; rw [h.elemsZ hx]; exact he
  case len x =>
    simp only [Go.V.pev, val_own (own' := own') (own := own)] at he ⊢
    cases hx : (St.val ⟨env, own⟩ x).dv.elems own' with
    | none => rw [hx] at he; cases he
    | some es => rw [hx] at he; rw [h.elems hx]; exact he
  case slc sz x lo hi =>
    simp only [Go.V.pev, val_own (own' := own') (own := own), bound_own (own' := own') (own := own)] at he ⊢
    cases hx : (St.val ⟨env, own⟩ x).dv.elemsZ own' with
    | none => rw [hx] at he; cases he
    | some es => rw [hx] at he; rw [h.elemsZ hx]; exact he
  case ld one sz x =>
    simp only [Go.V.pev, val_own (own' := own') (own := own)] at he ⊢
    generalize hx : (St.val ⟨env, own⟩ x).dv = y at he ⊢
    cases y
    case bp n o =>
      simp only at he ⊢
      rcases h n with h | h | ⟨h, _⟩
      · rwa [h] at he
      · rw [h] at he; cases he
      · have := hb h; cases this
    case c c => cases c <;> exact he
    all_goals exact he
  case bld z ps =>
    simp only [Go.V.pev, Option.map_eq_some_iff] at he ⊢
    obtain ⟨p, hp, rfl⟩ := he
    exact ⟨p, h.bldGo ps z hp, rfl⟩
  all_goals first
    | (simp only [Go.V.pev, val_own (own' := own') (own := own)] at he ⊢; exact he)
    | exact he
end

/-! ### The outcome of an instruction -/
def Outc (P : Program) (i : Ins) (σ : St) (ε : Eff) : Prop :=
  match i.g with
  | none =>
    match i.i with
    | .call f xs => ∃ fid caps args r, (σ.val f).dg = true ∧ (xs.all fun x => (σ.val x).dg) = true ∧ (σ.val f).dv = .fn fid caps ∧ AV.portL σ.own (xs.map (fun x => (σ.val x).dv) ++ caps) = some args ∧
        r.pureB = true ∧ FSpec P fid args r ∧ ε = .put r
    | ins => (∃ q v, pev σ ins = some (q, v) ∧ q ∧ ε = .put v) ∨ (pev σ ins = none ∧ ∃ q, meff σ i.d ins = some (q, ε) ∧ q)
  | some g => ∃ G, σ.guard g = some G ∧
    match i.i with
    | .call f xs => ∃ r, r.pureB = true ∧ (G = true → ∃ fid caps args, (σ.val f).dg = true ∧ (xs.all fun x => (σ.val x).dg) = true ∧ (σ.val f).dv = .fn fid caps ∧ AV.portL σ.own (xs.map (fun x => (σ.val x).dv) ++ caps) = some args ∧
          FSpec P fid args r) ∧ ε = .put (.opt G r)
    | ins => (∃ q v, pev σ ins = some (q, v) ∧ (G = true → q) ∧ ε = .put (.opt G v)) ∨ (pev σ ins = none ∧ ((∃ q, meff σ i.d ins = some (q, ε) ∧ G = true ∧ q) ∨ (ins.putsB = false ∧ G = false ∧ ε = .put (.opt false .non))))

theorem astep_iff {P : Program} {i : Ins} {K : St → Prop} {σ : St} : AStepP P i K σ ↔ ∃ ε, Outc P i σ ε ∧ K (ε.app i.d σ) := by
  obtain ⟨d, ins, g, s⟩ := i
  have call_or : (∃ f xs, ins = .call f xs) ∨ (∀ f xs, ins ≠ .call f xs) := by
    cases ins <;> first | exact .inl ⟨_, _, rfl⟩ | (right; intro f xs h; cases h)
  have mv : ∀ {q : Prop} {ε : Eff}, meff σ d ins = some (q, ε) → mev σ d ins = some (q, ε.app d σ) := fun h => by rw [mev_eq, h]; rfl
  have mv' : ∀ {q : Prop} {σ' : St}, mev σ d ins = some (q, σ') → ∃ ε, meff σ d ins = some (q, ε) ∧ σ' = ε.app d σ := fun {q σ'} h => by
    rw [mev_eq, Option.map_eq_some_iff] at h
    obtain ⟨⟨q', ε⟩, h1, h2⟩ := h
    simp only [Prod.mk.injEq] at h2
    obtain ⟨rfl, rfl⟩ := h2
    exact ⟨ε, h1, rfl⟩
  cases g with
  | none =>
    rcases call_or with ⟨f, xs, rfl⟩ | hn
    · simp only [AStepP, ACall, Outc]
      constructor
      · rintro ⟨fid, caps, args, r, h1, h2, h3, h4, h5, h6, h7⟩
        exact ⟨_, ⟨fid, caps, args, r, h1, h2, h3, h4, h5, h6, rfl⟩, h7⟩
      · rintro ⟨ε, ⟨fid, caps, args, r, h1, h2, h3, h4, h5, h6, rfl⟩, h7⟩
        exact ⟨fid, caps, args, r, h1, h2, h3, h4, h5, h6, h7⟩
    · have e1 : AStepP P ⟨d, ins, none, s⟩ K σ = (match pev σ ins with | some (q, v) => q ∧ K (σ.put d v) | none => match mev σ d ins with | some (q, σ') => q ∧ K σ' | none => False) := by
        cases ins <;> first | rfl | exact (hn _ _ rfl).elim
      have e2 : ∀ ε, Outc P ⟨d, ins, none, s⟩ σ ε = ((∃ q v, pev σ ins = some (q, v) ∧ q ∧ ε = .put v) ∨ (pev σ ins = none ∧ ∃ q, meff σ d ins = some (q, ε) ∧ q)) := by
        intro ε; cases ins <;> first | rfl | exact (hn _ _ rfl).elim
      simp only [e1, e2]
      cases hp : pev σ ins with
      | some qv =>
        obtain ⟨q, v⟩ := qv
        constructor
        · rintro ⟨h1, h2⟩; exact ⟨.put v, .inl ⟨q, v, rfl, h1, rfl⟩, h2⟩
        · rintro ⟨ε, ⟨q', v', h, h1, rfl⟩ | ⟨h, _⟩, h2⟩
          · cases h; exact ⟨h1, h2⟩
          · cases h
      | none =>
        constructor
        · intro h
          dsimp only at h
          split at h
          · rename_i q σ' hm
            obtain ⟨ε, hε, rfl⟩ := mv' hm
            exact ⟨ε, .inr ⟨rfl, q, hε, h.1⟩, h.2⟩
          · exact h.elim
        · rintro ⟨ε, ⟨q', v', h, _⟩ | ⟨_, q, h, h1⟩, h2⟩
          · cases h
          · rw [mv h]; exact ⟨h1, h2⟩
  | some g =>
    rcases call_or with ⟨f, xs, rfl⟩ | hn
    · simp only [AStepP, ACallG, Outc]
      cases hg : σ.guard g with
      | none => simp
      | some G =>
        constructor
        · rintro ⟨r, h1, h2, h3⟩; exact ⟨_, ⟨G, rfl, r, h1, h2, rfl⟩, h3⟩
        · rintro ⟨ε, ⟨G', hG, r, h1, h2, rfl⟩, h3⟩
          cases hG
          exact ⟨r, h1, h2, h3⟩
    · have e1 : AStepP P ⟨d, ins, some g, s⟩ K σ = (match σ.guard g with | none => False | some G => match pev σ ins with | some (q, v) => (G = true → q) ∧ K (σ.put d (.opt G v)) | none => (match mev σ d ins with | some (q, σ') => G = true ∧ q ∧ K σ' | none => False) ∨ (ins.putsB = false ∧ G = false ∧ K (σ.put d (.opt false .non)))) := by
        cases ins <;> first | rfl | exact (hn _ _ rfl).elim
      have e2 : ∀ ε, Outc P ⟨d, ins, some g, s⟩ σ ε = (∃ G, σ.guard g = some G ∧ ((∃ q v, pev σ ins = some (q, v) ∧ (G = true → q) ∧ ε = .put (.opt G v)) ∨ (pev σ ins = none ∧ ((∃ q, meff σ d ins = some (q, ε) ∧ G = true ∧ q) ∨ (ins.putsB = false ∧ G = false ∧ ε = .put (.opt false .non)))))) := by
        intro ε; cases ins <;> first | rfl | exact (hn _ _ rfl).elim
      simp only [e1, e2]
      cases hg : σ.guard g with
      | none => simp
      | some G =>
        simp only []
        cases hp : pev σ ins with
        | some qv =>
          obtain ⟨q, v⟩ := qv
          constructor
          · rintro ⟨h1, h2⟩; exact ⟨.put (.opt G v), ⟨G, rfl, .inl ⟨q, v, rfl, h1, rfl⟩⟩, h2⟩
          · rintro ⟨ε, ⟨G', hG, ⟨q', v', h, h1, rfl⟩ | ⟨h, _⟩⟩, h2⟩
            · cases hG; cases h; exact ⟨h1, h2⟩
            · cases h
        | none =>
          constructor
          · intro h
            dsimp only at h
            rcases h with h | ⟨h1, h2, h3⟩
            · split at h
              · rename_i q σ' hm
                obtain ⟨ε, hε, rfl⟩ := mv' hm
                exact ⟨ε, ⟨G, rfl, .inr ⟨rfl, .inl ⟨q, hε, h.1, h.2.1⟩⟩⟩, h.2.2⟩
              · exact h.elim
            · exact ⟨_, ⟨G, rfl, .inr ⟨rfl, .inr ⟨h1, h2, rfl⟩⟩⟩, h3⟩
          · rintro ⟨ε, ⟨G', hG, ⟨q', v', h, _⟩ | ⟨_, ⟨q, h, h0, h1⟩ | ⟨h0, h1, rfl⟩⟩⟩, h2⟩
            · cases h
            · cases hG; rw [mv h]; exact .inl ⟨h0, h1, h2⟩
            · cases hG; exact .inr ⟨h0, h1, h2⟩

theorem astep_mono {P : Program} {i : Ins} {K K' : St → Prop} {σ : St} (h : ∀ σ, K σ → K' σ) (hs : AStepP P i K σ) : AStepP P i K' σ := by
  rw [astep_iff] at hs ⊢
  obtain ⟨ε, h1, h2⟩ := hs
  exact ⟨ε, h1, h _ h2⟩
end Go.V

/-
  Regions: in the text's order, and in whatever order.
-/
namespace Go.V
section
variable {P : Program} {σ σ' : St} {d : Nat}

theorem guard_congr {g : Nat × Bool} (h : σ'.env g.1 = σ.env g.1) : σ'.guard g = σ.guard g := by unfold St.guard; rw [h]

theorem outc_congr {i : Ins} {ε : Eff} (h : ∀ x ∈ i.i.xs, σ'.val x = σ.val x) (ho : σ'.own = σ.own) (hg : ∀ g, i.g = some g → σ'.env g.1 = σ.env g.1) : Outc P i σ' ε ↔ Outc P i σ ε := by
  obtain ⟨d, ins, g, s⟩ := i
  have hp := pev_congr h ho
  have hm := meff_congr (d := d) h ho
  have hcall : ∀ f xs, ins = .call f xs → σ'.val f = σ.val f ∧ (∀ x ∈ xs, σ'.val x = σ.val x) := by
    rintro f xs rfl
    exact ⟨h f (by simp [I.xs]), fun x hx => h x (by simp [I.xs, hx])⟩
  cases g with
  | none =>
    cases ins <;> first
      | (rename_i f xs; obtain ⟨h1, h2⟩ := hcall f xs rfl; simp only [Outc, h1, all_dg_congr h2, map_dv_congr h2, ho]; done)
      | (simp only [Outc, hp, hm])
  | some g =>
    have hgg := guard_congr (hg g rfl)
    cases ins <;> first
      | (rename_i f xs; obtain ⟨h1, h2⟩ := hcall f xs rfl; simp only [Outc, hgg, h1, all_dg_congr h2, map_dv_congr h2, ho]; done)
      | (simp only [Outc, hgg, hp, hm])

theorem meff_puts {i : I} (h : i.putsB = true) (d : Option Nat) : meff σ d i = none := by
  cases i <;> cases d <;> first | rfl | simp [I.putsB] at h

theorem outc_puts {i : Ins} {ε : Eff} (h : i.i.putsB = true) (ho : Outc P i σ ε) : ∃ v, ε = .put v := by
  obtain ⟨d, ins, g, s⟩ := i
  have hm := meff_puts (σ := σ) h d
  cases g with
  | none =>
    cases ins <;> first
      | (obtain ⟨_, _, _, r, _, _, _, _, _, _, rfl⟩ := ho; exact ⟨r, rfl⟩)
      | (simp only [Outc] at ho
         rcases ho with ⟨q, v, _, _, rfl⟩ | ⟨_, q, h2, _⟩
         · exact ⟨v, rfl⟩
         · simp only at hm; rw [hm] at h2; cases h2)
  | some g =>
    cases ins <;> first
      | (obtain ⟨G, _, r, _, _, rfl⟩ := ho; exact ⟨_, rfl⟩)
      | (simp only [Outc] at ho
         obtain ⟨G, _, ho⟩ := ho
         rcases ho with ⟨q, v, _, _, rfl⟩ | ⟨_, ⟨q, h2, _⟩ | ⟨_, _, rfl⟩⟩
         · exact ⟨_, rfl⟩
         · simp only at hm; rw [hm] at h2; cases h2
         · exact ⟨_, rfl⟩)

/-- What is changed: a new object, or a box. -/
theorem meff_kind {e : Option Nat} {i : I} {q : Prop} {ε : Eff} (hm : meff σ e i = some (q, ε)) (hq : q) :
    (∃ d r o rm, e = some d ∧ ε = .new r o rm ∧ rmO σ.own rm d = .none ∧ (rm = none ∨ ∃ n e' sz es, rm = some n ∧ σ.own n = .grow e' sz es ∧ i.consumes = true)) ∨
    (∃ n cs cs', ε = .set n (.box cs') ∧ σ.own n = .box cs ∧ i.writesBox = true) := by
  have hnone : ∀ {o : Ob}, o.isNone = true → o = .none := fun {o} h => by cases o <;> simp_all [Ob.isNone]
  cases i <;> cases e <;> (try (simp [meff] at hm; done))
  case alloc.some cs d =>
    simp only [meff, Option.some.injEq, Prod.mk.injEq] at hm
    obtain ⟨rfl, rfl⟩ := hm
    exact .inl ⟨d, _, _, none, rfl, rfl, hnone hq, .inl rfl⟩
  case box.some sz x d =>
    simp only [meff] at hm
    split at hm
    · simp only [Option.some.injEq, Prod.mk.injEq] at hm
      obtain ⟨rfl, rfl⟩ := hm
      exact .inl ⟨d, _, _, none, rfl, rfl, hnone hq.1, .inl rfl⟩
    · cases hm
  case bsl.some e sz xs d =>
    simp only [meff] at hm
    split at hm
    · simp only [Option.some.injEq, Prod.mk.injEq] at hm
      obtain ⟨rfl, rfl⟩ := hm
      exact .inl ⟨d, _, _, none, rfl, rfl, hnone hq.1, .inl rfl⟩
    · cases hm
  case st.none sz x y =>
    simp only [meff] at hm
    split at hm
    · rename_i n o vs _ _
      split at hm
      · rename_i cs hown
        simp only [Option.some.injEq, Prod.mk.injEq] at hm
        obtain ⟨rfl, rfl⟩ := hm
        exact .inr ⟨n, cs, _, rfl, hown, rfl⟩
      · cases hm
    · cases hm
  case app.some e sz bytes s x d =>
    simp only [meff] at hm
    split at hm
    · rename_i n ys _ _
      split at hm
      · rename_i e' sz' es hown
        split at hm
        · simp only [Option.some.injEq, Prod.mk.injEq] at hm
          obtain ⟨rfl, rfl⟩ := hm
          exact .inl ⟨d, _, _, some n, rfl, rfl, hnone hq.2.2.1, .inr ⟨n, e', sz', es, rfl, hown, rfl⟩⟩
        · cases hm
      · cases hm
    · simp only [Option.some.injEq, Prod.mk.injEq] at hm
      obtain ⟨rfl, rfl⟩ := hm
      exact .inl ⟨d, _, _, none, rfl, rfl, hnone hq.2.2.1, .inl rfl⟩
    · cases hm

theorem outc_kind {i : Ins} {ε : Eff} (ho : Outc P i σ ε) :
    (∃ v, ε = .put v) ∨ (∃ d r o rm, i.d = some d ∧ ε = .new r o rm ∧ rmO σ.own rm d = .none ∧ (rm = none ∨ ∃ n e' sz es, rm = some n ∧ σ.own n = .grow e' sz es ∧ i.i.consumes = true)) ∨
    (∃ n cs cs', ε = .set n (.box cs') ∧ σ.own n = .box cs ∧ i.i.writesBox = true) := by
  obtain ⟨d, ins, g, s⟩ := i
  cases g with
  | none =>
    cases ins <;> first
      | (obtain ⟨_, _, _, r, _, _, _, _, _, _, rfl⟩ := ho; exact .inl ⟨r, rfl⟩)
      | (simp only [Outc] at ho
         rcases ho with ⟨q, v, _, _, rfl⟩ | ⟨_, q, h2, hq⟩
         · exact .inl ⟨v, rfl⟩
         · exact .inr (meff_kind h2 hq))
  | some g =>
    cases ins <;> first
      | (obtain ⟨G, _, r, _, _, rfl⟩ := ho; exact .inl ⟨_, rfl⟩)
      | (simp only [Outc] at ho
         obtain ⟨G, _, ho⟩ := ho
         rcases ho with ⟨q, v, _, _, rfl⟩ | ⟨_, ⟨q, h2, _, hq⟩ | ⟨_, _, rfl⟩⟩
         · exact .inl ⟨_, rfl⟩
         · exact .inr (meff_kind h2 hq)
         · exact .inl ⟨_, rfl⟩)

theorem prg_fn {x : AV} {f : FuncId} {caps : List AV} (h : x.prg d = .fn f caps) : ∃ c, x = .fn f c ∧ caps = AV.prgL d c := by
  cases x <;> simp only [AV.prg, reduceCtorEq, AV.fn.injEq] at h
  · split at h <;> cases h
  · split at h <;> cases h
  · split at h <;> cases h
  · obtain ⟨rfl, rfl⟩ := h; exact ⟨_, rfl, rfl⟩

/-- An outcome behind a new object comes of one ahead of it. -/
theorem outc_newer_back {i : Ins} {ε' : Eff} (hpu : i.i.putsB = true) (hc : i.i.constB = true) (h : Newer σ σ' d i.i.xs) (hg : ∀ g, i.g = some g → σ'.env g.1 = (σ.env g.1).prg d) (ho : Outc P i σ' ε') :
    ∃ v, Outc P i σ (.put v) ∧ ε' = .put (v.prg d) := by
  obtain ⟨e, ins, g⟩ := i
  have hp := pev_newer h hc
  have hm := meff_puts (σ := σ') hpu e
  have callee : ∀ {f xs fid caps args}, ins = .call f xs → (σ'.val f).dg = true → (xs.all fun x => (σ'.val x).dg) = true → (σ'.val f).dv = .fn fid caps → AV.portL σ'.own (xs.map (fun x => (σ'.val x).dv) ++ caps) = some args →
      ∃ caps', (σ.val f).dg = true ∧ (xs.all fun x => (σ.val x).dg) = true ∧ (σ.val f).dv = .fn fid caps' ∧ AV.portL σ.own (xs.map (fun x => (σ.val x).dv) ++ caps') = some args := by
    rintro f xs fid caps args rfl h1 h2 h3 h4
    have hf : f ∈ (I.call f xs).xs := by simp [I.xs]
    have hxs : ∀ x ∈ xs, x ∈ (I.call f xs).xs := fun x hx => by simp [I.xs, hx]
    rw [h.dg hf] at h1
    rw [h.all_dg xs hxs] at h2
    rw [h.dv hf] at h3
    obtain ⟨c, hc, rfl⟩ := prg_fn h3
    rw [h.map_dv xs hxs, ← prgL_append, h.portL] at h4
    exact ⟨c, h1, h2, hc, h4⟩
  cases g with
  | none =>
    cases ins <;> first
      | (obtain ⟨fid, caps, args, r, k1, k2, k3, k4, k5, k6, rfl⟩ := ho
         obtain ⟨c, j1, j2, j3, j4⟩ := callee rfl k1 k2 k3 k4
         exact ⟨r, ⟨fid, c, args, r, j1, j2, j3, j4, k5, k6, rfl⟩, by rw [prg_pure d k5]⟩)
      | (simp only [Outc] at ho ⊢
         rcases ho with ⟨q, v, k1, k2, rfl⟩ | ⟨_, q, k2, _⟩
         · simp only [hp, Option.map_eq_some_iff] at k1
           obtain ⟨⟨q', v'⟩, k1, k3⟩ := k1
           simp only [Prod.mk.injEq] at k3
           obtain ⟨rfl, rfl⟩ := k3
           exact ⟨v', .inl ⟨_, v', k1, k2, rfl⟩, rfl⟩
         · simp only at hm; rw [hm] at k2; cases k2)
  | some g =>
    have hgg := guard_newer (hg g rfl)
    cases ins <;> first
      | (obtain ⟨G, hG, r, k5, k6, rfl⟩ := ho
         refine ⟨.opt G r, ⟨G, by rw [← hgg]; exact hG, r, k5, fun hGt => ?_, rfl⟩, by rw [show (AV.opt G r).prg d = .opt G (r.prg d) from rfl, prg_pure d k5]⟩
         obtain ⟨fid, caps, args, k1, k2, k3, k4, k7⟩ := k6 hGt
         obtain ⟨c, j1, j2, j3, j4⟩ := callee rfl k1 k2 k3 k4
         exact ⟨fid, c, args, j1, j2, j3, j4, k7⟩)
      | (simp only [Outc] at ho ⊢
         obtain ⟨G, hG, ho⟩ := ho
         rcases ho with ⟨q, v, k1, k2, rfl⟩ | ⟨_, ⟨q, k2, _⟩ | ⟨k2, _, _⟩⟩
         · simp only [hp, Option.map_eq_some_iff] at k1
           obtain ⟨⟨q', v'⟩, k1, k3⟩ := k1
           simp only [Prod.mk.injEq] at k3
           obtain ⟨rfl, rfl⟩ := k3
           exact ⟨.opt G v', ⟨G, by rw [← hgg]; exact hG, .inl ⟨_, v', k1, k2, rfl⟩⟩, rfl⟩
         · simp only at hm; rw [hm] at k2; cases k2
         · simp only at hpu; rw [hpu] at k2; cases k2)

/-- An outcome with fewer objects, or other boxes, is one with all. -/
theorem outc_less {i : Ins} {ε : Eff} {env : Nat → AV} {own own' : Nat → Ob} {b : Bool} (hpu : i.i.putsB = true) (h : OwnLe b own' own) (hb : b = true → i.i.readsBox = false) (ho : Outc P i ⟨env, own'⟩ ε) : Outc P i ⟨env, own⟩ ε := by
  obtain ⟨e, ins, g⟩ := i
  have hm := meff_puts (σ := ⟨env, own'⟩) hpu e
  have hv : ∀ x, St.val ⟨env, own'⟩ x = St.val ⟨env, own⟩ x := val_own
  cases g with
  | none =>
    cases ins <;> first
      | (obtain ⟨fid, caps, args, r, k1, k2, k3, k4, k5, k6, rfl⟩ := ho
         simp only [hv] at k1 k2 k3 k4
         exact ⟨fid, caps, args, r, k1, k2, k3, h.portL k4, k5, k6, rfl⟩)
      | (simp only [Outc] at ho ⊢
         rcases ho with ⟨q, v, k1, k2, rfl⟩ | ⟨_, q, k2, _⟩
         · exact .inl ⟨q, v, h.pev hb k1, k2, rfl⟩
         · simp only at hm; rw [hm] at k2; cases k2)
  | some g =>
    cases ins <;> first
      | (obtain ⟨G, hG, r, k5, k6, rfl⟩ := ho
         refine ⟨G, hG, r, k5, fun hGt => ?_, rfl⟩
         obtain ⟨fid, caps, args, k1, k2, k3, k4, k7⟩ := k6 hGt
         simp only [hv] at k1 k2 k3 k4
         exact ⟨fid, caps, args, k1, k2, k3, h.portL k4, k7⟩)
      | (simp only [Outc] at ho ⊢
         obtain ⟨G, hG, ho⟩ := ho
         refine ⟨G, hG, ?_⟩
         rcases ho with ⟨q, v, k1, k2, rfl⟩ | ⟨_, ⟨q, k2, _⟩ | ⟨k2, _, _⟩⟩
         · exact .inl ⟨q, v, h.pev hb k1, k2, rfl⟩
         · simp only at hm; rw [hm] at k2; cases k2
         · simp only at hpu; rw [hpu] at k2; cases k2)

/-- What reads no growable sees no difference where one is gone. -/
theorem pev_gone {env : Nat → AV} {own : Nat → Ob} {n e sz : Nat} {es : List (List CD)} (hn : own n = .grow e sz es) {i : I} (hr : i.readsGrow = false) {r : Prop × AV} (h : pev ⟨env, own⟩ i = some r) : pev ⟨env, upd own n .none⟩ i = some r := by
  have hv : ∀ x, St.val ⟨env, upd own n .none⟩ x = St.val ⟨env, own⟩ x := val_own
  have hbox : ∀ m, (own m).isBox = true → upd own n .none m = own m := fun m hm => by
    by_cases hmn : m = n
    · subst hmn; rw [hn] at hm; cases hm
    · simp [upd, hmn]
  cases i <;> (try (simp [I.readsGrow] at hr; done))
  case fa off x =>
    simp only [pev, hv] at h ⊢
    generalize hx : (St.val ⟨env, own⟩ x).dv = y at h ⊢
    cases y
    case bp m o =>
      simp only at h ⊢
      split at h
      · rename_i hb; rw [hbox m hb, if_pos hb]; exact h
      · cases h
    case c c => cases c <;> exact h
    all_goals exact h
  case nilc x =>
    simp only [pev, hv] at h ⊢
    generalize hx : (St.val ⟨env, own⟩ x).dv = y at h ⊢
    cases y
    case bp m o =>
      simp only at h ⊢
      split at h
      · rename_i hb; rw [hbox m hb, if_pos hb]; exact h
      · cases h
    case c c => cases c <;> exact h
    all_goals exact h
  case ld one sz x =>
    simp only [pev, hv] at h ⊢
    generalize hx : (St.val ⟨env, own⟩ x).dv = y at h ⊢
    cases y
    case bp m o =>
      simp only at h ⊢
      cases hm : own m with
      | none => rw [hm] at h; cases h
      | grow _ _ _ => rw [hm] at h; cases h
      | win _ => rw [hm] at h; cases h
      | guest _ _ => rw [hm] at h; cases h
      | mp _ _ _ => rw [hm] at h; cases h
      | box cs => rw [hbox m (by rw [hm]; rfl), hm]; rw [hm] at h; exact h
    case c c => cases c <;> exact h
    all_goals exact h
  all_goals first
    | (simp only [pev, hv] at h ⊢; exact h)
    | exact h

theorem outc_newer {i : Ins} {v : AV} (hpu : i.i.putsB = true) (hnc : i.i.callB = false) (hc : i.i.constB = true) (h : Newer σ σ' d i.i.xs) (hg : ∀ g, i.g = some g → σ'.env g.1 = (σ.env g.1).prg d) (ho : Outc P i σ (.put v)) : Outc P i σ' (.put (v.prg d)) := by
  obtain ⟨e, ins, g⟩ := i
  have hp := pev_newer h hc
  have hm := meff_puts (σ := σ) hpu e
  cases g with
  | none =>
    cases ins <;> first
      | (simp [I.callB] at hnc; done)
      | (simp only [Outc] at ho ⊢
         rcases ho with ⟨q, v', k1, k2, k3⟩ | ⟨_, q, k2, _⟩
         · simp only [Eff.put.injEq] at k3
           subst k3
           simp only at hp
           exact .inl ⟨q, _, by rw [hp, k1]; rfl, k2, rfl⟩
         · simp only at hm; rw [hm] at k2; cases k2)
  | some g =>
    have hgg := guard_newer (hg g rfl)
    cases ins <;> first
      | (simp [I.callB] at hnc; done)
      | (simp only [Outc] at ho ⊢
         obtain ⟨G, hG, ho⟩ := ho
         refine ⟨G, by rw [hgg]; exact hG, ?_⟩
         rcases ho with ⟨q, v', k1, k2, k3⟩ | ⟨_, ⟨q, k2, _⟩ | ⟨k2, _, _⟩⟩
         · simp only [Eff.put.injEq] at k3
           subst k3
           simp only at hp
           exact .inl ⟨q, _, by rw [hp, k1]; rfl, k2, rfl⟩
         · simp only at hm; rw [hm] at k2; cases k2
         · simp only at hpu; rw [hpu] at k2; cases k2)

theorem outc_gone {i : Ins} {ε : Eff} {env : Nat → AV} {own : Nat → Ob} {n e sz : Nat} {es : List (List CD)} (hpu : i.i.putsB = true) (hnc : i.i.callB = false) (hn : own n = .grow e sz es) (hr : i.i.readsGrow = false) (ho : Outc P i ⟨env, own⟩ ε) :
    Outc P i ⟨env, upd own n .none⟩ ε := by
  obtain ⟨e', ins, g⟩ := i
  have hm := meff_puts (σ := ⟨env, own⟩) hpu e'
  cases g with
  | none =>
    cases ins <;> first
      | (simp [I.callB] at hnc; done)
      | (simp only [Outc] at ho ⊢
         rcases ho with ⟨q, v', k1, k2, k3⟩ | ⟨_, q, k2, _⟩
         · exact .inl ⟨q, v', pev_gone hn hr k1, k2, k3⟩
         · simp only at hm; rw [hm] at k2; cases k2)
  | some g =>
    cases ins <;> first
      | (simp [I.callB] at hnc; done)
      | (simp only [Outc] at ho ⊢
         obtain ⟨G, hG, ho⟩ := ho
         refine ⟨G, hG, ?_⟩
         rcases ho with ⟨q, v', k1, k2, k3⟩ | ⟨_, ⟨q, k2, _⟩ | ⟨k2, _, _⟩⟩
         · exact .inl ⟨q, v', pev_gone hn hr k1, k2, k3⟩
         · simp only at hm; rw [hm] at k2; cases k2
         · simp only at hpu; rw [hpu] at k2; cases k2)

theorem upd_comm {α : Type} (f : Nat → α) {s t : Nat} (h : s ≠ t) (u v : α) : upd (upd f s u) t v = upd (upd f t v) s u := by
  funext n
  simp only [upd]
  by_cases h1 : n = t <;> by_cases h2 : n = s <;> simp_all

theorem St.ext {σ σ' : St} (h1 : σ.env = σ'.env) (h2 : σ.own = σ'.own) : σ = σ' := by cases σ; cases σ'; simp_all

theorem put_put (σ : St) {d e : Option Nat} (h : ∀ x, d = some x → e ≠ some x) (u v : AV) : (σ.put d u).put e v = (σ.put e v).put d u := by
  cases d <;> cases e <;> try rfl
  rename_i d e
  simp only [St.put]
  rw [upd_comm _ (fun x => h d rfl (by rw [x]))]

theorem prgE_upd (d : Nat) (f : Nat → AV) (t : Nat) (v : AV) : prgE d (upd f t v) = upd (prgE d f) t (v.prg d) := by
  funext n; simp only [prgE, upd]; split <;> rfl

theorem new_put (env : Nat → AV) (own : Nat → Ob) {d : Nat} {e : Option Nat} (h : e ≠ some d) (r : AV) (o : Ob) (v : AV) :
    St.new (St.put ⟨env, own⟩ e v) d r o = (St.new ⟨env, own⟩ d r o).put e (v.prg d) := by
  cases e with
  | none => rfl
  | some e =>
    have hne : e ≠ d := fun x => h (by rw [x])
    refine St.ext ?_ rfl
    simp only [St.new, St.put, prgE_upd]
    exact upd_comm _ hne _ _

theorem val_put_ne {e : Option Nat} {v : AV} {x : X} (h : ∀ d, e = some d → x ≠ .t d) : (σ.put e v).val x = σ.val x := by
  cases e with
  | none => rfl
  | some d =>
    cases x with
    | k v => rfl
    | t n =>
      have : n ≠ d := fun e => h d rfl (by rw [e])
      simp [St.put, St.val, upd, this]

theorem looks_spec {i : Ins} {d : Nat} (h : d ∉ i.looks) : (∀ x ∈ i.i.xs, x ≠ .t d) ∧ (∀ g, i.g = some g → g.1 ≠ d) := by
  simp only [Ins.looks, List.mem_append, not_or] at h
  refine ⟨fun x hx hxd => h.1 ?_, fun g hg hgd => h.2 ?_⟩
  · exact List.mem_filterMap.2 ⟨x, hx, by rw [hxd]; rfl⟩
  · rw [hg]; obtain ⟨a, b⟩ := g; simp at hgd; simp [hgd]

theorem outc_put {i : Ins} {ε : Eff} {e : Option Nat} {v : AV} (h : ∀ d, e = some d → d ∉ i.looks) : Outc P i (σ.put e v) ε ↔ Outc P i σ ε := by
  refine outc_congr (fun x hx => val_put_ne fun d hd hxd => (looks_spec (h d hd)).1 x hx hxd) (by cases e <;> rfl) (fun g hg => ?_)
  cases e with
  | none => rfl
  | some d =>
    have := (looks_spec (h d rfl)).2 g hg
    simp [St.put, upd, this]

theorem newer_new {env : Nat → AV} {own : Nat → Ob} {d : Nat} {r : AV} {o : Ob} {i : Ins} (hd : own d = .none) (hl : d ∉ i.looks) (hok : i.i.xs.all X.okB = true) :
    Newer ⟨env, own⟩ (St.new ⟨env, own⟩ d r o) d i.i.xs ∧ ∀ g, i.g = some g → (St.new ⟨env, own⟩ d r o).env g.1 = (env g.1).prg d := by
  obtain ⟨h1, h2⟩ := looks_spec hl
  refine ⟨⟨fun x hx => ?_, fun n hn => by simp [St.new, upd, hn, prgO], hd⟩, fun g hg => by simp [St.new, upd, h2 g hg, prgE]⟩
  cases x with
  | t n =>
    have : n ≠ d := fun e => h1 _ hx (by rw [e])
    simp [St.val, St.new, upd, this, prgE]
  | k v =>
    have := List.all_eq_true.1 hok _ hx
    simp only [X.okB] at this
    simp only [St.val]
    rw [prg_pure d this]

theorem rmO_le (own : Nat → Ob) (rm : Option Nat) : OwnLe false (rmO own rm) own := by
  intro n
  cases rm with
  | none => exact .inl rfl
  | some m =>
    by_cases h : n = m
    · subst h; right; left; simp [rmO, upd]
    · left; simp [rmO, upd, h]

theorem comm_alone {i j : Ins} (hc : comm i j = true) : i.s = false ∧ j.s = false := by
  simp only [comm, Bool.and_eq_true, Bool.not_eq_true'] at hc
  exact ⟨hc.1.1.1.1.1.1.1.1.1.1, hc.1.1.1.1.1.1.1.1.1.2⟩

/-- **Two instructions may change places.** -/
theorem comm_sound {i j : Ins} (hc : comm i j = true) {K : St → Prop} (h : AStepP P i (fun σ1 => AStepP P j K σ1) σ) : AStepP P j (fun σ1 => AStepP P i K σ1) σ := by
  simp only [comm, Bool.and_eq_true] at hc
  obtain ⟨⟨⟨⟨⟨⟨⟨_, c1⟩, c2⟩, c3⟩, c4⟩, c5⟩, c6⟩, c7⟩ := hc
  have hid : ∀ d, i.d = some d → d ∉ j.looks ∧ j.d ≠ some d := by
    intro d hd
    rw [hd] at c1
    simpa using c1
  have hjd : ∀ d, j.d = some d → d ∉ i.looks := by
    intro d hd
    rw [hd] at c2
    simpa using c2
  rw [astep_iff] at h
  obtain ⟨εi, hi, h⟩ := h
  rw [astep_iff] at h
  obtain ⟨εj, hj, hK⟩ := h
  rw [astep_iff]
  -- it is enough
  suffices hs : ∃ εj' εi', Outc P j σ εj' ∧ Outc P i (εj'.app j.d σ) εi' ∧ εi'.app i.d (εj'.app j.d σ) = εj.app j.d (εi.app i.d σ) by
    obtain ⟨εj', εi', h1, h2, h3⟩ := hs
    refine ⟨εj', h1, ?_⟩
    rw [astep_iff]
    exact ⟨εi', h2, by rw [h3]; exact hK⟩
  simp only [Bool.or_eq_true, Bool.and_eq_true, Bool.not_eq_true', Bool.and_eq_false_iff] at c7
  rcases c7 with ⟨hpu, hbx⟩ | ⟨⟨⟨hpu, hnc⟩, hcr⟩, hrc⟩
  · -- j puts
    obtain ⟨vj, rfl⟩ := outc_puts hpu hj
    rcases outc_kind hi with ⟨v, rfl⟩ | ⟨d, r, o, rm, hd, rfl, hnone, _⟩ | ⟨n, cs, cs', rfl, hown, hwb⟩
    · refine ⟨.put vj, .put v, (outc_put (fun d hd => (hid d hd).1)).1 hj, (outc_put hjd).2 hi, ?_⟩
      exact put_put σ (fun x hx hx' => (hid x hx').2 hx) vj v
    · have e1 : (Eff.new r o rm).app i.d σ = St.new ⟨σ.env, rmO σ.own rm⟩ d r o := by rw [hd]; rfl
      rw [e1] at hj
      obtain ⟨hn, hg⟩ := newer_new (env := σ.env) (own := rmO σ.own rm) (r := r) (o := o) hnone (hid d hd).1 c4
      obtain ⟨v, hv, he⟩ := outc_newer_back hpu c6 hn hg hj
      simp only [Eff.put.injEq] at he
      subst he
      have hv' : Outc P j σ (.put v) := outc_less (own := σ.own) hpu (rmO_le σ.own rm) (by simp) hv
      refine ⟨.put v, .new r o rm, hv', (outc_put hjd).2 hi, ?_⟩
      rw [e1]
      simp only [hd, Eff.app]
      have := new_put σ.env (rmO σ.own rm) (d := d) (e := j.d) (hid d hd).2 r o v
      rw [← this]
      cases j.d <;> rfl
    · have hb : j.i.readsBox = false := by
        rcases hbx with h | h
        · rw [hwb] at h; cases h
        · exact h
      have hle : OwnLe true (upd σ.own n (.box cs')) σ.own := by
        intro m
        by_cases hm : m = n
        · subst hm; right; right; exact ⟨rfl, by simp [upd, Ob.isBox], by rw [hown]; rfl⟩
        · left; simp [upd, hm]
      have hj' : Outc P j σ (.put vj) := outc_less (own := σ.own) hpu hle (fun _ => hb) hj
      refine ⟨.put vj, .set n (.box cs'), hj', (outc_put hjd).2 hi, ?_⟩
      simp only [Eff.app]
      cases j.d <;> rfl
  · -- i puts, j makes an object
    obtain ⟨v, rfl⟩ := outc_puts hpu hi
    have hj' : Outc P j σ εj := (outc_put (fun d hd => (hid d hd).1)).1 hj
    rcases outc_kind hj' with ⟨v', rfl⟩ | ⟨d, r, o, rm, hd, rfl, hnone, hrm⟩ | ⟨n, cs, cs', rfl, hown, hwb⟩
    · refine ⟨.put v', .put v, hj', (outc_put hjd).2 hi, ?_⟩
      exact put_put σ (fun x hx hx' => (hid x hx').2 hx) v' v
    · obtain ⟨hn, hg⟩ := newer_new (env := σ.env) (own := rmO σ.own rm) (r := r) (o := o) hnone (hjd d hd) c3
      have e1 : (Eff.new r o rm).app j.d σ = St.new ⟨σ.env, rmO σ.own rm⟩ d r o := by rw [hd]; rfl
      have hi' : Outc P i ⟨σ.env, rmO σ.own rm⟩ (.put v) := by
        rcases hrm with rfl | ⟨n, e', sz, es, rfl, hgr, hcons⟩
        · exact hi
        · have hr : i.i.readsGrow = false := by
            rcases hrc with h | h
            · exact h
            · rw [hcons] at h; cases h
          exact outc_gone hpu hnc hgr hr hi
      refine ⟨.new r o rm, .put (v.prg d), hj', ?_, ?_⟩
      · rw [e1]; exact outc_newer hpu hnc c5 hn hg hi'
      · rw [e1]
        simp only [Eff.app]
        have hne : i.d ≠ some d := fun h => (hid d h).2 hd
        have := new_put σ.env (rmO σ.own rm) (d := d) (e := i.d) hne r o v
        rw [← this]
        rw [hd]
        cases i.d <;> rfl
    · exfalso
      cases hji : j.i <;> rw [hji] at hwb hcr <;> simp [I.writesBox, I.creates] at hwb hcr
end
end Go.V

/-
  Regions in whatever order; the rules for code.
-/
namespace Go.V

theorem acallS_mono {P : Program} {d : Option Nat} {f : X} {xs : List X} {K K' : St → Prop} {σ : St} (hk : ∀ σ, K σ → K' σ) (h : ACallS P d f xs K σ) : ACallS P d f xs K' σ := by
  rcases h with h | h | h | h | h | h
  · obtain ⟨fid, caps, args, r, h1, h2, h3, h4, h5, h6, h7⟩ := h
    exact .inl ⟨fid, caps, args, r, h1, h2, h3, h4, h5, h6, hk _ h7⟩
  · obtain ⟨fid, caps, args, r, h1, h2, h3, h4, h5, h6, h7⟩ := h
    exact .inr (.inl ⟨fid, caps, args, r, h1, h2, h3, h4, h5, h6, hk _ h7⟩)
  · obtain ⟨fid, caps, L, l, args, Post, h1, h2, h3, h4, h5, h6, h7, h8⟩ := h
    exact .inr (.inr (.inl ⟨fid, caps, L, l, args, Post, h1, h2, h3, h4, h5, h6, h7, fun r l' hp => by
      obtain ⟨r', os, k1, k2, k3⟩ := h8 r l' hp
      exact ⟨r', os, k1, k2, hk _ k3⟩⟩))
  · obtain ⟨n, g, e, rem, L, h1, h2, h3, h4, h5, h6, h7, h8⟩ := h
    exact .inr (.inr (.inr (.inl ⟨n, g, e, rem, L, h1, h2, h3, h4, h5, h6, h7, hk _ h8⟩)))
  · obtain ⟨fid, caps, L, l, pre, fc, fcaps, post, fcaps', pre', post', rem, Fin, r, h1, h2, h3, h4, h5, h6, h7, h8, h9, h10, h11, h12, h13, h14, h15⟩ := h
    exact .inr (.inr (.inr (.inr (.inl ⟨fid, caps, L, l, pre, fc, fcaps, post, fcaps', pre', post', rem, Fin, r, h1, h2, h3, h4, h5, h6, h7, h8, h9, h10, h11, h12, h13, h14, fun l' hf => by
      obtain ⟨os, k1, k2, k3⟩ := h15 l' hf
      exact ⟨os, k1, k2, hk _ k3⟩⟩))))
  · obtain ⟨fid, caps, args, Post, h1, h2, h3, h4, h5, h6⟩ := h
    exact .inr (.inr (.inr (.inr (.inr ⟨fid, caps, args, Post, h1, h2, h3, h4, h5, fun r os hp => by
      obtain ⟨L, r', os', k1, k2, k3, k4, k5, k6⟩ := h6 r os hp
      exact ⟨L, r', os', k1, k2, k3, k4, k5, hk _ k6⟩⟩))))

theorem AStep_mono {P : Program} {i : Ins} {K K' : St → Prop} {σ : St} (hk : ∀ σ, K σ → K' σ) (h : AStep P i K σ) : AStep P i K' σ := by
  unfold AStep at h ⊢
  split at h
  · rename_i hs
    rw [if_pos hs]
    simp only [AStepS] at h ⊢
    split at h
    · split at h
      · exact acallS_mono hk h
      · split at h
        · exact ⟨h.1, hk _ h.2⟩
        · split at h
          · exact ⟨h.1, hk _ h.2⟩
          · split at h
            · exact ⟨h.1, hk _ h.2⟩
            · split at h
              · exact ⟨h.1, hk _ h.2⟩
              · unfold nvw at h ⊢
                split at h
                · split at h
                  · exact ⟨h.1, fun b => hk _ (h.2 b)⟩
                  · exact h
                · split at h
                  · refine ⟨h.1, h.2.1, h.2.2.1, h.2.2.2.1, h.2.2.2.2.1, h.2.2.2.2.2.1, h.2.2.2.2.2.2.1, ?_⟩
                    have h8 := h.2.2.2.2.2.2.2
                    split at h8
                    · rename_i h0
                      rw [if_pos h0]
                      exact ⟨h8.1, hk _ h8.2⟩
                    · rename_i h0
                      rw [if_neg h0]
                      exact fun cap j h1 h2 h3 => hk _ (h8 cap j h1 h2 h3)
                  · exact h
                · exact h
    · split at h
      · exact h
      · split at h
        · rcases h with ⟨r, h1, h2, h3⟩ | ⟨r, h1, h2, h3⟩ | h
          · exact .inl ⟨r, h1, h2, hk _ h3⟩
          · exact .inr (.inl ⟨r, h1, h2, hk _ h3⟩)
          · exact .inr (.inr ⟨fun hg => acallS_mono hk (h.1 hg), fun hg => hk _ (h.2 hg)⟩)
        · split at h
          · exact ⟨h.1, hk _ h.2⟩
          · split at h
            · exact ⟨fun hg => ⟨(h.1 hg).1, hk _ (h.1 hg).2⟩, fun hg => hk _ (h.2 hg)⟩
            · split at h
              · exact ⟨h.1, hk _ h.2⟩
              · split at h
                · exact ⟨fun hg => ⟨(h.1 hg).1, hk _ (h.1 hg).2⟩, fun hg => hk _ (h.2 hg)⟩
                · exact ⟨h.1, hk _ h.2⟩
  · rename_i hs
    rw [if_neg hs]
    exact astep_mono hk h

theorem astep_alone {P : Program} {i : Ins} {K : St → Prop} {σ : St} (hs : i.s = false) : AStep P i K σ ↔ AStepP P i K σ := by
  unfold AStep; rw [if_neg (by rw [hs]; simp)]

def AOps (P : Program) : List Ins → (St → Prop) → St → Prop
  | [], K, σ => K σ
  | i :: is, K, σ => AStep P i (AOps P is K) σ

mutual
def ATree (P : Program) : OT → (St → Prop) → St → Prop
  | .nil, K, σ => K σ
  | .cons i t, K, σ => AStep P i (ATree P t K) σ
  | .br ts, K, σ => ATrees P ts K σ
def ATrees (P : Program) : List OT → (St → Prop) → St → Prop
  | [], _, _ => True
  | t :: ts, K, σ => ATree P t K σ ∧ ATrees P ts K σ
end

section
variable {P : Program} {ops : Array Oper} {is : List Ins} {K : St → Prop}

def AAny (P : Program) (ops : Array Oper) (is : List Ins) (K : St → Prop) : Nat → Array Bool → St → Prop
  | 0, listed, σ => Region.ready .any ops listed = [] ∧ K σ
  | n + 1, listed, σ => (Region.ready .any ops listed = [] → K σ) ∧ ∀ i ∈ Region.ready .any ops listed, ∃ ins, is[i]? = some ins ∧ AStep P ins (AAny P ops is K n (listed.setIfInBounds i true)) σ

def Closed (ops : Array Oper) (listed : Array Bool) : Prop :=
  ∀ (m : Nat) (o : Oper) (e : Edge), ops[m]? = some o → listed.getD m false = true → e ∈ o.after → Region.binds .any e = true → listed.getD e.on false = true

theorem Closed.set_ {listed : Array Bool} (h : Closed ops listed) {i : Nat} (hi : i ∈ Region.ready .any ops listed) : Closed ops (listed.setIfInBounds i true) := by
  intro m o e ho hm he hb
  obtain ⟨_, oi, hoi, hall⟩ := mem_ready.1 hi
  have hmono : ∀ k, listed.getD k false = true → (listed.setIfInBounds i true).getD k false = true := by
    intro k hk
    rw [Array.getD_eq_getD_getElem?] at hk ⊢
    rw [Array.getElem?_setIfInBounds]
    split
    · split <;> simp_all
    · exact hk
  by_cases hmi : m = i
  · subst hmi
    rw [ho] at hoi
    cases hoi
    exact hmono _ (hall e he hb)
  · refine hmono _ (h m o e ho ?_ he hb)
    rw [Array.getD_eq_getD_getElem?] at hm ⊢
    rwa [Array.getElem?_setIfInBounds_ne (Ne.symm hmi)] at hm

theorem waits_listed {listed : Array Bool} (h : Closed ops listed) {i : Nat} (hi : listed.getD i true = false) (hsz : listed.size = ops.size) : ∀ (n m : Nat), listed.getD m false = true → waits ops i n m = false
  | 0, _, _ => rfl
  | n + 1, m, hm => by
    simp only [waits]
    cases ho : ops[m]? with
    | none =>
      rw [Array.getD_eq_getD_getElem?] at hm
      have : listed[m]? = none := by
        rw [Array.getElem?_eq_none_iff] at ho ⊢; omega
      rw [this] at hm
      cases hm
    | some o =>
      simp only
      rw [Array.any_eq_false']
      intro e he
      simp only [Bool.and_eq_true, Bool.or_eq_true, not_and, not_or, beq_iff_eq]
      intro hb
      have hl := h m o e ho hm he hb
      refine ⟨?_, by rw [waits_listed h hi hsz n e.on hl]; simp⟩
      intro heq
      rw [heq, Array.getD_eq_getD_getElem?] at hl
      rw [Array.getD_eq_getD_getElem?] at hi
      cases hx : listed[i]? <;> rw [hx] at hl hi <;> simp_all

theorem waits_ready {listed : Array Bool} (h : Closed ops listed) {i j : Nat} (hi : listed.getD i true = false) (hsz : listed.size = ops.size) (hj : j ∈ Region.ready .any ops listed) (n : Nat) : waits ops i n j = false := by
  obtain ⟨_, o, ho, hall⟩ := mem_ready.1 hj
  cases n with
  | zero => rfl
  | succ n =>
    simp only [waits, ho]
    rw [Array.any_eq_false']
    intro e he
    simp only [Bool.and_eq_true, Bool.or_eq_true, not_and, not_or, beq_iff_eq]
    intro hb
    have hl := hall e he hb
    refine ⟨?_, by rw [waits_listed h hi hsz n e.on hl]; simp⟩
    intro heq
    rw [heq, Array.getD_eq_getD_getElem?] at hl
    rw [Array.getD_eq_getD_getElem?] at hi
    cases hx : listed[i]? <;> rw [hx] at hl hi <;> simp_all

theorem aany_first {i : Nat} {ins : Ins} (hins : is[i]? = some ins) (hlen : ∀ j : Nat, j < ops.size → (is[j]?).isSome = true) : ∀ (n : Nat) (listed : Array Bool) (σ : St), listed.size = ops.size → Closed ops listed →
    (∀ j ins', is[j]? = some ins' → j ≠ i → listed.getD j true = false → waits ops i ops.size j = false → comm ins ins' = true) →
    i ∈ Region.ready .any ops listed → AStep P ins (AAny P ops is K n (listed.setIfInBounds i true)) σ → AAny P ops is K (n + 1) listed σ := by
  intro n
  induction n with
  | zero =>
    intro listed σ hsz hcl hfree hr H
    refine ⟨fun h => (by rw [h] at hr; cases hr), fun j hj => ?_⟩
    by_cases hji : j = i
    · subst hji; exact ⟨ins, hins, H⟩
    · have h1 := ready_mono hj hji
      obtain ⟨hjun, oj, hoj, _⟩ := mem_ready.1 hj
      have hiun := (mem_ready.1 hr).1
      have hjlt : j < ops.size := (Array.getElem?_eq_some_iff.1 hoj).1
      obtain ⟨ins', hins'⟩ := Option.isSome_iff_exists.1 (hlen j hjlt)
      have hcomm := hfree j ins' hins' hji hjun (waits_ready hcl hiun hsz hj _)
      rw [astep_alone (comm_alone hcomm).1, astep_iff] at H
      obtain ⟨ε, _, h2, _⟩ := H
      rw [h2] at h1
      cases h1
  | succ n ih =>
    intro listed σ hsz hcl hfree hr H
    refine ⟨fun h => (by rw [h] at hr; cases hr), fun j hj => ?_⟩
    by_cases hji : j = i
    · subst hji; exact ⟨ins, hins, H⟩
    · obtain ⟨hjun, oj, hoj, _⟩ := mem_ready.1 hj
      have hiun := (mem_ready.1 hr).1
      have hjlt : j < ops.size := (Array.getElem?_eq_some_iff.1 hoj).1
      obtain ⟨ins', hins'⟩ := Option.isSome_iff_exists.1 (hlen j hjlt)
      refine ⟨ins', hins', ?_⟩
      have hcomm := hfree j ins' hins' hji hjun (waits_ready hcl hiun hsz hj _)
      obtain ⟨hsi, hsj⟩ := comm_alone hcomm
      have h1 : AStepP P ins (fun σ1 => AStepP P ins' (AAny P ops is K n ((listed.setIfInBounds i true).setIfInBounds j true)) σ1) σ := by
        rw [astep_alone hsi] at H
        refine astep_mono (fun σ1 h => ?_) H
        obtain ⟨x, hx, hs⟩ := h.2 j (ready_mono hj hji)
        rw [hins'] at hx
        cases hx
        exact (astep_alone hsj).1 hs
      have h2 := comm_sound hcomm h1
      rw [astep_alone hsj]
      refine astep_mono (fun σ1 h => ?_) h2
      refine ih (listed.setIfInBounds j true) σ1 (by simpa using hsz) (hcl.set_ hj) (fun k ins'' hk hki hun hw => ?_) (ready_mono hr (Ne.symm hji)) ?_
      · refine hfree k ins'' hk hki ?_ hw
        by_cases hjk : j = k
        · subst hjk; exact hjun
        · rwa [getD_set_ne true hjk] at hun
      · rw [Array.setIfInBounds_comm _ _ hji, astep_alone hsi]
        exact h

theorem ATrees_mem : ∀ {ts : List OT} {σ : St}, ATrees P ts K σ → ∀ t ∈ ts, ATree P t K σ
  | [], _, _, t, ht => by cases ht
  | u :: ts, σ, h, t, ht => by
    simp only [ATrees] at h
    rcases List.mem_cons.1 ht with rfl | ht
    · exact h.1
    · exact ATrees_mem h.2 t ht

theorem tree_sound (hlen : ∀ j : Nat, j < ops.size → (is[j]?).isSome = true) : ∀ (n : Nat) (listed : Array Bool) (t : OT) (σ : St), listed.size = ops.size → Closed ops listed → tree ops is n listed = some t → ATree P t K σ → AAny P ops is K n listed σ
  | 0, listed, t, σ, _, _, ht, h => by
    simp only [tree] at ht
    split at ht
    · rename_i he
      simp only [Option.some.injEq] at ht
      subst ht
      simp only [ATree] at h
      exact ⟨List.isEmpty_iff.1 he, h⟩
    · cases ht
  | n + 1, listed, t, σ, hsz, hcl, ht, h => by
    simp only [tree] at ht
    split at ht
    · rename_i he
      simp only [Option.some.injEq] at ht
      subst ht
      simp only [ATree] at h
      have he' := List.isEmpty_iff.1 he
      exact ⟨fun _ => h, fun i hi => by rw [he'] at hi; cases hi⟩
    · rename_i hne
      have cons : ∀ k t', k ∈ Region.ready .any ops listed → OT.consAt is k (tree ops is n (listed.setIfInBounds k true)) = some t' → ATree P t' K σ → ∃ ins, is[k]? = some ins ∧ AStep P ins (AAny P ops is K n (listed.setIfInBounds k true)) σ := by
        intro k t' hk hct hat
        unfold OT.consAt at hct
        split at hct
        · rename_i ins t'' hins ht''
          simp only [Option.some.injEq] at hct
          subst hct
          simp only [ATree] at hat
          exact ⟨ins, hins, AStep_mono (fun σ1 h1 => tree_sound hlen n _ _ σ1 (by simpa using hsz) (hcl.set_ hk) ht'' h1) hat⟩
        · cases hct
      split at ht
      · rename_i k hk
        have hkr := List.mem_of_find?_eq_some hk
        have hkf := List.find?_some hk
        obtain ⟨ins, hins, hs⟩ := cons k t hkr ht h
        refine aany_first hins hlen n listed σ hsz hcl (fun j ins' hj hji hun hw => ?_) hkr hs
        simp only [freeB, List.all_eq_true, List.mem_range, Bool.or_eq_true] at hkf
        have hjlt : j < ops.size := by
          rcases Nat.lt_or_ge j listed.size with h | h
          · omega
          · rw [Array.getD_eq_getD_getElem?, Array.getElem?_eq_none h] at hun; cases hun
        have := hkf j hjlt
        rw [hins, hj] at this
        simp only [beq_iff_eq, hji, hun, hw, Bool.false_eq_true, false_or, or_self] at this
        exact this
      · split at ht
        · rename_i k hk
          refine ⟨fun h0 => (by rw [h0] at hk; cases hk), fun j hj => ?_⟩
          rw [hk] at hj
          simp only [List.mem_singleton] at hj
          subst hj
          exact cons j t (by rw [hk]; simp) ht h
        · simp only [Option.map_eq_some_iff] at ht
          obtain ⟨ts, hts, rfl⟩ := ht
          simp only [ATree] at h
          refine ⟨fun h0 => (by rw [h0] at hne; simp at hne), fun j hj => ?_⟩
          obtain ⟨k, hk⟩ := List.mem_iff_getElem?.1 hj
          obtain ⟨t', ht', hc⟩ := mapM_get hts hk
          exact cons j t' hj hc (ATrees_mem h t' (List.mem_of_getElem? ht'))

theorem list_sound : ∀ (t : OT) (l : List Ins) (σ : St), t.list? = some l → AOps P l K σ → ATree P t K σ
  | .nil, l, σ, h, ha => by simp only [OT.list?, Option.some.injEq] at h; subst h; simpa only [ATree, AOps] using ha
  | .cons i t, l, σ, h, ha => by
    simp only [OT.list?, Option.map_eq_some_iff] at h
    obtain ⟨l', hl, rfl⟩ := h
    simp only [ATree]
    exact AStep_mono (fun σ1 h1 => list_sound t l' σ1 hl h1) ha
  | .br _, l, σ, h, _ => by simp [OT.list?] at h

/-! ### Code -/
/-- What holds of code: from whatever state is as σ says, it ends, and Q holds of how it ends and of what there is then. -/
def Wp (C : Ctx) (c : Code) (Q : Exit → St → Prop) (σ : St) : Prop :=
  ∀ a w, Gam C σ a w → c.wpIn C.F 0 C.P (fun e a' w' => ∃ σ', Gam C σ' a' w' ∧ Q e σ') a w

def WV (C : Ctx) (v : VC) (Q : Exit → St → Prop) (σ : St) : Prop := ∀ c, comp C.P C.N C.m c = some v → Wp C c Q σ

variable {C : Ctx} {σ : St} {Q : Exit → St → Prop}

theorem any_sound (hlen : ∀ (j : Nat) (o : Oper), ops[j]? = some o → ∃ ins, is[j]? = some ins ∧ INS C.P C.N ops o ins) {Q' : Exit → Act → World → Prop} (hQ : ∀ σ a w, Gam C σ a w → K σ → Q' .normal a w) :
    ∀ (n : Nat) (listed : Array Bool) (σ : St) (a : Act) (w : World), Gam C σ a w → AAny C.P ops is K n listed σ → wpAnyIn C.F 0 C.P .any ops Q' n listed a w
  | 0, _, σ, a, w, hg, h => ⟨h.1, hQ σ a w hg h.2⟩
  | n + 1, listed, σ, a, w, hg, h => by
    refine ⟨fun h0 => hQ σ a w hg (h.1 h0), fun i hi => ?_⟩
    obtain ⟨_, o, ho, _⟩ := mem_ready.1 hi
    obtain ⟨ins, hins, hc⟩ := hlen i o ho
    obtain ⟨ins', hins', hs⟩ := h.2 i hi
    rw [hins] at hins'
    cases hins'
    have := astep_sound hg hc hs (Q := Q') (fun σ' a' w' hg' hk => any_sound hlen hQ n _ σ' a' w' hg' hk)
    unfold wpOpIn
    rw [ho]
    exact this

theorem ops_sound {Q' : Exit → Act → World → Prop} (hQ : ∀ σ a w, Gam C σ a w → K σ → Q' .normal a w) : ∀ (l : List Ins) (k : Nat) (σ : St) (a : Act) (w : World), (∀ (j : Nat) (ins : Ins), l[j]? = some ins → ∃ o, ops[k + j]? = some o ∧ INS C.P C.N ops o ins) →
    Gam C σ a w → AOps C.P l K σ → wpOpsIn C.F 0 C.P ops Q' (List.range' k l.length) a w
  | [], k, σ, a, w, _, hg, h => hQ σ a w hg h
  | i :: l, k, σ, a, w, hl, hg, h => by
    obtain ⟨o, ho, hc⟩ := hl 0 i rfl
    simp only [Nat.add_zero] at ho
    have ih := fun σ a w => ops_sound hQ l (k + 1) σ a w (fun j ins hj => by have := hl (j + 1) ins (by simpa using hj); rwa [show k + (j + 1) = k + 1 + j from by omega] at this)
    have := astep_sound hg hc h (Q := Q') (fun σ' a' w' hg' hk => ih σ' a' w' hg' hk)
    simp only [List.length_cons, List.range'_succ, wpOpsIn, ho]
    exact this

theorem mapM_len {α β : Type} {f : α → Option β} : ∀ {l : List α} {r : List β}, l.mapM f = some r → r.length = l.length
  | [], r, h => by simp at h; subst h; rfl
  | x :: l, r, h => by
    simp only [List.mapM_cons, Option.pure_def, Option.bind_eq_bind, Option.bind_eq_some_iff, Option.some.injEq] at h
    obtain ⟨y, _, ys, hys, rfl⟩ := h
    simp [mapM_len hys]

theorem mapM_get' {α β : Type} {f : α → Option β} : ∀ {l : List α} {r : List β} {i : Nat} {y : β}, l.mapM f = some r → r[i]? = some y → ∃ x, l[i]? = some x ∧ f x = some y
  | [], r, i, y, h, hy => by simp at h; subst h; simp at hy
  | z :: l, r, i, y, h, hy => by
    simp only [List.mapM_cons, Option.pure_def, Option.bind_eq_bind, Option.bind_eq_some_iff, Option.some.injEq] at h
    obtain ⟨u, hu, ys, hys, rfl⟩ := h
    match i, hy with
    | 0, hy => simp at hy; subst hy; exact ⟨z, rfl, hu⟩
    | i + 1, hy => simpa using mapM_get' hys (by simpa using hy)

theorem drawn_sound {id : Nat} {ops : Array Oper} {is : List Ins} (his : ops.toList.mapM (cOp C.P C.N ops) = some is) (hm : C.P.follows .mixedOrders = true) {t : OT} (ht : tree ops (soloed C.m ops is) ops.size (Array.replicate ops.size false) = some t)
    (h : ATree C.P t (Q .normal) σ) : Wp C (.region id ops true) Q σ := by
  intro a w hg
  have hlen := mapM_len his
  have hget : ∀ (j : Nat) (o : Oper), ops[j]? = some o → ∃ ins, (soloed C.m ops is)[j]? = some ins ∧ INS C.P C.N ops o ins := fun j o ho => by
    obtain ⟨ins, h1, h2⟩ := mapM_get his (by simpa using ho)
    exact ⟨{ ins with s := soloB ops j || forced C.m ins }, by simp [soloed, h1], ins.s, ins.i, h2, .inl rfl⟩
  have hlen2 : (soloed C.m ops is).length = is.length := by simp [soloed]
  have hcl : Closed ops (Array.replicate ops.size false) := by
    intro m o e ho hm he hb
    rw [Array.getD_eq_getD_getElem?, Array.getElem?_replicate] at hm
    split at hm <;> cases hm
  have := tree_sound (P := C.P) (fun j hj => by rw [List.getElem?_eq_getElem (by simp at hlen; omega)]; rfl) ops.size _ t σ (by simp) hcl ht h
  obtain ⟨loc, hg⟩ := hg
  exact wpIn_region_any hm (any_sound hget (fun σ a w hg hk => ⟨σ, hg, hk⟩) _ _ σ a _ ⟨loc, hg.drew⟩ this)

theorem WV_ops {is : List Ins} (h : AOps C.P is (Q .normal) σ) : WV C (.ops is) Q σ := by
  intro c hc
  cases c <;> simp only [comp, reduceCtorEq, Option.some.injEq] at hc <;> (try (simp [Option.bind_eq_some_iff, Option.map_eq_some_iff] at hc; done))
  rename_i id ops draw
  split at hc
  · rename_i is' his
    split at hc
    · rename_i hd
      subst hd
      unfold cDraw at hc
      split at hc
      · rename_i hcond
        simp only [Bool.and_eq_true] at hcond
        split at hc
        · rename_i t ht
          split at hc
          · rename_i l hl
            simp only [Option.some.injEq, VC.ops.injEq] at hc
            subst hc
            exact drawn_sound his hcond.2 ht (list_sound t _ σ hl h)
          · cases hc
        · cases hc
      · cases hc
    · rename_i hd
      simp only [Option.some.injEq, VC.ops.injEq] at hc
      subst hc
      have hd' : draw = false := by simpa using hd
      subst hd'
      intro a w hg
      refine wpIn_region ?_
      have hlen := mapM_len his
      have := ops_sound (Q' := fun e a' w' => ∃ σ', Gam C σ' a' w' ∧ Q e σ') (fun σ a w hg hk => ⟨σ, hg, hk⟩) (is'.map (vwI C.m)) 0 σ a w (fun j ins hj => by
        rw [List.getElem?_map, Option.map_eq_some_iff] at hj
        obtain ⟨ins0, hj, rfl⟩ := hj
        obtain ⟨o, ho, hc⟩ := mapM_get' his hj
        obtain ⟨v1, v2, v3, v4⟩ := vwI_vw C.m ins0
        refine ⟨o, by simpa using ho, ins0.s, ins0.i, ?_, v1⟩
        rw [v2, v3]
        exact hc) hg h
      rw [List.range_eq_range']
      rwa [List.length_map, hlen, Array.length_toList] at this
  · cases hc

theorem WV_drw {t : OT} (h : ATree C.P t (Q .normal) σ) : WV C (.drw t) Q σ := by
  intro c hc
  cases c <;> simp only [comp, reduceCtorEq, Option.some.injEq] at hc <;> (try (simp [Option.bind_eq_some_iff, Option.map_eq_some_iff] at hc; done))
  rename_i id ops draw
  split at hc
  · rename_i is' his
    split at hc
    · rename_i hd
      subst hd
      unfold cDraw at hc
      split at hc
      · rename_i hcond
        simp only [Bool.and_eq_true] at hcond
        split at hc
        · rename_i t' ht
          split at hc
          · cases hc
          · simp only [Option.some.injEq, VC.drw.injEq] at hc
            subst hc
            exact drawn_sound his hcond.2 ht h
        · cases hc
      · cases hc
    · cases hc
  · cases hc
end
end Go.V

/-
  The rules for code, and a contract out of a walk.
-/
namespace Go.V
variable {C : Ctx} {σ : St} {Q : Exit → St → Prop}

/-- Behind a part that ends as it should, K. -/
def thenQ (K : St → Prop) (Q : Exit → St → Prop) : Exit → St → Prop
  | .normal, σ => K σ
  | e, σ => Q e σ
def inQ (id : Nat) (Q : Exit → St → Prop) : Exit → St → Prop
  | .exit id', σ => if id' = id then Q .normal σ else Q (.exit id') σ
  | e, σ => Q e σ

theorem wpIn_loop_ghost {F : Fence} {m : Nat} {P : Program} {c : Code} {Q : Exit → Act → World → Prop} (I : Nat → Act → World → Prop) (n₀ : Nat) {a : Act} {w : World} (h₀ : I n₀ a w)
    (hr : ∀ n a w, I n a w → c.wpIn F m P (Exit.then (fun a w => ∃ n', n' < n ∧ I n' a w) Q) a w) : (Code.loop c).wpIn F m P Q a w := by
  have key : ∀ k n a w, n ≤ k → I n a w → Code.roundsIn F m P c Q (k + 1) a w := by
    intro k
    induction k with
    | zero =>
      intro n a w hn hI
      have : n = 0 := by omega
      subst this
      rw [roundsIn_succ]
      refine wpIn_mono (hr 0 a w hI) ?_
      intro e a' w' h
      cases e with
      | normal => obtain ⟨n', h1, _⟩ := h; omega
      | _ => exact h
    | succ k ih =>
      intro n a w hn hI
      rw [roundsIn_succ]
      refine wpIn_mono (hr n a w hI) ?_
      intro e a' w' h
      cases e with
      | normal => obtain ⟨n', h1, h2⟩ := h; exact ih n' a' w' (by omega) h2
      | _ => exact h
  exact wpIn_loop_rounds (n₀ + 1) (key n₀ n₀ a w (Nat.le_refl _) h₀)

theorem WV.mono {v : VC} {Q' : Exit → St → Prop} (h : WV C v Q σ) (hq : ∀ e σ, Q e σ → Q' e σ) : WV C v Q' σ := fun c hc a w hg =>
  wpIn_mono (h c hc a w hg) fun e _ _ ⟨σ', hg', hQ⟩ => ⟨σ', hg', hq e σ' hQ⟩

theorem WV_skip (h : Q .normal σ) : WV C .skip Q σ := by
  intro c hc
  cases c <;> simp only [comp, reduceCtorEq, Option.some.injEq] at hc <;> (try (simp [Option.bind_eq_some_iff, Option.map_eq_some_iff] at hc; done))
  · exact fun a w hg => wpIn_skip ⟨σ, hg, h⟩
  · exfalso
    split at hc
    · split at hc
      · unfold cDraw at hc
        split at hc
        · split at hc
          · split at hc <;> cases hc
          · cases hc
        · cases hc
      · cases hc
    · cases hc

theorem comp_region {P : Program} {N : Nat} {m : List Nat} {id : Nat} {ops : Array Oper} {draw : Bool} {v : VC} (h : comp P N m (.region id ops draw) = some v) : (∃ is, v = .ops is) ∨ ∃ t, v = .drw t := by
  simp only [comp] at h
  split at h
  · split at h
    · unfold cDraw at h
      split at h
      · split at h
        · split at h <;> simp only [Option.some.injEq] at h <;> subst h
          · exact .inl ⟨_, rfl⟩
          · exact .inr ⟨_, rfl⟩
        · cases h
      · cases h
    · simp only [Option.some.injEq] at h; subst h; exact .inl ⟨_, rfl⟩
  · cases h

theorem WV_seq {x y : VC} (h : ∀ K : St → Prop, (∀ σ', WV C y Q σ' → K σ') → WV C x (thenQ K Q) σ) : WV C (.seq x y) Q σ := by
  intro c hc
  cases c
  case seq a b =>
    simp only [comp, Option.bind_eq_bind, Option.bind_eq_some_iff, Option.some.injEq, VC.seq.injEq] at hc
    obtain ⟨x', hx, y', hy, rfl, rfl⟩ := hc
    intro a w hg
    refine wpIn_seq (wpIn_mono (h (WV C y' Q) (fun _ h => h) _ hx a w hg) ?_)
    rintro e a' w' ⟨σ', hg', hq⟩
    cases e with
    | normal => exact hq _ hy a' w' hg'
    | _ => exact ⟨σ', hg', hq⟩
  case region => rcases comp_region hc with ⟨_, h⟩ | ⟨_, h⟩ <;> cases h
  all_goals (simp [comp, Option.bind_eq_some_iff, Option.map_eq_some_iff] at hc)

theorem WV_cond {x : X} {t f : VC} {b : Bool} (hx : σ.val x = .c (.bool b)) (ht : b = true → WV C t Q σ) (hf : b = false → WV C f Q σ) : WV C (.cond x t f) Q σ := by
  intro c hc
  cases c
  case cond y a b' =>
    simp only [comp, Option.bind_eq_bind, Option.bind_eq_some_iff, Option.some.injEq, VC.cond.injEq] at hc
    obtain ⟨x', hx', t', ht', f', hf', rfl, rfl, rfl⟩ := hc
    intro a w hg
    have hg0 := hg
    obtain ⟨loc, hg1⟩ := hg
    have hr := val_rep hg1 hx'
    rw [hx] at hr
    simp only [RepA, RepC] at hr
    refine wpIn_cond hr ?_
    cases b with
    | true => exact ht rfl _ ht' a w hg0
    | false => exact hf rfl _ hf' a w hg0
  case region => rcases comp_region hc with ⟨_, h⟩ | ⟨_, h⟩ <;> cases h
  all_goals (simp [comp, Option.bind_eq_some_iff, Option.map_eq_some_iff] at hc)

theorem WV_block {id : Nat} {x : VC} (h : WV C x (inQ id Q) σ) : WV C (.block id x) Q σ := by
  intro c hc
  cases c
  case block id' a =>
    simp only [comp, Option.map_eq_some_iff, VC.block.injEq] at hc
    obtain ⟨x', hx, rfl, rfl⟩ := hc
    intro a w hg
    refine wpIn_block (wpIn_mono (h _ hx a w hg) ?_)
    rintro e a' w' ⟨σ', hg', hq⟩
    cases e with
    | exit id =>
      simp only [Exit.inBlock, inQ] at hq ⊢
      split
      · rename_i hid; rw [if_pos hid] at hq; exact ⟨σ', hg', hq⟩
      · rename_i hid; rw [if_neg hid] at hq; exact ⟨σ', hg', hq⟩
    | _ => exact ⟨σ', hg', hq⟩
  case region => rcases comp_region hc with ⟨_, h⟩ | ⟨_, h⟩ <;> cases h
  all_goals (simp [comp, Option.bind_eq_some_iff, Option.map_eq_some_iff] at hc)

/-- A loop: at its head the state is one of I n, and each round lowers n. -/
theorem WV_loop {x : VC} (I : Nat → St → Prop) (n₀ : Nat) (h₀ : I n₀ σ) (hr : ∀ n σ, I n σ → WV C x (thenQ (fun σ' => ∃ n', n' < n ∧ I n' σ') Q) σ) : WV C (.loop x) Q σ := by
  intro c hc
  cases c
  case loop a =>
    simp only [comp, Option.map_eq_some_iff, VC.loop.injEq] at hc
    obtain ⟨x', hx, rfl⟩ := hc
    intro a w hg
    refine wpIn_loop_ghost (fun n a w => ∃ σ, Gam C σ a w ∧ I n σ) n₀ ⟨σ, hg, h₀⟩ ?_
    rintro n a w ⟨σ, hg, hI⟩
    refine wpIn_mono (hr n σ hI _ hx a w hg) ?_
    rintro e a' w' ⟨σ', hg', hq⟩
    cases e with
    | normal =>
      obtain ⟨n', hlt, hI'⟩ := hq
      exact ⟨n', hlt, σ', hg', hI'⟩
    | _ => exact ⟨σ', hg', hq⟩
  case region => rcases comp_region hc with ⟨_, h⟩ | ⟨_, h⟩ <;> cases h
  all_goals (simp [comp, Option.bind_eq_some_iff, Option.map_eq_some_iff] at hc)

theorem WV_exit {id : Nat} (h : Q (.exit id) σ) : WV C (.exit id) Q σ := by
  intro c hc
  cases c
  case exit id' =>
    simp only [comp, Option.some.injEq, VC.exit.injEq] at hc
    subst hc
    exact fun a w hg => wpIn_exit ⟨σ, hg, h⟩
  case region => rcases comp_region hc with ⟨_, h⟩ | ⟨_, h⟩ <;> cases h
  all_goals (simp [comp, Option.bind_eq_some_iff, Option.map_eq_some_iff] at hc)

theorem WV_ret (h : Q .ret σ) : WV C .ret Q σ := by
  intro c hc
  cases c
  case ret => exact fun a w hg => wpIn_ret ⟨σ, hg, h⟩
  case region => rcases comp_region hc with ⟨_, h⟩ | ⟨_, h⟩ <;> cases h
  all_goals (simp [comp, Option.bind_eq_some_iff, Option.map_eq_some_iff] at hc)

theorem WV_weak {v : VC} {σ' : St} (h : ∀ a w, Gam C σ a w → Gam C σ' a w) (hv : WV C v Q σ') : WV C v Q σ := fun c hc a w hg => hv c hc a w (h a w hg)

/-! ### What a function hands back -/
def resA (σ : St) : RV → Option (Prop × AV)
  | .t n => some ((σ.env n).dg = true, (σ.env n).dv)
  | .cell n one sz => pev σ (.ld one sz (.t n))

def resAll (σ : St) : List RV → Option (Prop × List AV)
  | [] => some (True, [])
  | r :: rs =>
    match resA σ r, resAll σ rs with
    | some (q, v), some (p, vs) => some (q ∧ p, v :: vs)
    | _, _ => none

def tupA : List AV → AV
  | [v] => v
  | vs => .tup vs

/-- y says no more than x. -/
def AVle (x y : AV) : Prop := ∀ (w : World) (M : Cells) (loc : Nat → Value) (v : Value), RepA w M loc x v → RepA w M loc y v
theorem AVle.of {x y : AV} (h : x = y) : AVle x y := fun _ _ _ _ hr => h ▸ hr
/-- The results, as data. -/
def RetOk (rs : List RV) (r : AV) (σ : St) : Prop :=
  match resAll σ rs with
  | some (q, vs) => q ∧ ∃ r', (tupA vs).port σ.own = some r' ∧ AVle r' r
  | none => False

def RetQ (rs : List RV) (r : AV) : Exit → St → Prop
  | .normal, σ => RetOk rs r σ
  | .ret, σ => RetOk rs r σ
  | _, _ => False

theorem resA_sound {loc : Nat → Value} {a : Act} {w : World} (hg : G C σ loc a w) {rv : ResultVar} {r : RV} (hc : cRes C.P rv = some r) {q : Prop} {v : AV} (hr : resA σ r = some (q, v)) (hq : q) :
    ∃ u, (match rv with | .tmp t => (pure (a.tmps.getD t undef) : Sem Value) | .cell b t => do loadVar t (← asAddr (a.tmps.getD b undef))).run C.P w = .ok u w ∧ RepA w (MM C σ.own loc) loc v u := by
  cases rv with
  | tmp t =>
    simp only [cRes, Option.some.injEq] at hc
    subst hc
    simp only [resA, Option.some.injEq, Prod.mk.injEq] at hr
    obtain ⟨rfl, rfl⟩ := hr
    exact ⟨_, rfl, dv_rep (hg.slots t) hq⟩
  | cell b t =>
    simp only [cRes, Option.bind_eq_bind, Option.bind_eq_some_iff, Option.some.injEq] at hc
    obtain ⟨ag, hag, sz, hsz, rfl⟩ := hc
    simp only [resA] at hr
    obtain ⟨u, hu, hru⟩ := pev_ld (o := ⟨none, .load t (.tmp b), t, "", #[], none⟩) hg rfl hag hsz (x := .tmp b) rfl hr hq
    refine ⟨u, ?_, hru⟩
    simp only [execOp, Sem.run_bind, Sem.run_pure, Instr.loadAt, Act.eval] at hu
    cases hv : a.tmps.getD b undef <;> rw [hv] at hu <;> try (simp [Instr.sureAddr, Result.andThen] at hu; done)
    rename_i p
    cases p with
    | none => simp [Instr.sureAddr, Result.andThen] at hu
    | some ad =>
      simp only [Instr.sureAddr, Sem.run_pure, Result.andThen_ok] at hu
      have : (loadVar t ad).run C.P w = .ok u w := by
        cases hl : (loadVar t ad).run C.P w with
        | ok x w1 => rw [hl] at hu; simp only [Result.andThen_ok, Result.ok.injEq, Next.value.injEq] at hu; rw [hu.1, hu.2]
        | halt x w1 => rw [hl] at hu; simp [Result.andThen] at hu
      simp only [hv, asAddr, Sem.run_bind, Sem.run_pure, Result.andThen_ok, this]

theorem resAll_sound {loc : Nat → Value} {a : Act} {w : World} (hg : G C σ loc a w) : ∀ (l : List ResultVar) (rs : List RV), l.mapM (cRes C.P) = some rs → ∀ {q : Prop} {vs : List AV}, resAll σ rs = some (q, vs) → q →
    ∃ us, (l.mapM fun (x : ResultVar) => (match x with | .tmp t => (pure (a.tmps.getD t undef) : Sem Value) | .cell b t => do loadVar t (← asAddr (a.tmps.getD b undef)))).run C.P w = .ok us w ∧ RepAs w (MM C σ.own loc) loc vs us
  | [], rs, h, q, vs, hr, hq => by
    simp at h; subst h
    simp only [resAll, Option.some.injEq, Prod.mk.injEq] at hr
    obtain ⟨rfl, rfl⟩ := hr
    exact ⟨[], by simp, by simp [RepAs]⟩
  | x :: l, rs, h, q, vs, hr, hq => by
    simp only [List.mapM_cons, Option.pure_def, Option.bind_eq_bind, Option.bind_eq_some_iff, Option.some.injEq] at h
    obtain ⟨y, hy, ys, hys, rfl⟩ := h
    simp only [resAll] at hr
    split at hr
    · rename_i q1 v1 p1 vs1 h1 h2
      simp only [Option.some.injEq, Prod.mk.injEq] at hr
      obtain ⟨rfl, rfl⟩ := hr
      obtain ⟨u, hu, hru⟩ := resA_sound hg hy h1 hq.1
      obtain ⟨us, hus, hrus⟩ := resAll_sound hg l ys hys h2 hq.2
      refine ⟨u :: us, ?_, by simp only [RepAs]; exact ⟨u, us, rfl, hru, hrus⟩⟩
      simp only [List.mapM_cons, Sem.run_bind]
      rw [hu, Result.andThen_ok, hus]
      simp
    · cases hr

def St.init (args : List AV) : St := ⟨fun t => args.getD t .non, fun _ => .none⟩

theorem init_slots {w : World} {M : Cells} {loc : Nat → Value} (N : Nat) : ∀ (args : List AV) (vs : List Value), RepAs w M loc args vs → ∀ t, RepA w M loc (args.getD t .non) ((vs.toArray ++ Array.replicate (N - vs.length) undef).getD t undef) := by
  intro args vs h t
  have hlen := h.length
  by_cases ht : t < args.length
  · have e1 : args[t]? = some args[t] := List.getElem?_eq_getElem ht
    obtain ⟨v, hv, hr⟩ := h.get t e1
    rw [List.getD_eq_getElem?_getD, e1]
    rw [Array.getD_eq_getD_getElem?, Array.getElem?_append_left (by simp; omega)]
    simpa [hv] using hr
  · rw [List.getD_eq_getElem?_getD, List.getElem?_eq_none (by omega)]
    simp only [Option.getD_none, RepA]

/-- A mark is released. -/
theorem G.release {loc : Nat → Value} {a : Act} {w : World} (hg : G C σ loc a w) {D : Nat} {ds : List Deferred} (hds : a.defers = { target := .collected D, args := #[] } :: ds) (hD : w.heap[D]? = some markO) :
    G C σ loc { a with defers := ds } (w.putObj D (.deferred none)) := by
  have hmem : ∀ d, d ∈ ds → d ∈ a.defers := fun d h => by rw [hds]; exact List.mem_cons_of_mem _ h
  obtain ⟨D', e1, hB, _, hF⟩ := hg.marks _ (by rw [hds]; exact List.mem_cons_self)
  simp only [Deferred.mk.injEq, Target.collected.injEq, and_true] at e1
  subst e1
  have hsz : (w.putObj D (.deferred none)).heap.size = w.heap.size := by simp
  have hoth : ∀ k, k ≠ D → (w.putObj D (.deferred none)).heap[k]? = w.heap[k]? := fun k h => World.putObj_heap_other h
  have hcell : ∀ p : Addr, (w.cell? p).isSome = true → p.block ≠ D := by
    rintro p hp rfl
    unfold World.cell? at hp
    rw [hD] at hp
    cases p.spot <;> simp at hp
  have hk : Keeps w (w.putObj D (.deferred none)) (MM C σ.own loc) (MM C σ.own loc) := ⟨fun p hp _ => World.cell?_of_block (hoth _ (hcell p hp)), fun p _ h => h⟩
  have hpw := hg.mnd
  rw [hds, List.pairwise_cons] at hpw
  refine ⟨⟨hg.fr.os, hg.fr.tape, hg.fr.output, by rw [hsz]; exact hg.fr.size, fun k hk hx => (hoth k (by omega)).trans (hg.fr.block k hk hx)⟩, hg.m0, hg.kp.trans hk, fun x hx => ?_, hpw.2, hg.pin, hg.size, fun t => RepA.keep hk _ _ (hg.slots t), fun n => ?_, hg.disj⟩
  · obtain ⟨D2, e1, e2, e3, e4⟩ := hg.marks x (hmem x hx)
    refine ⟨D2, e1, e2, (hoth D2 ?_).trans e3, e4⟩
    rintro rfl
    exact hpw.1 x hx (by rw [e1])
  · exact ObOk.keep' hk (by rw [hsz]; exact Nat.le_refl _) (fun b hb => hoth b (by rintro rfl; exact hF ⟨n, hb⟩)) (hg.objs n)

theorem leaves_of_G {fn : Func} {R : Ending → World → Prop} {loc : Nat → Value} : ∀ (ds : List Deferred) (a : Act) (w : World), a.defers = ds → G C σ loc a w →
    (∀ w', G C σ loc { a with defers := [] } w' → ∃ v, (results fn a.tmps).run C.P w' = .ok v w' ∧ R (.returned v) w') → LeavesInM Fence.wide 0 C.P fn a.tmps R ds .returning w
  | [], a, w, hds, hg, h => by
    have : { a with defers := [] } = a := by cases a; simp at hds; simp [hds]
    exact h w (by rw [this]; exact hg)
  | d :: ds, a, w, hds, hg, h => by
    obtain ⟨D, rfl, hB, hD, hF⟩ := hg.marks d (by rw [hds]; exact List.mem_cons_self)
    refine ⟨by simp, .inl ⟨D, _, rfl, run_takeDeferred hD, ?_⟩⟩
    exact leaves_of_G ds { a with defers := ds } _ rfl (hg.release hds hD) fun w' hg' => h w' hg'

/-- A function's call, out of the walk of its body. -/
theorem body_call {P : Program} {m : List Nat} {f : FuncId} {fc : FC} (hc : compM P m f = some fc) : callable P f ∧ ∀ (C : Ctx) (Q : Exit → St → Prop) (σ₀ : St) (loc₀ : Nat → Value) (vs : List Value) (R : Ending → World → Prop), C.P = P → C.N = fc.N → C.m = m → C.rd = none → vs.length ≤ fc.np →
    WV C fc.body Q σ₀ → (∀ tm, tm.size = fc.N → (∀ t, tm.getD t undef = (vs.toArray ++ Array.replicate (fc.N - vs.length) undef).getD t undef) → G C σ₀ loc₀ { tmps := tm, defers := [] } C.w0) →
    (∀ (l : List ResultVar), l.mapM (cRes P) = some fc.rs → ∀ (σ : St) (loc : Nat → Value) (a : Act) (w : World), G C σ loc a w → (Q .normal σ ∨ Q .ret σ) →
      ∃ us, (l.mapM fun (x : ResultVar) => (match x with | .tmp t => (pure (a.tmps.getD t undef) : Sem Value) | .cell b t => do loadVar t (← asAddr (a.tmps.getD b undef)))).run P w = .ok us w ∧ R (.returned (if h : us.toArray.size = 1 then us.toArray[0] else .tuple us.toArray)) w) →
    (∀ e σ, Q e σ → e = .normal ∨ e = .ret) → Calls P f vs.toArray C.w0 R := by
  unfold compM at hc
  split at hc
  case h_2 => cases hc
  rename_i fn hfn
  split at hc
  case h_2 => cases hc
  rename_i c hbody
  simp only [Option.bind_eq_bind, Option.bind_eq_some_iff] at hc
  obtain ⟨vc, hvc, rs, hrs, hfin⟩ := hc
  split at hfin
  case isFalse => cases hfin
  rename_i hcond
  simp only [Bool.and_eq_true, bne_iff_ne, ne_eq, decide_eq_true_eq] at hcond
  simp only [Option.some.injEq] at hfin
  subst hfin
  refine ⟨⟨fn, hfn, by rw [hbody]; rfl, hcond.1⟩, fun C Q σ₀ loc₀ vs R hP hN hmm hrd hlen hwv hg hret hQ => ?_⟩
  subst hP
  simp only at hN hlen hg hret
  have hF : C.F = Fence.wide := by unfold Ctx.F; rw [hrd]
  have hwp := hwv c (by rw [hN, hmm]; exact hvc) { tmps := vs.toArray ++ Array.replicate (fn.ntmps - vs.toArray.size) undef, defers := [] } C.w0 ⟨loc₀, hg _ (by simp; omega) (fun t => by simp)⟩
  rw [hF] at hwp
  have hfinal : ∀ σ a w, Gam C σ a w → (Q .normal σ ∨ Q .ret σ) → LeavesInM Fence.wide 0 C.P fn a.tmps R a.defers .returning w := by
    rintro σ a w ⟨loc, hg'⟩ hq
    refine leaves_of_G a.defers a w rfl hg' fun w' hg2 => ?_
    obtain ⟨us, hh, hR⟩ := hret fn.results.toList hrs σ loc _ w' hg2 hq
    refine ⟨_, ?_, hR⟩
    unfold results
    rw [Array.mapM_eq_mapM_toList]
    simp only at hh
    generalize (fn.results.toList.mapM fun (x : ResultVar) => (match x with | .tmp t => (pure (a.tmps.getD t undef) : Sem Value) | .cell b t => do loadVar t (← asAddr (a.tmps.getD b undef)))) = m at hh
    simp only [bind_pure_comp, Sem.run_map, hh, Result.andThen_ok]
  refine (callsIn_wide (n := 0)).1 (callsIn_of_wp_marks hfn hbody trivial (wpIn_mono hwp ?_))
  rintro e a' w' ⟨σ', hg', hq⟩
  rcases hQ e σ' hq with rfl | rfl
  · exact hfinal σ' a' w' hg' (.inl hq)
  · exact hfinal σ' a' w' hg' (.inr hq)

theorem tup_rep {w : World} {M : Cells} {loc : Nat → Value} : ∀ {avs : List AV} {us : List Value}, RepAs w M loc avs us → RepA w M loc (tupA avs) (if h : us.toArray.size = 1 then us.toArray[0] else .tuple us.toArray)
  | [], us, hr => by
    simp only [RepAs] at hr
    subst hr
    simp only [tupA, RepA]
    exact ⟨[], by simp, by simp [RepAs]⟩
  | [v], us, hr => by
    simp only [RepAs] at hr
    obtain ⟨u, _, rfl, h1, rfl⟩ := hr
    simpa [tupA] using h1
  | v1 :: v2 :: avs, us, hr => by
    have hl := hr.length
    simp only [tupA, RepA]
    refine ⟨us, ?_, hr⟩
    rw [dif_neg (by simp at hl ⊢; omega)]

/-- The context of a call that is lent nothing. -/
def Ctx.of (P : Program) (N : Nat) (m : List Nat) (w : World) (M : Cells) : Ctx := { P := P, N := N, m := m, w0 := w, M0 := M, X := fun _ => False, Mi := fun b o => M b o ∨ Mut (fun _ => .none) (fun _ => undef) b o, rd := none, l0 := fun _ => undef, pin := fun _ => False }

theorem Mut_none (loc : Nat → Value) (b o : Nat) : ¬ Mut (fun _ => .none) loc b o := fun ⟨n, h⟩ => Ob.has_none _ _ (Ob.has_of_mut h)

theorem G_init {P : Program} {N : Nat} {m : List Nat} {w : World} {M : Cells} {args : List AV} {vs : List Value} (hM : ∀ b o, M b o → b < w.heap.size) (hr : RepAs w M (fun _ => undef) args vs) (hn : vs.length ≤ N) {tm : Array Value} (hs : tm.size = N)
    (ht : ∀ t, tm.getD t undef = (vs.toArray ++ Array.replicate (N - vs.length) undef).getD t undef) : G (Ctx.of P N m w M) (St.init args) (fun _ => undef) { tmps := tm, defers := [] } w := by
  have hk : Keeps w w M (MM (Ctx.of P N m w M) (St.init args).own fun _ => undef) := Keeps.less fun b o h => h.elim id fun h => (Mut_none _ _ _ h).elim
  refine ⟨⟨rfl, rfl, rfl, Nat.le_refl _, fun _ _ _ => rfl⟩, fun b o h => ⟨hM b o h, fun h => h⟩, Keeps.refl _ _, fun d h => (by cases h), List.Pairwise.nil, fun n h => h.elim, hs, fun t => ?_, fun n => trivial, fun n m b _ h _ => Ob.has_none _ _ h⟩
  have := RepA.keep hk _ _ (init_slots N args vs hr t)
  rw [← ht t] at this
  exact this

/-- **A contract out of a walk.** -/
theorem FSpec_of {P : Program} {m : List Nat} {f : FuncId} {fc : FC} (hc : compM P m f = some fc) {args : List AV} {r : AV} (hn : args.length ≤ fc.np) (hnp : fc.np ≤ fc.N)
    (h : ∀ C : Ctx, C.P = P → C.N = fc.N → C.Ok → AV.lensL args → WV C fc.body (RetQ fc.rs r) (St.init args)) : FSpec P f args r := by
  obtain ⟨hcl, hb⟩ := body_call hc
  refine ⟨hcl, fun w M vs hM hr => ?_⟩
  have hlen := hr.length
  refine hb (Ctx.of P fc.N m w M) (RetQ fc.rs r) (St.init args) (fun _ => undef) vs _ rfl rfl rfl rfl (by omega) (h _ rfl rfl (fun _ h => by cases h) hr.lens) (fun tm hs ht => G_init hM hr (by omega) hs ht) (fun l₀ hl₀ σ loc a w' hg hq => ?_) (fun e σ hq => by cases e <;> first | exact .inl rfl | exact .inr rfl | exact hq.elim)
  have hret : RetOk fc.rs r σ := hq.elim id id
  unfold RetOk at hret
  split at hret
  case h_2 => exact hret.elim
  rename_i q avs hres
  obtain ⟨hq, r', hport, hle⟩ := hret
  have hbelow : RowKit.Below w.heap.size w w' := ⟨hg.fr.os, hg.fr.tape, hg.fr.output, hg.fr.size, fun k hk => hg.fr.block k hk (fun h => h)⟩
  have hk : Keeps w' w' (MM (Ctx.of P fc.N m w M) σ.own loc) M := Keeps.less fun b o h => .inl h
  obtain ⟨us, hus, hrus⟩ := resAll_sound hg l₀ fc.rs hl₀ hres hq
  exact ⟨us, hus, _, rfl, hle _ _ _ _ (RepA.keep hk _ _ (port_rep hg (tup_rep hrus) hport)), hbelow⟩
end Go.V
