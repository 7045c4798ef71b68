/-
  An abstract machine over small instructions, sound over the model; no condition.
-/
import Derived.Test.YtefoconkepmmgaaGreatDoorV2
set_option linter.unusedVariables false
set_option linter.unusedSimpArgs false
/-
 A box becomes an object that is known by its place.
-/
namespace Go.V
section
variable {C:Ctx} {σ:St}
theorem Gam_vbox {f d t:Nat} {x:AV} {v:Value} (hfd:f ≠ d) (hof:σ.own f = empO) (hod:σ.own d = .box [x]) (ht:σ.env t = .bp d 0) (hx:∀ w M loc u,RepA w M loc x u → u = v) :
  ∀ a w,Gam C σ a w → ∃ b:Nat,Gam C ⟨upd σ.env t (.c (.raw (ptrV b 0))),upd (upd σ.own d .none) f (vbox v b)⟩ a w:=by
 rintro a w ⟨loc,hg⟩
 have h1:=hg.objs d
 rw [hod] at h1
 obtain ⟨b,lv,ty,k1,k2,k3,k4⟩:=h1
 have h2:=hg.objs f
 rw [hof] at h2
 obtain ⟨_,Lg,m1,⟨_,m3⟩,m6⟩:=h2
 subst m3
 have h3:=hg.slots t
 rw [ht] at h3
 simp only [RepA] at h3
 obtain ⟨b',q1,q2⟩:=h3
 rw [k1] at q1
 simp only [Value.pointer.injEq,Option.some.injEq,Addr.mk.injEq,and_true] at q1
 subst q1
 simp only [RepAs] at k4
 obtain ⟨u,_,rfl,hu,rfl⟩:=k4
 have huv:=hx _ _ _ _ hu
 subst huv
 have hcell:w.cell? ⟨b,0,none⟩ = some u:=by rw [cell_of_row w b _ _ _ _ k3.1]; rfl
 have hbd:∀ x,(σ.own d).has (loc d) x ↔ b = x:=fun x => by rw [hod,k1]; exact Iff.rfl
 refine ⟨b,?_⟩
 obtain ⟨own',hown'⟩ : ∃ own',own' = upd (upd σ.own d .none) f (vbox u b):=⟨_,rfl⟩
 rw [← hown']
 obtain ⟨loc',hloc'⟩ : ∃ loc',loc' = upd loc f (encV [b]):=⟨_,rfl⟩
 have hf1:loc' f = encV [b]:=by rw [hloc']; simp [upd]
 have hf2:∀ n,n ≠ f → loc' n = loc n:=fun n hn => by rw [hloc']; simp [upd,hn]
 have ho1:own' f = vbox u b:=by rw [hown']; simp [upd]
 have ho2:own' d = .none:=by rw [hown']; simp [upd,Ne.symm hfd]
 have ho3:∀ n,n ≠ f → n ≠ d → own' n = σ.own n:=fun n h1 h2 => by rw [hown']; simp [upd,h1,h2]
 have hl:∀ n,(loc n).oneCell' = true → loc' n = loc n:=fun n hn => by
  by_cases e:n = f
  ·subst e; rw [m1,encV_one] at hn; cases hn
  ·exact hf2 n e
 have hhas:∀ n x,(own' n).has (loc' n) x → (n ≠ d ∧ n ≠ f ∧ (σ.own n).has (loc n) x) ∨ (n = f ∧ x = b):=by
  intro n x h
  by_cases e:n = f
  ·subst e
   rw [ho1,hf1] at h
   simp only [vbox,Ob.has,footV_encV,List.mem_singleton] at h
   exact .inr ⟨rfl,h⟩
  ·by_cases e2:n = d
   ·subst e2; rw [ho2] at h; exact (Ob.has_none _ _ h).elim
   ·rw [ho3 n e e2,hf2 n e] at h
    exact .inl ⟨e2,e,h⟩
 refine ⟨loc',hg.reown (fun n hn => hf2 n fun e => hold_nopin hg m1 (e ▸ hn)) (fun s => ?_) (fun x y hm => ?_) (fun x ⟨n,h⟩ => ?_) (fun n => ?_) (fun n m x hnm h1 h2 => ?_)⟩
 ·by_cases e:s = t
  ·subst e
   simp only [upd,if_true,RepA,RepC]
   exact ⟨q2,rfl⟩
  ·simp only [upd,e,if_false]
   exact RepA.reloc hl (hg.slots s)
 ·obtain ⟨n,h⟩:=hm
  by_cases e:n = f
  ·subst e
   rw [ho1,hf1] at h
   simp only [vbox,Ob.mut,footV_encV,List.mem_singleton] at h
   subst h
   exact ⟨d,by rw [hod,k1]; rfl⟩
  ·by_cases e2:n = d
   ·subst e2; rw [ho2] at h; exact (Ob.has_none _ _ (Ob.has_of_mut h)).elim
   ·rw [ho3 n e e2,hf2 n e] at h
    exact ⟨n,h⟩
 ·rcases hhas n x h with ⟨_,_,h'⟩ | ⟨_,rfl⟩
  ·exact ⟨n,h'⟩
  ·exact ⟨d,(hbd _).2 rfl⟩
 ·by_cases e:n = f
  ·subst e
   rw [ho1,hf1]
   refine ⟨vbG_ok _ _ _,[b],rfl,⟨rfl,rfl,hcell⟩,fun x hx => ?_⟩
   simp only [List.mem_singleton] at hx
   subst hx
   exact ⟨k3.lt,k2⟩
  ·by_cases e2:n = d
   ·subst e2; rw [ho2]; trivial
   ·rw [ho3 n e e2,hf2 n e]
    exact ObOk.reloc hl (hg.objs n)
 ·rcases hhas n x h1 with ⟨n1,n2,h1'⟩ | ⟨a1,a2⟩ <;> rcases hhas m x h2 with ⟨m1',m2',h2'⟩ | ⟨b1,b2⟩
  ·exact hg.disj n m x hnm h1' h2'
  ·exact hg.disj n d x n1 h1' ((hbd x).2 b2.symm)
  ·exact hg.disj m d x m1' h2' ((hbd x).2 a2.symm)
  ·exact hnm (a1.trans b1.symm)
variable {K:St → Prop} {is:List Ins} {Q:Exit → St → Prop}
theorem WV_vbox {c:VC} (f d t:Nat) {x:AV} {v:Value} (hfd:f ≠ d) (hof:σ.own f = empO) (hod:σ.own d = .box [x]) (ht:σ.env t = .bp d 0) (hx:∀ w M loc u,RepA w M loc x u → u = v)
  (h:∀ b:Nat,WV C c Q ⟨upd σ.env t (.c (.raw (ptrV b 0))),upd (upd σ.own d .none) f (vbox v b)⟩):WV C c Q σ :=
 WV_ex (τ:=Nat) (S:=fun b => ⟨upd σ.env t (.c (.raw (ptrV b 0))),upd (upd σ.own d .none) f (vbox v b)⟩) (p:=fun _ => True)
  (fun a w hg => by obtain ⟨b,hb⟩:=Gam_vbox hfd hof hod ht hx a w hg; exact ⟨b,trivial,hb⟩) (fun b _ => h b)
end
def fnV (f:FuncId) (cs:List Value):Value:=.func (.func f) #[] cs.toArray
theorem rep_fn0 {w:World} {M:Cells} {loc:Nat → Value} {f:FuncId} {u:Value} (h:RepA w M loc (.fn f []) u):u = fnV f []:=by
 simp only [RepA,RepAs] at h
 obtain ⟨l,rfl,rfl⟩:=h
 rfl
theorem rep_fn1 {w:World} {M:Cells} {loc:Nat → Value} {f:FuncId} {u x:Value} (h:RepA w M loc (.fn f [.c (.raw x)]) u):u = fnV f [x]:=by
 simp only [RepA,RepAs,RepC] at h
 obtain ⟨l,rfl,v,vs,rfl,⟨rfl,_⟩,rfl⟩:=h
 rfl
theorem fn0_rep (w:World) (M:Cells) (loc:Nat → Value) (f:FuncId):RepA w M loc (.fn f []) (fnV f []):=by
 simp only [RepA,RepAs]; exact ⟨[],rfl,rfl⟩
theorem fn1_rep (w:World) (M:Cells) (loc:Nat → Value) (f:FuncId) {x:Value} (hx:x.oneCell' = true):RepA w M loc (.fn f [.c (.raw x)]) (fnV f [x]):=by
 simp only [RepA,RepAs,RepC]; exact ⟨[x],rfl,x,[],rfl,⟨rfl,hx⟩,rfl⟩
theorem WV_thn {C:Ctx} {v w:VC} {Q:Exit → St → Prop} {σ:St} (R:St → Prop) (h2:WV C v (thenQ R Q) σ) (h:∀ σ',R σ' → WV C w Q σ'):WV C v (thenQ (WV C w Q) Q) σ:=h2.mono fun e σ' hq => by
 cases e
 ·exact h _ hq
 all_goals exact hq
def isI:TypeDesc → Bool
 | .interface _ => true
 | _ => false
theorem run_eqNil {P:Program} {t:TypeId} (w:World) (ht:(P.underlying t).map isI = some true):(Op.equal t .nilIface .nilIface).run P w = .ok true w:=by
 cases hu:P.underlying t with
 | none => rw [hu] at ht; cases ht
 | some D =>
  rw [hu] at ht
  simp only [Option.map_some,Option.some.injEq] at ht
  cases D <;> simp [isI] at ht
  unfold Op.equal Op.maxDepth
  rw [show (10000:Nat) = 9999 + 1 from rfl]
  unfold Op.equalIn
  simp [run_underlying hu]
theorem raw_eqN {P:Program} {σ:St} {K:St → Prop} {d:Option Nat} {t t':TypeId} {x:Operand} {x':X} (ht:(P.underlying t).map isI = some true) (hx:cX x = some x') (h1:(σ.val x').dg = true) (hv:(σ.val x').dv = .c (.raw .nilIface)) (hK:K (σ.put d (.c (.bool true)))) :
  RawI P d (.raw (.binOp .eql t x (.const .nilIface) t')) K σ:=by
 refine RawI_snd (fun C loc a w o hP ho hg => ?_) hK
 subst hP
 have rx:=vald hg hx h1
 rw [hv] at rx
 simp only [RepA,RepC] at rx
 refine ⟨.bool true,?_,by simp only [RepA,RepC]⟩
 have h2:(eqGuard .eql t x (.const .nilIface) .nilIface .nilIface).run C.P w = .ok () w:=by simp [eqGuard]
 have h3:a.eval (.const .nilIface) = .nilIface:=rfl
 simp [execOp,ho,rx.1,h3,h2,binOp,run_eqNil w ht]
attribute [go_sem] smap vbox
end Go.V
