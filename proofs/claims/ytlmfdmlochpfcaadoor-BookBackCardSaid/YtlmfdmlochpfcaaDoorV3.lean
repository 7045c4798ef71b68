/-
  An abstract machine over small instructions, sound over the model; no condition.
-/
import Derived.Test.YtlmfdmlochpfcaaDoorV2
import Derived.Laws.Externs
import Derived.Lib.Bytealg
import Derived.Lib.MakeNoZero
set_option linter.unusedVariables false
set_option linter.unusedSimpArgs false
/-
 A region step by step,with what is known of where the objects lie; calls that are lent objects at known places.
-/
namespace Go.V
def SOps (C:Ctx) (is:List Ins) (K:St → Prop) (σ:St):Prop :=
 ∀ (ops:Array Oper) (k:Nat) (Q':Exit → Act → World → Prop),(∀ σ a w,Gam C σ a w → K σ → Q' .normal a w) →
  (∀ (j:Nat) (ins:Ins),is[j]? = some ins → ∃ o,ops[k + j]? = some o ∧ INS C.P C.N ops o ins) → ∀ a w,Gam C σ a w → wpOpsIn C.F 0 C.P ops Q' (List.range' k is.length) a w
section
variable {C:Ctx} {σ σ':St} {K:St → Prop} {is js:List Ins} {i:Ins} {Q:Exit → St → Prop}
theorem SOps_ops (h:AOps C.P is K σ):SOps C is K σ:=fun _ k _ hQ hi a w hg => ops_sound hQ is k σ a w hi hg h
theorem SOps_weak (h:∀ a w,Gam C σ a w → Gam C σ' a w) (h2:SOps C is K σ'):SOps C is K σ:=fun ops k Q' hQ hi a w hg => h2 ops k Q' hQ hi a w (h a w hg)
theorem SOps_sem (h:∀ (ops:Array Oper) (o:Oper),INS C.P C.N ops o i → ∀ (Q':Exit → Act → World → Prop) (K':Act → World → Prop),(∀ σ' a' w',Gam C σ' a' w' → SOps C is K σ' → K' a' w') → ∀ a w,Gam C σ a w →
  (if Region.wanted o (yielded ops a.tmps) = true then o.wpIn C.F 0 C.P a w K' Q' else (∀ f,o.about C.P w a.eval = some f → C.F.fn f) ∧ K' (a.put o.dst undef) w)):SOps C (i :: is) K σ:=by
 intro ops k Q' hQ hi a w hg
 obtain ⟨o,ho,hins⟩:=hi 0 i rfl
 simp only [Nat.add_zero] at ho
 have:=h ops o hins Q' (wpOpsIn C.F 0 C.P ops Q' (List.range' (k + 1) is.length)) (fun σ' a' w' hg' hs => hs ops (k + 1) Q' hQ (fun j ins hj => by
  have:=hi (j + 1) ins (by simpa using hj)
  rwa [show k + (j + 1) = k + 1 + j from by omega] at this) a' w' hg') a w hg
 simp only [List.length_cons,List.range'_succ,wpOpsIn,ho]
 exact this
theorem SOps_step (h:AStep C.P i (SOps C is K) σ):SOps C (i :: is) K σ:=SOps_sem fun ops o hins Q' K' hK' a w hg => astep_sound hg hins h (fun σ' a' w' hg' hs => hK' σ' a' w' hg' hs)
theorem SOps_part:∀ {is:List Ins} {σ:St},AOps C.P is (SOps C js K) σ → SOps C (is ++ js) K σ
 | [],σ,h => h
 | i :: is,σ,h => SOps_step (AStep_mono (fun σ1 h1 => SOps_part h1) h)
theorem WV_sops (h:SOps C is (Q .normal) σ):WV C (.ops is) Q σ:=by
 intro c hc
 obtain ⟨id,ops,rfl,hi⟩:=WV_region hc
 intro a w hg
 refine wpIn_region ?_
 have hlen:=WV_region_len hc
 have:=h ops 0 (fun e a' w' => ∃ σ',Gam C σ' a' w' ∧ Q e σ') (fun σ a w hg hk => ⟨σ,hg,hk⟩) (fun j ins hj => by simpa using hi j ins hj) a w hg
 rw [List.range_eq_range']
 rwa [hlen] at this
theorem WV_split (n:Nat) (h:AOps C.P (is.take n) (SOps C (is.drop n) (Q .normal)) σ):WV C (.ops is) Q σ:=by
 have:=SOps_part h
 rw [List.take_append_drop] at this
 exact WV_sops this
theorem SOps_nil (h:K σ):SOps C [] K σ:=SOps_ops h
def ptrV (b o:Nat):Value:=.pointer (some ⟨b,o,none⟩)
theorem Gam_raw {n o b t:Nat} (hp:C.pin n) (hl:C.l0 n = ptrV b 0) (ht:σ.env t = .bp n o):∀ a w,Gam C σ a w → Gam C ⟨upd σ.env t (.c (.raw (ptrV b o))),σ.own⟩ a w:=by
 rintro a w ⟨loc,hg⟩
 refine ⟨loc,hg.fr,hg.m0,hg.kp,hg.marks,hg.mnd,hg.pin,hg.size,fun s => ?_,hg.objs,hg.disj⟩
 by_cases hs:s = t
 ·subst hs
  have:=hg.slots s
  rw [ht] at this
  simp only [RepA] at this
  obtain ⟨b',h1,h2⟩:=this
  have h3:=(hg.pin n hp).2.1
  rw [hl,h1] at h3
  simp only [ptrV,Value.pointer.injEq,Option.some.injEq,Addr.mk.injEq,and_true] at h3
  subst h3
  simp only [upd,if_true,RepA,RepC]
  exact ⟨h2,rfl⟩
 ·simp only [upd,if_neg hs]
  exact hg.slots s
theorem Gam_unraw {n o b t:Nat} (hp:C.pin n) (hl:C.l0 n = ptrV b 0) (ht:σ.env t = .c (.raw (ptrV b o))):∀ a w,Gam C σ a w → Gam C ⟨upd σ.env t (.bp n o),σ.own⟩ a w:=by
 rintro a w ⟨loc,hg⟩
 refine ⟨loc,hg.fr,hg.m0,hg.kp,hg.marks,hg.mnd,hg.pin,hg.size,fun s => ?_,hg.objs,hg.disj⟩
 by_cases hs:s = t
 ·subst hs
  have:=hg.slots s
  rw [ht] at this
  simp only [RepA,RepC] at this
  simp only [upd,if_true,RepA]
  exact ⟨b,by rw [(hg.pin n hp).2.1,hl]; rfl,this.1⟩
 ·simp only [upd,if_neg hs]
  exact hg.slots s
theorem SOps_raw (n o b t:Nat) (hp:C.pin n) (hl:C.l0 n = ptrV b 0) (ht:σ.env t = .bp n o) (h:SOps C is K ⟨upd σ.env t (.c (.raw (ptrV b o))),σ.own⟩):SOps C is K σ:=SOps_weak (Gam_raw hp hl ht) h
theorem WV_unraw {v:VC} (n o b t:Nat) (hp:C.pin n) (hl:C.l0 n = ptrV b 0) (ht:σ.env t = .c (.raw (ptrV b o))) (h:WV C v Q ⟨upd σ.env t (.bp n o),σ.own⟩):WV C v Q σ:=WV_weak (Gam_unraw hp hl ht) h
def FSpecB (P:Program) (f:FuncId) (bs:Nat → Nat) (args:List AV) (l:List Ob) (Post:AV → List Ob → Prop):Prop :=
 callable P f ∧ l.length ≤ 1000 ∧ ∀ (w:World) (M:Cells) (loc:Nat → Value) (vs:List Value),(∀ i,i < l.length → loc (1000 + i) = ptrV (bs i) 0) → (∀ b o,M b o → b < w.heap.size ∧ ¬ Foot (ownW l []) loc b) → LentOk P w M loc (ownW l []) → RepAs w (AddM M (ownW l []) loc) loc args vs →
  Calls P f vs.toArray w fun e w' => ∃ v r l' loc',e = .returned v ∧ Post r l' ∧ l'.length = l.length ∧ Fx w w' (Foot (ownL 1000 l) loc) ∧ Keeps w w' (AddM M (ownW l []) loc) (AddM M (ownW l' []) loc') ∧ LentOk P w' M loc' (ownW l' []) ∧
   (∀ n b,(ownL 1000 l' n).has (loc' n) b → Foot (ownL 1000 l) loc b ∨ w.heap.size ≤ b) ∧ (∀ n,(ownW l [] n).isPlace = true → (ownW l' [] n).isPlace = true ∧ loc' n = loc n) ∧ RepA w' (AddM M (ownW l' []) loc') loc' r v
def AtP (C:Ctx) (bs:Nat → Nat) (n:Nat):Prop:=∀ i,i < n → C.pin (1000 + i) ∧ C.l0 (1000 + i) = ptrV (bs i) 0
def Ob.isBx:Ob → Bool
 | .box _ => true
 | _ => false
theorem FSpecB_of {P:Program} {m:List Nat} {f:FuncId} {fc:FC} (hc:compM P m f = some fc) {bs:Nat → Nat} {args:List AV} {l:List Ob} {Post:AV → List Ob → Prop} (hbx:l.all Ob.isBx = true) (hl:l.length ≤ 1000) (hn:args.length ≤ fc.np) (hnp:fc.np ≤ fc.N) (hN:fc.N ≤ 1000)
  (h:∀ C:Ctx,C.P = P → C.N = fc.N → C.Ok → AtP C bs l.length → AV.lensL args → WV C fc.body (RetQL fc.rs l [] Post) ⟨fun t => args.getD t .non,ownW l []⟩):FSpecB P f bs args l Post:=by
 obtain ⟨hcl,hb⟩:=body_call hc
 refine ⟨hcl,hl,fun w M loc vs hbs hM hok hr => ?_⟩
 have hlen:=hr.length
 refine hb (Ctx.lentC P fc.N m w M l [] loc none) (RetQL fc.rs l [] Post) _ loc vs _ rfl rfl rfl rfl (by omega) (h _ rfl rfl (fun _ h => by cases h) (fun i hi => ⟨?_,hbs i hi⟩) hr.lens) (fun tm hs ht => G_initL hl hN hM hok hs (fun t => by rw [ht t]; exact init_slots fc.N args vs hr t)) (fun l₀ hl₀ σ loc' a w' hg hq => ?_) (fun e σ hq => by cases e <;> first | exact .inl rfl | exact .inr rfl | exact hq.elim)
 ·show (ownW l [] (1000 + i)).isPlace = true
  rw [ownW_small (by omega),ownL_some hi]
  have:=List.all_eq_true.1 hbx (l.getD i .none) (by rw [List.getD_eq_getElem?_getD,List.getElem?_eq_getElem hi]; exact List.getElem_mem hi)
  cases hx:l.getD i .none <;> rw [hx] at this <;> first | rfl | cases this
 have hret:RetOkL fc.rs l [] Post σ:=hq.elim id id
 unfold RetOkL at hret
 split at hret
 case h_2 => exact hret.elim
 rename_i q avs hres
 obtain ⟨hq,r,l',hkr,hkl,hpost⟩:=hret
 obtain ⟨us,hus,hrus⟩:=resAll_sound hg l₀ fc.rs hl₀ hres hq
 obtain ⟨k1,k2,k3,k4,k5,k6⟩:=lentC_end hl rfl rfl rfl rfl rfl hg hkl
 exact ⟨us,hus,_,r,l',loc',rfl,hpost,hkl.len,k1,k2,k3,k4,k5,k6 _ _ _ hkr (tup_rep hrus)⟩
theorem FSpecL_ofB {P:Program} {f:FuncId} {args:List AV} {l:List Ob} {Post:AV → List Ob → Prop} (hbx:l.all Ob.isBx = true) (h:∀ bs,FSpecB P f bs args l Post):FSpecL P f args l [] Post:=by
 refine ⟨(h fun _ => 0).1,(h fun _ => 0).2.1,fun w M loc vs hM hok hr => ?_⟩
 have hb:∀ i,i < l.length → ∃ b,loc (1000 + i) = ptrV b 0:=by
  intro i hi
  have h1:=hok.objs (1000 + i)
  have hi1:=(h fun _ => 0).2.1
  rw [ownW_small (by omega),ownL_some hi] at h1
  have:=List.all_eq_true.1 hbx (l.getD i .none) (by rw [List.getD_eq_getElem?_getD,List.getElem?_eq_getElem hi]; exact List.getElem_mem hi)
  cases hx:l.getD i .none <;> rw [hx] at this h1 <;> first | (cases this; done) | skip
  obtain ⟨b,_,_,h2,_⟩:=h1
  exact ⟨b,h2⟩
 obtain ⟨bs,hbs⟩ : ∃ bs:Nat → Nat,∀ i,i < l.length → loc (1000 + i) = ptrV (bs i) 0:=by
  refine ⟨fun i => match loc (1000 + i) with | .pointer (some a) => a.block | _ => 0,fun i hi => ?_⟩
  obtain ⟨b,h1⟩:=hb i hi
  show loc (1000 + i) = ptrV (match loc (1000 + i) with | .pointer (some a) => a.block | _ => 0) 0
  rw [h1]; rfl
 exact (h bs).2.2 w M loc vs hbs hM hok hr
theorem ins_call {ops:Array Oper} {o:Oper} {d:Option Nat} {f:X} {xs:List X} {s:Bool} (h:INS C.P C.N ops o ⟨d,.call f xs,none,s⟩):cI C.P o.op = some (.call f xs) ∧ o.dst = d ∧ o.dst.all (· < C.N) = true ∧ o.guard = none:=by
 obtain ⟨s',ii,hc,hv⟩:=h
 have hii:ii = .call f xs:=by
  rcases hv with hv | ⟨_,_,_,_,_,_,hv⟩ | ⟨_,_,_,_,hv⟩ | ⟨_,_,_,_,hv⟩ | ⟨_,_,_,hv⟩
  ·exact hv.symm
  ·cases hv
  ·cases hv
  ·cases hv
  ·cases hv
 subst hii
 unfold cOp at hc
 split at hc
 ·rename_i ins g hi hgd
  split at hc
  ·rename_i hd
   simp only [Option.some.injEq,Ins.mk.injEq] at hc
   obtain ⟨rfl,rfl,rfl,_⟩:=hc
   refine ⟨hi,rfl,hd,?_⟩
   unfold cGuard at hgd
   cases hog:o.guard with
   | none => rfl
   | some jw =>
    rw [hog] at hgd
    obtain ⟨j,want⟩:=jw
    simp only at hgd
    split at hgd
    ·cases hgd
    ·cases hgd
  ·cases hc
 ·cases hc
theorem SOps_callB {d:Option Nat} {f:X} {xs:List X} {s:Bool} {fid:FuncId} {caps args:List AV} {L:List Nat} {l:List Ob} {bs:Nat → Nat} {Post:AV → List Ob → Prop}
  (hs:FSpecB C.P fid bs args l Post) (hfd:(σ.val f).dg = true) (hxd:(xs.all fun x => (σ.val x).dg) = true) (hf:(σ.val f).dv = .fn fid caps) (hL:L.Nodup) (hp:AV.lendL 1000 L σ.own (xs.map (fun x => (σ.val x).dv) ++ caps) = some args) (hl:obsLend L σ.own L = some l)
  (hbs:∀ i n,L[i]? = some n → C.pin n ∧ C.l0 n = ptrV (bs i) 0)
  (hpost:∀ r l',Post r l' → ∃ r' os,r.back L = some r' ∧ obsBack L l' = some os ∧ SOps C is K (St.put ⟨prgEs (growsOf σ.own L) σ.env,ownBack (prgOs (growsOf σ.own L) σ.own) L os⟩ d r')):SOps C (⟨d,.call f xs,none,s⟩ :: is) K σ:=by
 refine SOps_sem fun ops o hins Q' K' hK a w hg => ?_
 obtain ⟨hc,rfl,hd,hog⟩:=ins_call hins
 rw [if_pos (by simp [Region.wanted,hog])]
 obtain ⟨loc,hg⟩:=hg
 obtain ⟨hcl,hlen,hs⟩:=hs
 obtain ⟨s1,s2,s3,s4,s5,s6⟩:=lent_start hg hL hlen hl
 have hll:=(obsLend_get hl).1
 refine wpIn_callF hg hc hfd hxd hf hcl (fun vs hvs => hs w (McL C σ loc L) (locL 1000 loc L) vs (fun i hi => ?_) (fun b k hm => s1 b k hm) s3 (RepAs.keep (Keeps.less s2) _ _ (lends_rep hg hvs hp))) fun e w' h => ?_
 ·have h1:L[i]? = some (L[i]'(by omega)):=List.getElem?_eq_getElem _
  rw [locL_at h1]
  obtain ⟨k1,k2⟩:=hbs i _ h1
  rw [(hg.pin _ k1).2.1,k2]
 obtain ⟨v,r,l',loc',rfl,hP,hll,fx,kp,ok,has,plc,hr⟩:=h
 obtain ⟨r',os,hb,hbk,hk'⟩:=hpost r l' hP
 obtain ⟨loc'',hg',hre⟩:=lent_end hg hL hlen hl hll fx kp ok has (fun n hn => (plc n hn).2) hbk
 exact ⟨v,rfl,hK _ _ _ ⟨loc'',hg'.put hd (hre r r' v hb hr)⟩ hk'⟩
theorem SOps_callP {d:Option Nat} {f:X} {xs:List X} {s:Bool} (h:ACallP C d f xs (SOps C is K) σ):SOps C (⟨d,.call f xs,none,s⟩ :: is) K σ:=by
 refine SOps_sem fun ops o hins Q' K' hK a w hg => ?_
 obtain ⟨hc,rfl,hd,hog⟩:=ins_call hins
 rw [if_pos (by simp [Region.wanted,hog])]
 obtain ⟨loc,hg⟩:=hg
 exact call_newP hg hc hd h fun σ' a' w' hg' hs => hK σ' a' w' hg' hs
open Classical in
theorem WV_pin {v:VC} (S:Nat → Prop) (h1:∀ n,S n → 1000 ≤ n ∧ C.N ≤ n ∧ (σ.own n).isBx = true) (h:∀ C':Ctx,C'.P = C.P → C'.N = C.N → C'.m = C.m → (C.Ok → C'.Ok) → (∀ b,C'.X b ↔ C.X b) → (∀ n,C.pin n → C'.pin n ∧ C'.l0 n = C.l0 n) → (∀ n,S n → C'.pin n ∧ ∃ b,C'.l0 n = ptrV b 0) → WV C' v Q σ):WV C v Q σ:=by
 intro c hc a w hg
 obtain ⟨loc,hg⟩:=hg
 have hS:∀ n,S n → ∃ b,loc n = ptrV b 0:=by
  intro n hn
  have h2:=hg.objs n
  have:=(h1 n hn).2.2
  cases hx:σ.own n <;> rw [hx] at this h2 <;> first | (cases this; done) | skip
  obtain ⟨b,_,_,h3,_⟩:=h2
  exact ⟨b,h3⟩
 obtain ⟨C',hC'⟩ : ∃ C':Ctx,C' = { C with pin:=fun n => C.pin n ∨ S n,l0:=fun n => if S n then loc n else C.l0 n }:=⟨_,rfl⟩
 have hl0:∀ n,C.pin n → C'.l0 n = C.l0 n:=by
  intro n hn
  rw [hC']
  simp only
  split
  ·exact (hg.pin n hn).2.1
  ·rfl
 have hgC:G C' σ loc a w:=by
  subst hC'
  refine ⟨⟨hg.fr.os,hg.fr.tape,hg.fr.output,hg.fr.size,hg.fr.block⟩,hg.m0,hg.kp,hg.marks,hg.mnd,fun n hn => ?_,hg.size,hg.slots,hg.objs,hg.disj⟩
  simp only
  by_cases hs:S n
  ·rw [if_pos hs]
   obtain ⟨k1,k2,_⟩:=h1 n hs
   obtain ⟨b,hb⟩:=hS n hs
   exact ⟨⟨k2,k1⟩,rfl,by rw [hb]; rfl⟩
  ·rw [if_neg hs]
   rcases hn with hn | hn
   ·exact hg.pin n hn
   ·exact (hs hn).elim
 have hw:=h C' (by rw [hC']) (by rw [hC']) (by rw [hC']) (fun hok => by rw [hC']; exact hok) (fun b => by rw [hC']) (fun n hn => ⟨by rw [hC']; exact .inl hn,hl0 n hn⟩) (fun n hn => ⟨by rw [hC']; exact .inr hn,by
  obtain ⟨b,hb⟩:=hS n hn
  refine ⟨b,?_⟩
  rw [hC']
  simp only
  rw [if_pos hn,hb]⟩) c (by rw [hC']; exact hc) a w ⟨loc,hgC⟩
 have hback:∀ σ' loc' a' w',G C' σ' loc' a' w' → G C σ' loc' a' w':=by
  intro σ' loc' a' w' hg'
  subst hC'
  refine ⟨⟨hg'.fr.os,hg'.fr.tape,hg'.fr.output,hg'.fr.size,hg'.fr.block⟩,hg'.m0,hg'.kp,hg'.marks,hg'.mnd,fun n hn => ?_,hg'.size,hg'.slots,hg'.objs,hg'.disj⟩
  obtain ⟨p1,p2,p3⟩:=hg'.pin n (.inl hn)
  have e:=hl0 n hn
  exact ⟨p1,p2.trans e,by rw [e] at p3; exact p3⟩
 have hF:C'.F = C.F:=by rw [hC']; rfl
 have hP:C'.P = C.P:=by rw [hC']
 rw [hF,hP] at hw
 refine wpIn_mono hw ?_
 rintro e a' w' ⟨σ',⟨loc',hg'⟩,hq⟩
 exact ⟨σ',⟨loc',hback _ _ _ _ hg'⟩,hq⟩
end
end Go.V

/-
 A slice of slices that is lent with its rows: object 1000,and the rows from 1001 on.
-/
namespace Go.V
section
variable {α:Type} {cds:α → List CD} {R R':List (Row α)} {j m:Nat} {o:Nat → Ob}
def gridOb (m:Nat) (R:List (Row α)) (j:Nat):Ob:=.box (refs 1001 m 0 R ++ List.replicate j .non)
def gridL (cds:α → List CD) (m:Nat) (R:List (Row α)) (j:Nat):List Ob:=gridOb m R j :: R.map (Row.ob cds)
def gown (cds:α → List CD) (m:Nat) (R:List (Row α)) (j:Nat) (o:Nat → Ob):Nat → Ob:=fam 1001 cds R (upd o 1000 (gridOb m R j))
theorem gridL_len:(gridL cds m R j).length = R.length + 1:=by simp [gridL]
theorem gridL_bx:(gridL cds m R j).all Ob.isBx = true:=by
 rw [List.all_eq_true]
 intro x hx
 simp only [gridL,List.mem_cons,List.mem_map] at hx
 rcases hx with rfl | ⟨r,_,rfl⟩ <;> rfl
theorem gridL_get {i:Nat} (h:i < R.length):(gridL cds m R j).getD (i + 1) .none = (R[i]).ob cds:=by
 simp [gridL,List.getElem?_eq_getElem h]
theorem gown_lo {n:Nat} (h:n < 1000):gown cds m R j o n = o n:=by
 unfold gown
 rw [fam_lo (by omega)]
 simp only [upd]
 rw [if_neg (by omega)]
theorem gown_grid:gown cds m R j o 1000 = gridOb m R j:=by
 unfold gown
 rw [fam_lo (by omega)]
 simp [upd]
theorem gown_row {i:Nat} (h:i < R.length):gown cds m R j o (i + 1001) = (R[i]).ob cds:=by
 unfold gown
 exact fam_at h
theorem gown_hi {n:Nat} (h:R.length + 1001 ≤ n):gown cds m R j o n = o n:=by
 unfold gown
 rw [fam_hi h]
 simp only [upd]
 rw [if_neg (by omega)]
theorem gown_upd {t:Nat} (h:t < 1000) (v:Ob):upd (gown cds m R j o) t v = gown cds m R j (upd o t v):=by
 unfold gown
 rw [fam_upd (by omega)]
 congr 1
 funext n
 simp only [upd]
 split
 ·rw [if_neg (by omega)]
 ·rfl
theorem ownW_grid (h:R.length + 1 ≤ 1000):ownW (gridL cds m R j) [] = gown cds m R j o0:=by
 funext n
 rcases ownW_eq (l:=gridL cds m R j) (wl:=[]) (by rw [gridL_len]; exact h) n with ⟨i,h1,rfl,h3,_⟩ | ⟨_,h1,_⟩ | ⟨h3,h4⟩
 ·rw [h3]
  rw [gridL_len] at h1
  match i,h1 with
  | 0,_ => rw [show 1000 + 0 = 1000 from rfl,gown_grid]; rfl
  | i + 1,h1 => rw [gridL_get (by omega),show 1000 + (i + 1) = i + 1001 from by omega,gown_row (by omega)]
 ·simp at h1
 ·rw [h3]
  by_cases hn:n < 1000
  ·rw [gown_lo hn]; rfl
  ·by_cases hn2:n < R.length + 1001
   ·have:=ownL_some (l:=gridL cds m R j) (i:=n - 1000) (by rw [gridL_len]; omega)
    rw [show 1000 + (n - 1000) = n from by omega,h4] at this
    match h5:n - 1000,this with
    | 0,this => simp [gridL,gridOb] at this
    | i + 1,this =>
     rw [gridL_get (by omega)] at this
     simp [Row.ob] at this
   ·rw [gown_hi (by omega)]; rfl
theorem prgO_gown {d:Nat} (h:d < 1000):prgO d (gown cds m R j o) = gown cds m R j (prgO d o):=by
 unfold gown
 rw [prgO_fam]
 congr 1
 funext n
 simp only [prgO,upd]
 split
 ·have hnon:∀ j:Nat,AV.prgL d (List.replicate j .non) = List.replicate j .non:=by
   intro j; induction j with
   | zero => rfl
   | succ j ih => simp only [List.replicate_succ,AV.prgL,AV.prg,ih]
  have happ:∀ a b:List AV,AV.prgL d (a ++ b) = AV.prgL d a ++ AV.prgL d b:=by
   intro a b; induction a with
   | nil => rfl
   | cons x a ih => simp only [List.cons_append,AV.prgL,ih]
  simp only [gridOb,Ob.prg,happ,refs_prg (show d < 1001 by omega),hnon]
 ·rfl
theorem rnO_gown {d n:Nat} (hd:d < 1000) (hn:n < 1000):rnO d n (gown cds m R j o) = gown cds m R j (rnO d n o):=by
 have hP:rnP d n (gown cds m R j o) = gown cds m R j (rnP d n o):=by
  unfold gown
  rw [rnP_fam]
  congr 1
  funext k
  simp only [rnP_app',upd]
  split
  ·have hnon:∀ j:Nat,AV.rnL d n (List.replicate j .non) = List.replicate j .non:=by
    intro j; induction j with
    | zero => rfl
    | succ j ih => simp only [List.replicate_succ,AV.rnL,AV.rn,ih]
   have happ:∀ a b:List AV,AV.rnL d n (a ++ b) = AV.rnL d n a ++ AV.rnL d n b:=by
    intro a b; induction a with
    | nil => rfl
    | cons x a ih => simp only [List.cons_append,AV.rnL,ih]
   have hr:∀ (S:List (Row α)) (k:Nat),AV.rnL d n (refs 1001 m k S) = refs 1001 m k S:=by
    intro S
    induction S with
    | nil => intro k; rfl
    | cons r S ih =>
     intro k
     have e1:¬ k + 1001 = d:=by omega
     have e2:¬ k + 1001 = n:=by omega
     simp only [refs,AV.rnL,AV.rn,if_neg e1,if_neg e2,ih]
   simp only [gridOb,Ob.rn,happ,hr,hnon]
  ·rfl
 unfold rnO
 rw [hP,gown_lo hd,gown_upd hn,gown_upd hd]
theorem ObLe_gown {f g:Nat → Ob} (h:ObjLe f g):ObjLe (gown cds m R j f) (gown cds m R j g):=by
 unfold gown
 refine ObjLe_fam fun n => ?_
 simp only [upd]
 split
 ·exact .inl rfl
 ·exact h n
def gnum (n:Nat):List Nat:=[1000] ++ rng 1001 n
theorem gnum_nodup (n:Nat):(gnum n).Nodup:=nodup_rng (by simp) (by simp)
theorem gnum_get {n i:Nat} (h:i < n + 1):(gnum n)[i]? = some (1000 + i):=by
 match i,h with
 | 0,_ => rfl
 | i + 1,h =>
  unfold gnum
  rw [List.getElem?_append_right (by simp)]
  simp only [List.length_singleton,Nat.add_sub_cancel]
  rw [rng_get? (by omega)]
  congr 1; omega
theorem gnum_len (n:Nat):(gnum n).length = n + 1:=by simp [gnum,rng_len]
theorem obsLend_grid (hf:R.length + 1 ≤ 1000):obsLend (gnum R.length) (gown cds m R j o) (gnum R.length) = some (gridL cds m R j):=by
 have h1:obsLend (gnum R.length) (gown cds m R j o) [1000] = some [gridOb m R j]:=by
  simp only [obsLend,gown_grid,gridOb,Ob.lend]
  have happ:∀ a b:List AV,∀ x y,AV.lendL 1000 (gnum R.length) (gown cds m R j o) a = some x → AV.lendL 1000 (gnum R.length) (gown cds m R j o) b = some y → AV.lendL 1000 (gnum R.length) (gown cds m R j o) (a ++ b) = some (x ++ y):=by
   intro a
   induction a with
   | nil => intro b x y h1 h2; simp only [AV.lendL,Option.some.injEq] at h1; subst h1; simpa using h2
   | cons a as ih =>
    intro b x y h1 h2
    simp only [AV.lendL] at h1
    split at h1
    ·rename_i u us e1 e2
     simp only [Option.some.injEq] at h1
     subst h1
     simp only [List.cons_append,AV.lendL,e1,ih b us y e2 h2]
    ·cases h1
  have hnon:∀ k:Nat,AV.lendL 1000 (gnum R.length) (gown cds m R j o) (List.replicate k .non) = some (List.replicate k .non):=by
   intro k; induction k with
   | zero => rfl
   | succ k ih => simp only [List.replicate_succ,AV.lendL,AV.lend,ih]
  have hr:=refs_lend (b:=1001) (sz:=m) (m:=R.length) (L:=[1000]) (by simp) (gown cds m R j o) 1000 R 0 (by omega)
  rw [happ _ _ _ _ hr (hnon j)]
  rfl
 have h2:obsLend (gnum R.length) (gown cds m R j o) (rng 1001 R.length) = some (R.map (Row.ob cds)):=obsLend_fam fun i h => gown_row h
 exact obsLend_append h1 h2
theorem obsBack_grid:obsBack (gnum R.length) (gridL cds m R j) = some (gridL cds m R j):=by
 unfold gridL
 simp only [obsBack,obsBack_rows,gridOb,Ob.back]
 have happ:∀ a b:List AV,∀ x y,AV.backL (gnum R.length) a = some x → AV.backL (gnum R.length) b = some y → AV.backL (gnum R.length) (a ++ b) = some (x ++ y):=by
  intro a
  induction a with
  | nil => intro b x y h1 h2; simp only [AV.backL,Option.some.injEq] at h1; subst h1; simpa using h2
  | cons a as ih =>
   intro b x y h1 h2
   simp only [AV.backL] at h1
   split at h1
   ·rename_i u us e1 e2
    simp only [Option.some.injEq] at h1
    subst h1
    simp only [List.cons_append,AV.backL,e1,ih b us y e2 h2]
   ·cases h1
 have hnon:∀ k:Nat,AV.backL (gnum R.length) (List.replicate k .non) = some (List.replicate k .non):=by
  intro k; induction k with
  | zero => rfl
  | succ k ih => simp only [List.replicate_succ,AV.backL,AV.back,ih]
 have hr:=refs_back (b:=1001) (sz:=m) (m:=R.length) (L:=[1000]) (by omega) R 0 (by omega)
 have e:AV.backL (gnum R.length) (refs 1001 m 0 R) = some (refs 1001 m 0 R):=hr
 rw [happ _ _ _ _ e (hnon j)]
 rfl
theorem ownBack_grid (hl:R'.length = R.length):ownBack (gown cds m R j o) (gnum R.length) (gridL cds m R' j) = gown cds m R' j o:=by
 have e:ownBack (gown cds m R j o) (rng 1001 R.length) (R'.map (Row.ob cds)) = fam 1001 cds R' (gown cds m R j o):=by rw [← hl]; exact ownBack_fam
 show upd (ownBack (gown cds m R j o) (rng 1001 R.length) (R'.map (Row.ob cds))) 1000 (gridOb m R' j) = _
 rw [e]
 funext n
 simp only [upd]
 split
 ·rename_i h; subst h; rw [gown_grid]
 ·rename_i h
  by_cases h1:n < 1000
  ·rw [fam_lo (by omega),gown_lo h1,gown_lo h1]
  ·by_cases h2:n < R.length + 1001
   ·obtain ⟨i,rfl⟩ : ∃ i,n = i + 1001:=⟨n - 1001,by omega⟩
    rw [fam_at (by omega),gown_row (by omega)]
   ·rw [fam_hi (by omega),gown_hi (by omega),gown_hi (by omega)]
theorem growsOf_grid:growsOf (gown cds m R j o) (gnum R.length) = []:=by
 have:∀ L:List Nat,(∀ n ∈ L,(gown cds m R j o n).isGrow = false) → growsOf (gown cds m R j o) L = []:=by
  intro L
  induction L with
  | nil => intro _; rfl
  | cons n L ih => intro h; simp only [growsOf,h n (by simp),Bool.false_eq_true,if_false]; exact ih fun k hk => h k (by simp [hk])
 refine this _ fun n hn => ?_
 simp only [gnum,List.mem_append,List.mem_singleton] at hn
 rcases hn with rfl | hn
 ·rw [gown_grid]; rfl
 ·have:=rng_mem hn
  obtain ⟨i,rfl⟩ : ∃ i,n = i + 1001:=⟨n - 1001,by omega⟩
  rw [gown_row (by omega)]; rfl
theorem KeepL_grid {env:Nat → AV} (hl:R'.length = R.length) (h1:R.length + 1 ≤ 1000):KeepL (gridL cds m R j) [] ⟨env,gown cds m R' j o⟩ (gridL cds m R' j):=by
 refine ⟨by rw [gridL_len,gridL_len,hl],?_,fun i hi => ?_,fun k hk => by simp at hk,fun i hi _ => ?_⟩
 ·rw [List.all_eq_true]
  intro x hx
  have:=List.all_eq_true.1 (gridL_bx (cds:=cds) (m:=m) (R:=R') (j:=j)) x hx
  cases x <;> first | rfl | cases this
 ·rw [gridL_len] at hi
  match i,hi with
  | 0,_ =>
   show (gown cds m R' j o 1000).keepP _ = some (gridOb m R' j)
   rw [gown_grid]
   have happ:∀ a b:List AV,AV.keepPL (gown cds m R' j o) a = some a → AV.keepPL (gown cds m R' j o) b = some b → AV.keepPL (gown cds m R' j o) (a ++ b) = some (a ++ b):=by
    intro a
    induction a with
    | nil => intro b _ h2; simpa using h2
    | cons a as ih =>
     intro b h1 h2
     simp only [AV.keepPL] at h1
     split at h1
     ·rename_i u us e1 e2
      simp only [Option.some.injEq,List.cons.injEq] at h1
      obtain ⟨rfl,rfl⟩:=h1
      simp only [List.cons_append,AV.keepPL,e1,ih b e2 h2]
     ·cases h1
   have hnon:∀ k:Nat,AV.keepPL (gown cds m R' j o) (List.replicate k .non) = some (List.replicate k .non):=by
    intro k; induction k with
    | zero => rfl
    | succ k ih => simp only [List.replicate_succ,AV.keepPL,AV.keepP,ih]
   have hr:∀ (S:List (Row α)) (k:Nat),AV.keepPL (gown cds m R' j o) (refs 1001 m k S) = some (refs 1001 m k S):=by
    intro S
    induction S with
    | nil => intro k; rfl
    | cons r S ih => intro k; simp only [refs,AV.keepPL,AV.keepP,ih]; rw [if_pos (by omega)]
   simp only [gridOb,Ob.keepP,happ _ _ (hr R' 0) (hnon j),Option.map_some]
  | i + 1,hi =>
   show (gown cds m R' j o (1000 + (i + 1))).keepP _ = _
   rw [show 1000 + (i + 1) = i + 1001 from by omega,gown_row (by omega),gridL_get (by omega)]
   simp only [Row.ob,Ob.keepP]
   have hc:∀ (l:List CD) (k:Nat),AV.keepPL (gown cds m R' j o) (l.map .c ++ List.replicate k .non) = some (l.map .c ++ List.replicate k .non):=by
    intro l k
    induction l with
    | nil =>
     simp only [List.map_nil,List.nil_append]
     induction k with
     | zero => rfl
     | succ k ih => simp only [List.replicate_succ,AV.keepPL,AV.keepP,ih]
    | cons x l ih => simp only [List.map_cons,List.cons_append,AV.keepPL,AV.keepP,ih]
   unfold cellsG
   rw [hc]; rfl
 ·rw [gridL_len] at hi
  match i,hi with
  | 0,_ => rfl
  | i + 1,hi => rw [gridL_get (by omega)]; rfl
theorem SOps_grid {P:Program} {C:Ctx} {d:Option Nat} {f:X} {xs:List X} {s:Bool} {is:List Ins} {K:St → Prop} {env:Nat → AV} {fid:FuncId} {caps args:List AV} {bs:Nat → Nat} {Post:AV → List Ob → Prop}
  (hPe:C.P = P) (hs:FSpecB P fid bs args (gridL cds m R j) Post) (hat:AtP C bs (R.length + 1)) (hfd:(St.val ⟨env,gown cds m R j o⟩ f).dg = true) (hxd:(xs.all fun x => (St.val ⟨env,gown cds m R j o⟩ x).dg) = true) (hf:(St.val ⟨env,gown cds m R j o⟩ f).dv = .fn fid caps)
  (hp:AV.lendL 1000 (gnum R.length) (gown cds m R j o) (xs.map (fun x => (St.val ⟨env,gown cds m R j o⟩ x).dv) ++ caps) = some args)
  (hpost:∀ r l',Post r l' → ∃ R',R'.length = R.length ∧ l' = gridL cds m R' j ∧ r.pureB = true ∧ SOps C is K (St.put ⟨env,gown cds m R' j o⟩ d r)):SOps C (⟨d,.call f xs,none,s⟩ :: is) K ⟨env,gown cds m R j o⟩:=by
 subst hPe
 have hlen:R.length + 1 ≤ 1000:=by have:=hs.2.1; rwa [gridL_len] at this
 refine SOps_callB hs hfd hxd hf (gnum_nodup _) hp (obsLend_grid hlen) (fun i n hi => ?_) fun r l' hP => ?_
 ·have hlt:i < R.length + 1:=by
   have:=(List.getElem?_eq_some_iff.1 hi).1
   rwa [gnum_len] at this
  rw [gnum_get hlt] at hi
  simp only [Option.some.injEq] at hi
  subst hi
  exact hat i hlt
 ·obtain ⟨R',h1,rfl,h2,h3⟩:=hpost r l' hP
  refine ⟨r,gridL cds m R' j,back_pure h2,by rw [← h1]; exact obsBack_grid,?_⟩
  show SOps C is K (St.put ⟨prgEs (growsOf (gown cds m R j o) (gnum R.length)) env,ownBack (prgOs (growsOf (gown cds m R j o) (gnum R.length)) (gown cds m R j o)) (gnum R.length) (gridL cds m R' j)⟩ d r)
  rw [growsOf_grid]
  simp only [prgEs,prgOs]
  rw [ownBack_grid h1]
  exact h3
theorem lend_grid {f:Nat → Ob} {n off len cap sz:Nat}:AV.lend 1000 (gnum n) f (.vw sz 1000 off len cap) = some (.vw sz 1000 off len cap):=by
 simp only [AV.lend]
 rw [if_pos (by simp [gnum])]
 simp [gnum]
end
end Go.V

/-
 A range over a function that has captured objects of its own; objects that stand for those to come.
-/
namespace Go.V
mutual
theorem back_more {L:List Nat} (L2:List Nat):∀ {x y:AV},x.back L = some y → x.back (L ++ L2) = some y
 | .c d,y,h => h
 | .non,y,h => h
 | .opt g x,y,h => by
  simp only [AV.back,Option.map_eq_some_iff] at h ⊢
  obtain ⟨z,h,rfl⟩:=h
  exact ⟨z,back_more L2 h,rfl⟩
 | .bp n off,y,h => by
  simp only [AV.back] at h ⊢
  split at h
  ·rename_i hn
   rw [if_pos hn]
   simp only [Option.map_eq_some_iff] at h ⊢
   obtain ⟨m,hm,rfl⟩:=h
   exact ⟨m,by rw [List.getElem?_append_left (List.getElem?_eq_some_iff.1 hm).1]; exact hm,rfl⟩
  ·cases h
 | .gr n,y,h => by
  simp only [AV.back] at h ⊢
  split at h
  ·rename_i hn
   rw [if_pos hn]
   simp only [Option.map_eq_some_iff] at h ⊢
   obtain ⟨m,hm,rfl⟩:=h
   exact ⟨m,by rw [List.getElem?_append_left (List.getElem?_eq_some_iff.1 hm).1]; exact hm,rfl⟩
  ·cases h
 | .vw sz n off len cap,y,h => by
  simp only [AV.back] at h ⊢
  split at h
  ·rename_i hn
   rw [if_pos hn]
   simp only [Option.map_eq_some_iff] at h ⊢
   obtain ⟨m,hm,rfl⟩:=h
   exact ⟨m,by rw [List.getElem?_append_left (List.getElem?_eq_some_iff.1 hm).1]; exact hm,rfl⟩
  ·cases h
 | .agg cs,y,h => by
  simp only [AV.back,Option.map_eq_some_iff] at h ⊢
  obtain ⟨z,h,rfl⟩:=h
  exact ⟨z,backL_more L2 h,rfl⟩
 | .tup cs,y,h => by
  simp only [AV.back,Option.map_eq_some_iff] at h ⊢
  obtain ⟨z,h,rfl⟩:=h
  exact ⟨z,backL_more L2 h,rfl⟩
 | .fn f cs,y,h => by
  simp only [AV.back,Option.map_eq_some_iff] at h ⊢
  obtain ⟨z,h,rfl⟩:=h
  exact ⟨z,backL_more L2 h,rfl⟩
theorem backL_more {L:List Nat} (L2:List Nat):∀ {xs ys:List AV},AV.backL L xs = some ys → AV.backL (L ++ L2) xs = some ys
 | [],ys,h => h
 | x :: xs,ys,h => by
  simp only [AV.backL] at h ⊢
  split at h
  ·rename_i u us h1 h2
   simp only [back_more L2 h1,backL_more L2 h2]
   exact h
  ·cases h
end
theorem Ob.back_more {L:List Nat} (L2:List Nat) {o o':Ob} (h:o.back L = some o'):o.back (L ++ L2) = some o':=by
 cases o <;> simp only [Ob.back,Option.map_eq_some_iff,Option.some.injEq] at h ⊢
 ·exact h
 ·obtain ⟨z,h,rfl⟩:=h; exact ⟨z,backL_more L2 h,rfl⟩
 ·exact h
 ·obtain ⟨z,h,rfl⟩:=h; exact ⟨z,backL_more L2 h,rfl⟩
 ·exact h
 ·exact h
theorem obsBack_more {L:List Nat} (L2:List Nat):∀ {l os:List Ob},obsBack L l = some os → obsBack (L ++ L2) l = some os
 | [],os,h => h
 | o :: l,os,h => by
  simp only [obsBack] at h ⊢
  split at h
  ·rename_i u us h1 h2
   simp only [Ob.back_more L2 h1,obsBack_more L2 h2]
   exact h
  ·cases h
theorem obsBack_app {L:List Nat}:∀ {a b x y:List Ob},obsBack L a = some x → obsBack L b = some y → obsBack L (a ++ b) = some (x ++ y)
 | [],b,x,y,h1,h2 => by simp only [obsBack,Option.some.injEq] at h1; subst h1; simpa using h2
 | o :: a,b,x,y,h1,h2 => by
  simp only [obsBack] at h1
  split at h1
  ·rename_i u us e1 e2
   simp only [Option.some.injEq] at h1
   subst h1
   simp only [List.cons_append,obsBack,e1,obsBack_app e2 h2]
  ·cases h1
theorem WV_rngC {C : Ctx} {σ : St} {Q : Exit → St → Prop} (hC : C.Ok) {g : X} {ps : List Nat} {assign body : VC} {fid : FuncId} {caps caps' : List AV} {L L2 : List Nat} {l l2 : List Ob} {env' : Nat → AV} {rem : List Ent} {Fin : Option Exit → List Ob → Prop}
    (hgd : (σ.val g).dg = true) (hgf : (σ.val g).dv = .fn fid caps) (hcp : AV.lendL 1001 L2 σ.own caps = some caps') (hLn : (L ++ L2).Nodup) (hl2 : l2.length = L2.length) (hL2 : L2.length ≤ 500) (h2o : ∀ (i n : Nat), L2[i]? = some n → l2[i]? = some (σ.own n)) (h2b : ∀ o ∈ l2, ∃ cs, o = .box cs ∧ AV.pureL cs = true) (hLl : L.length ≤ 1000) (hl : obsLend L σ.own L = some l) (hN : C.N ≤ 1000) (henv : LendE L σ.own σ.env env')
    (hspec : ∀ g : Gst, ∃ Post, FSpecL C.P fid (.c (.raw g.fv) :: caps') (.guest g rem :: l2) [] Post ∧ ∀ r l', Post r l' → ∃ l2', l' = .guest g [] :: l2')
    (hrun : RunR C.P C.N ps assign body env' Fin rem l)
    (hK : ∀ pend lf, Fin pend lf → ∃ os, obsBack L lf = some os ∧ lf.length = L.length ∧ Q (exitOf pend) ⟨σ.env, ownBack (fun n => if n ∈ L2 then .none else σ.own n) L os⟩) : WV C (.rng g ps assign body) Q σ := by
  have hL : L.Nodup := (List.nodup_append.1 hLn).1
  have hd2 : ∀ n ∈ L, ∀ m ∈ L2, n ≠ m := (List.nodup_append.1 hLn).2.2
  intro c hc
  cases c
  case rangeFunc g' pars ca cb =>
    simp only [comp] at hc
    split at hc
    case isFalse => cases hc
    rename_i hall
    simp only [Option.bind_eq_bind, Option.bind_eq_some_iff, Option.some.injEq, VC.rng.injEq] at hc
    obtain ⟨g'', hcg, assign', hca, body', hcb, rfl, rfl, rfl, rfl⟩ := hc
    rintro a w ⟨loc, hg⟩
    refine wpIn_rangeFunc fun fn _ => ?_
    obtain ⟨lp, mark, w1, D, hent, hrec, hlp, hlpF, hg1⟩ := enter_G hg hC fn pars ca cb
    obtain ⟨a', ha'⟩ : ∃ a' : Act, a' = { a with defers := mark ++ a.defers } := ⟨_, rfl⟩
    have hat : a'.tmps = a.tmps := by rw [ha']
    rw [← ha'] at hg1
    have hev : ∀ o, a'.eval o = a.eval o := fun o => by rw [ha']; cases o <;> rfl
    have hlp1 : lp < w1.heap.size := (Array.getElem?_eq_some_iff.1 hrec).1
    have hrg := vald hg1 hcg hgd
    rw [hgf, hev] at hrg
    simp only [RepA] at hrg
    obtain ⟨lb, hgv, hrb⟩ := hrg
    have hcl : callable C.P fid := by
      obtain ⟨Post, h, _⟩ := hspec ⟨undef, fun _ _ _ _ => False⟩
      exact h.1
    refine ⟨lp, mark, w1, { target := .fn (.func fid) lb.toArray, args := #[.func (.yield lp) #[] #[]] }, w1, fid, #[.func (.yield lp) #[] #[]] ++ lb.toArray, w1, hent, ?_, fun f' hf' => ?_, ?_, fun h => (by rw [C.F_depth] at h; cases h), ?_⟩
    · simp only [resolve, hgv]
      simp [go_sem]
    · exact C.F_fn f'
    · obtain ⟨fn', hfn', hbody', hname'⟩ := hcl
      obtain ⟨bd, hbn⟩ := Option.isSome_iff_exists.1 hbody'
      simp [invoke, callFunc, hfn', hname', hbn]
    · rw [← ha']
      refine callsIn_C C ?_
      obtain ⟨e1, e2, e3⟩ := obsLend_get hl
      have hlen : l.length ≤ 1000 := by omega
      have hsol : l.all (Ob.solid l.length) = true := by cases rem <;> exact hrun.1
      obtain ⟨s1, s2, s3, s4, s5, s6⟩ := lent_start hg1 hL hlen hl
      obtain ⟨rc, hrc⟩ : ∃ rc : Loop, rc = { state := .ready, pending := none, fn, tmps := a.tmps, params := pars, assign := ca, body := cb, defers := D } := ⟨_, rfl⟩
      obtain ⟨R, hR⟩ : ∃ R : RC, R = ⟨C.P, C.N, C.m, pars.toList, assign', body', env', Fin, lp, rc, locL 1000 loc L⟩ := ⟨_, rfl⟩
      have hRok : R.Ok := by
        rw [hR, hrc]
        exact ⟨hca, hcb, rfl, by have := hg1.size; rw [hat] at this; exact this, fun p hp => by have := List.all_eq_true.1 hall p hp; simpa using this, hN⟩
      have hundef : Value.oneCell' undef = false := rfl
      have hloc1 : ∀ n, (locL 1000 loc L n).oneCell' = true → (ownL 1000 l n).isPlace = true ∧ n < 2000 := by
        intro n hn
        unfold locL at hn
        split at hn
        · rename_i hge
          cases hm : L[n - 1000]? with
          | none => rw [hm, hundef] at hn; cases hn
          | some m =>
            rw [hm] at hn
            simp only at hn
            obtain ⟨ob, ho, hlo⟩ := e2 _ _ hm
            have hlt := (List.getElem?_eq_some_iff.1 hm).1
            have := ownL_at ho
            rw [show 1000 + (n - 1000) = n from by omega] at this
            rw [this]
            refine ⟨?_, by omega⟩
            have hob := hg1.objs m
            cases hx : σ.own m <;> rw [hx] at hlo hob <;> simp only [Ob.lend, Option.map_eq_some_iff, Option.some.injEq, reduceCtorEq] at hlo
            · obtain ⟨cs, _, rfl⟩ := hlo; rfl
            · subst hlo; have := List.all_eq_true.1 hsol _ (List.mem_of_getElem? ho); cases this
            · obtain ⟨_, Lg, h0, _⟩ := hob
              rw [h0] at hn
              cases hn
            · subst hlo; rfl
        · rw [hundef] at hn; cases hn
      have hout : ∀ n, n < 1000 ∨ 1000 + l.length ≤ n → locL 1000 loc L n = undef := by
        intro n hn
        unfold locL
        split
        · rw [List.getElem?_eq_none (by omega)]
        · rfl
      have hfl : ∀ b, Foot (ownL 1000 l) (locL 1000 loc L) b ↔ FootL σ.own loc L b := by
        intro b
        refine ⟨s5 b, ?_⟩
        rintro ⟨m, hm, hb⟩
        obtain ⟨i, hi⟩ := List.mem_iff_getElem?.1 hm
        obtain ⟨ob, ho, hlo⟩ := e2 i m hi
        exact ⟨1000 + i, by rw [ownL_at ho, locL_at hi, Ob.lend_has hlo]; exact hb⟩
      have hobj : ∀ n, ObOk C.P (fun _ => True) w1 (MM C σ.own loc) (locL 1000 loc L) (locL 1000 loc L n) (ownL 1000 l n) := by
        intro n
        rcases ownL_cases l n with ⟨i, ob, rfl, ho, hw⟩ | hw
        · obtain ⟨m, hm, hlo⟩ := e3 i ob ho
          rw [hw, locL_at hm]
          exact (ObOk.lend hg1 hlo).1
        · rw [hw]; trivial
      have hsol0 : l.all (Ob.solid l.length) = true := by cases rem <;> exact hrun.1
      have hJ : RoundJ R rem (lp :: obsBlocks l (locL 1000 loc L)) (MM C σ.own loc) w1 := by
        rw [hR]
        refine ⟨l, locL 1000 loc L, .inl ⟨hrun, ?_⟩, hlen, hout, hobj, fun n m b hnm hn hm => ?_, fun t => ?_, fun b hb => List.mem_cons_of_mem _ (obsBlocks_iff.2 hb), fun n hn => ⟨(hloc1 n hn).1, rfl⟩, List.mem_cons_self, fun h => hlpF ?_⟩
        · rw [hrec]; simp [RC.recO, hrc]
        · have hs : ∀ n, (ownL 1000 l n).has (locL 1000 loc L n) b → n < 2000 := by
            intro n h
            rcases Nat.lt_or_ge n 2000 with h' | h'
            · exact h'
            · rw [ownL_out (by omega)] at h; exact (Ob.has_none _ _ h).elim
          exact s3.disj n m b hnm (by rw [ownW_small (hs n hn)]; exact hn) (by rw [ownW_small (hs m hm)]; exact hm)
        · simp only [hrc]
          have hs := hg1.slots t
          rw [hat] at hs
          rcases henv t with h | h
          · rw [h]; simp only [RepA]
          · exact lend_rep hg1 hs h
        · obtain ⟨m, _, hb⟩ := (hfl _).1 h
          exact ⟨m, hb⟩
      obtain ⟨gs, hgd⟩ : ∃ gs, gs = roundG R := ⟨_, rfl⟩
      have hgok : gs.Ok C.P := by have := roundG_ok hRok; rw [hgd]; rw [hR] at this ⊢; exact this
      have hgfv : gs.fv = .func (.yield lp) #[] #[] := by rw [hgd, hR]; rfl
      have hgJ : gs.J = RoundJ R := by rw [hgd]; rfl
      obtain ⟨Lg, hLg⟩ : ∃ Lg, Lg = lp :: obsBlocks l (locL 1000 loc L) := ⟨_, rfl⟩
      have hLgf : ∀ b, b ∈ Lg ↔ b = lp ∨ FootL σ.own loc L b := fun b => by rw [hLg, List.mem_cons, obsBlocks_iff, hfl b]
      obtain ⟨lh, hlh⟩ : ∃ lh : Nat → Value, lh = fun n => if n = 1000 then encV Lg else locL 1001 loc L2 n := ⟨_, rfl⟩
      have hlh1 : lh 1000 = encV Lg := by rw [hlh]; rfl
      have hlh2 : ∀ i m, L2[i]? = some m → lh (1001 + i) = loc m := fun i m h => by
        rw [hlh]
        simp only
        rw [if_neg (by omega)]
        exact locL_at h
      have how : ∀ (rm : List Ent) (lx : List Ob), lx.length ≤ 500 → ∀ (n : Nat), ownW (.guest gs rm :: lx) [] n = if n = 1000 then .guest gs rm else ownL 1001 lx n := by
        intro rm lx hlx n
        unfold ownW ownL
        by_cases h1 : 2000 ≤ n
        · rw [if_pos h1, if_neg (by omega), if_pos (by omega), List.getD_eq_getElem?_getD, List.getElem?_eq_none (l := lx) (i := n - 1001) (by omega)]; simp
        · rw [if_neg h1]
          by_cases h2 : 1000 ≤ n
          · rw [if_pos h2]
            by_cases h3 : n = 1000
            · subst h3; simp
            · rw [if_neg h3, if_pos (by omega)]
              obtain ⟨k, rfl⟩ : ∃ k, n = 1001 + k := ⟨n - 1001, by omega⟩
              rw [show 1001 + k - 1000 = k + 1 from by omega, show 1001 + k - 1001 = k from by omega]; rfl
          · rw [if_neg h2, if_neg (by omega), if_neg (by omega)]
      have hol : ∀ (rm : List Ent) (lx : List Ob), lx.length ≤ 500 → ∀ (n : Nat), ownL 1000 (.guest gs rm :: lx) n = if n = 1000 then .guest gs rm else ownL 1001 lx n := by
        intro rm lx hlx n
        by_cases hn : n < 2000
        · rw [← ownW_small (wl := []) hn]; exact how rm lx hlx n
        · rw [ownL_out (.inr (by simp; omega)), if_neg (by omega)]
          unfold ownL
          rw [if_pos (by omega), List.getD_eq_getElem?_getD, List.getElem?_eq_none (by omega)]; rfl
      have hl2at : ∀ (lx : List Ob) (n : Nat), ownL 1001 lx n = .none ∨ ∃ i o, n = 1001 + i ∧ lx[i]? = some o ∧ ownL 1001 lx n = o := by
        intro lx n
        unfold ownL
        split
        · rename_i h
          by_cases hi : n - 1001 < lx.length
          · exact .inr ⟨n - 1001, lx[n - 1001], by omega, List.getElem?_eq_getElem hi, by rw [List.getD_eq_getElem?_getD, List.getElem?_eq_getElem hi]; rfl⟩
          · left; rw [List.getD_eq_getElem?_getD, List.getElem?_eq_none (by omega)]; rfl
        · exact .inl rfl
      have h2i : ∀ (i : Nat) (o : Ob), l2[i]? = some o → ∃ m, L2[i]? = some m ∧ σ.own m = o := by
        intro i o hi
        have hlt := (List.getElem?_eq_some_iff.1 hi).1
        have h1 : L2[i]? = some (L2[i]'(by omega)) := List.getElem?_eq_getElem _
        have := h2o i _ h1
        rw [hi] at this
        exact ⟨_, h1, by simpa using this.symm⟩
      have hf2 : ∀ b, Foot (ownL 1001 l2) lh b → FootL σ.own loc L2 b := by
        rintro b ⟨n, h⟩
        rcases hl2at l2 n with h0 | ⟨i, o, rfl, hi, h0⟩
        · rw [h0] at h; exact (Ob.has_none _ _ h).elim
        · obtain ⟨m, hm, hom⟩ := h2i i o hi
          rw [h0, hlh2 i m hm] at h
          exact ⟨m, List.mem_of_getElem? hm, by rw [hom]; exact h⟩
      have hl25 : l2.length ≤ 500 := by omega
      have hfl2 : ∀ b, FootL σ.own loc (L ++ L2) b ↔ FootL σ.own loc L b ∨ FootL σ.own loc L2 b := by
        intro b
        constructor
        · rintro ⟨n, hn, h⟩
          rcases List.mem_append.1 hn with hn | hn
          · exact .inl ⟨n, hn, h⟩
          · exact .inr ⟨n, hn, h⟩
        · rintro (⟨n, hn, h⟩ | ⟨n, hn, h⟩)
          · exact ⟨n, List.mem_append_left _ hn, h⟩
          · exact ⟨n, List.mem_append_right _ hn, h⟩
      have hfootg : ∀ (rm : List Ent) (lq : List Ob), lq.length ≤ 500 → ∀ (lx : Nat → Value) (b : Nat), Foot (ownW (.guest gs rm :: lq) []) lx b ↔ footV (lx 1000) b ∨ Foot (ownL 1001 lq) lx b := by
        intro rm lq hlq lx b
        constructor
        · rintro ⟨n, h⟩
          rw [how rm lq hlq] at h
          by_cases hn : n = 1000
          · subst hn; rw [if_pos rfl] at h; exact .inl h
          · rw [if_neg hn] at h; exact .inr ⟨n, h⟩
        · rintro (h | ⟨n, h⟩)
          · exact ⟨1000, by rw [how rm lq hlq, if_pos rfl]; exact h⟩
          · refine ⟨n, ?_⟩
            rw [how rm lq hlq]
            by_cases hn : n = 1000
            · subst hn
              rcases hl2at lq 1000 with h0 | ⟨i, o, e, _⟩
              · rw [h0] at h; exact (Ob.has_none _ _ h).elim
              · omega
            · rw [if_neg hn]; exact h
      have hfootl : ∀ (rm : List Ent) (lq : List Ob), lq.length ≤ 500 → ∀ (lx : Nat → Value) (b : Nat), Foot (ownL 1000 (.guest gs rm :: lq)) lx b → footV (lx 1000) b ∨ Foot (ownL 1001 lq) lx b := by
        rintro rm lq hlq lx b ⟨n, h⟩
        rw [hol rm lq hlq] at h
        by_cases hn : n = 1000
        · subst hn; rw [if_pos rfl] at h; exact .inl h
        · rw [if_neg hn] at h; exact .inr ⟨n, h⟩
      have hbar : ∀ b, FootL σ.own loc L b → ∀ k, MM C σ.own loc b k := by
        intro b hb k
        obtain ⟨n, hn⟩ := (hfl b).2 hb
        rcases ownL_cases l n with ⟨i, ob, rfl, ho, hw⟩ | hw
        · obtain ⟨m, hm, hlo⟩ := e3 i ob ho
          rw [hw] at hn
          have := solid_mut (List.all_eq_true.1 hsol0 ob (List.mem_of_getElem? ho)) hn k
          rw [locL_at hm, Ob.lend_mut hlo] at this
          exact .inr ⟨m, this⟩
        · rw [hw] at hn; exact (Ob.has_none _ _ hn).elim
      have hMMlp : ∀ k, ¬ MM C σ.own loc lp k := by
        rintro k (h | ⟨m, h⟩)
        · have h1 := (hg.m0 _ _ h).1
          have h2 := hg.fr.size
          omega
        · exact hlpF ⟨m, Ob.has_of_mut h⟩
      have hsubg : ∀ b k, b ≠ lp → AddM (McL C σ loc (L ++ L2)) (ownW (.guest gs rem :: l2) []) lh b k → MM C σ.own loc b k := by
        rintro b k hbl (h | h)
        · exact h.1
        · obtain ⟨n, h⟩ := h
          rw [how rem l2 hl25] at h
          by_cases hn : n = 1000
          · subst hn
            rw [if_pos rfl, hlh1] at h
            have h' : footV (encV Lg) b := h
            rw [footV_encV, hLgf] at h'
            exact hbar b (h'.resolve_left hbl) k
          · rw [if_neg hn] at h
            rcases hl2at l2 n with h0 | ⟨i, o, rfl, hi, h0⟩
            · rw [h0] at h; exact (Ob.has_none _ _ (Ob.has_of_mut h)).elim
            · obtain ⟨m, hm, hom⟩ := h2i i o hi
              rw [h0, hlh2 i m hm] at h
              exact .inr ⟨m, by rw [hom]; exact h⟩
      have hless : Keeps w1 w1 (MM C σ.own loc) (AddM (McL C σ loc (L ++ L2)) (ownW (.guest gs rem :: l2) []) lh) := ⟨fun _ _ _ => rfl, fun p hp hm h => hm (hsubg _ _ (cell_loop hrec hp) h)⟩
      have hgl : ∀ b, b ∈ Lg → FootL σ.own loc L2 b → False := by
        rintro b hb ⟨m, hm, hbm⟩
        rcases (hLgf b).1 hb with rfl | ⟨n, hn, hbn⟩
        · exact hlpF ⟨m, hbm⟩
        · exact hg1.disj n m b (hd2 n hn m hm) hbn hbm
      obtain ⟨Post, hsp, hPost⟩ := hspec gs
      have hspec1 := hsp.2.2 w1 (McL C σ loc (L ++ L2)) lh (.func (.yield lp) #[] #[] :: lb)
        (fun b k hm => ⟨MM_lt hg1 b k hm.1, fun h => by
          rw [hfootg rem l2 hl25, hlh1, footV_encV, hLgf] at h
          rcases h with (rfl | h) | h
          · exact hMMlp k hm.1
          · exact hm.2 ((hfl2 b).2 (.inl h))
          · exact hm.2 ((hfl2 b).2 (.inr (hf2 b h)))⟩)
        ⟨fun n => by
          rw [how rem l2 hl25]
          by_cases hn : n = 1000
          · subst hn
            rw [if_pos rfl, hlh1]
            refine ⟨hgok, Lg, rfl, hgok.keep (by rw [hgJ, hLg]; exact hJ) hless (fun _ _ => rfl) (Nat.le_refl _), fun b hb => ⟨?_, trivial⟩⟩
            rcases (hLgf b).1 hb with rfl | ⟨m, hm, hb'⟩
            · exact hlp1
            · exact (hg1.objs m).lt hb'
          · rw [if_neg hn]
            rcases hl2at l2 n with h0 | ⟨i, o, rfl, hi, h0⟩
            · rw [h0]; trivial
            · obtain ⟨m, hm, hom⟩ := h2i i o hi
              obtain ⟨cs, rfl, hpu⟩ := h2b o (List.mem_of_getElem? hi)
              rw [h0, hlh2 i m hm]
              have hob := hg1.objs m
              rw [hom] at hob
              obtain ⟨b, lv, e, q1, _, q3, q4⟩ := hob
              exact ⟨b, lv, e, q1, trivial, q3, RepAs.keep hless _ _ (pures_loc hpu q4)⟩,
         fun n m b hnm hn hm => by
          have key : ∀ n, (ownW (.guest gs rem :: l2) [] n).has (lh n) b → (n = 1000 ∧ b ∈ Lg) ∨ ∃ i m, n = 1001 + i ∧ L2[i]? = some m ∧ (σ.own m).has (loc m) b := by
            intro n h
            rw [how rem l2 hl25] at h
            by_cases hn : n = 1000
            · subst hn
              rw [if_pos rfl, hlh1] at h
              exact .inl ⟨rfl, (footV_encV Lg b).1 h⟩
            · rw [if_neg hn] at h
              rcases hl2at l2 n with h0 | ⟨i, o, rfl, hi, h0⟩
              · rw [h0] at h; exact (Ob.has_none _ _ h).elim
              · obtain ⟨m, hm, hom⟩ := h2i i o hi
                rw [h0, hlh2 i m hm] at h
                exact .inr ⟨i, m, rfl, hm, by rw [hom]; exact h⟩
          rcases key n hn with ⟨h1, h1'⟩ | ⟨i, p, h1, h2, h3⟩ <;> rcases key m hm with ⟨k1, k1'⟩ | ⟨j, q, k1, k2, k3⟩
          · exact hnm (h1.trans k1.symm)
          · exact hgl b h1' ⟨q, List.mem_of_getElem? k2, k3⟩
          · exact hgl b k1' ⟨p, List.mem_of_getElem? h2, h3⟩
          · refine hg1.disj p q b (fun e => hnm ?_) h3 k3
            subst e
            have hn2 : L2.Nodup := (List.nodup_append.1 hLn).2.1
            rw [h1, k1, nodup_idx hn2 h2 k2]⟩
        (by
          refine RepAs.keep hless _ _ ?_
          simp only [RepAs]
          refine ⟨_, lb, rfl, by simp only [RepA, RepC]; exact ⟨hgfv.symm, by rw [hgfv]; rfl⟩, (lends_rep hg1 hrb hcp).reloc fun n hn => ?_⟩
          rw [hlh]
          simp only
          split
          · rename_i h; subst h
            have : locL 1001 loc L2 1000 = undef := rfl
            rw [this, hundef] at hn; cases hn
          · rfl)
      have e0 : #[Value.func (.yield lp) #[] #[]] ++ lb.toArray = (Value.func (.yield lp) #[] #[] :: lb).toArray := by apply Array.ext'; simp
      rw [e0]
      refine hspec1.mono fun e w2 h => ?_
      obtain ⟨v, r', l', loc', rfl, hpo, hll, fx, kp, ok, has, plc, hr⟩ := h
      obtain ⟨l2', hl'e⟩ := hPost r' l' hpo
      subst hl'e
      have hl25' : l2'.length ≤ 500 := by simp at hll; omega
      have hob := ok.objs 1000
      rw [how [] l2' hl25', if_pos rfl] at hob
      obtain ⟨_, Lq, hq, hJ', hLq⟩ := hob
      rw [hgJ, hR] at hJ'
      obtain ⟨lf, lx, k1, k2, k3, k4, k5, k6, k7, k8, k9, k10⟩ := hJ'
      obtain ⟨pend, r2, hfin, hr2, hst, hpend⟩ : ∃ (pend : Option Exit) (r2 : Loop), Fin pend lf ∧ w2.heap[lp]? = some (.loop r2) ∧ r2.state ≠ .busy ∧ ((pend = none ∧ r2.pending = none) ∨ ∃ x, pend = some x ∧ r2.pending = some (jumpC x) ∧ (x = .ret ∨ ∃ id, x = .exit id)) := by
        rcases k1 with ⟨⟨_, h1⟩, h2⟩ | ⟨_, _, x, hx, h1, h2⟩
        · exact ⟨none, _, h1, h2, by simp, .inl ⟨rfl, rfl⟩⟩
        · exact ⟨some x, _, h1, h2, by simp, .inr ⟨x, rfl, rfl, hx⟩⟩
      have hlp2 : lp < w2.heap.size := (Array.getElem?_eq_some_iff.1 hr2).1
      obtain ⟨os, hbk, hlfl, hk'⟩ := hK pend lf hfin
      refine ⟨_, _, run_endLoop hr2 hst, ?_⟩
      obtain ⟨rX, hrX⟩ : ∃ rX : Loop, rX = { r2 with state := .exhausted } := ⟨_, rfl⟩
      rw [← hrX]
      obtain ⟨w3, hw3⟩ : ∃ w3, w3 = w2.putObj lp (.loop rX) := ⟨_, rfl⟩
      rw [← hw3]
      have hg1' := hg1.tickOwn hrec (Nat.le_trans hg.fr.size hlp) hlpF rX
      obtain ⟨w1', hw1'⟩ : ∃ w1', w1' = w1.putObj lp (.loop rX) := ⟨_, rfl⟩
      rw [← hw1'] at hg1'
      have ho1 : ∀ k, k ≠ lp → w1'.heap[k]? = w1.heap[k]? := fun k hk => by rw [hw1']; exact World.putObj_heap_other hk
      have ho3 : ∀ k, k ≠ lp → w3.heap[k]? = w2.heap[k]? := fun k hk => by rw [hw3]; exact World.putObj_heap_other hk
      have hl1 : w1'.heap[lp]? = some (.loop rX) := by rw [hw1']; exact World.putObj_heap_same hlp1
      have hl3 : w3.heap[lp]? = some (.loop rX) := by rw [hw3]; exact World.putObj_heap_same hlp2
      have hsz1 : w1'.heap.size = w1.heap.size := by rw [hw1']; simp
      have hsz3 : w3.heap.size = w2.heap.size := by rw [hw3]; simp
      have hk23 : ∀ M', Keeps w2 w3 M' M' := fun M' => ⟨fun p hp _ => World.cell?_of_block (ho3 _ (cell_loop hr2 hp)), fun p _ h => h⟩
      have hfx : Fx w1' w3 (FootL σ.own loc (L ++ L2)) := ⟨by rw [hw3, hw1']; exact fx.os, by rw [hw3, hw1']; exact fx.tape, by rw [hw3, hw1']; exact fx.output, by rw [hsz1, hsz3]; exact fx.size, fun k hk hn => by
        by_cases hkl : k = lp
        · subst hkl; rw [hl1, hl3]
        · rw [ho3 k hkl, ho1 k hkl]
          refine fx.block k (by omega) fun h => ?_
          rcases hfootl rem l2 hl25 lh k h with h | h
          · rw [hlh1, footV_encV, hLgf] at h
            exact hn ((hfl2 k).2 (.inl (h.resolve_left hkl)))
          · exact hn ((hfl2 k).2 (.inr (hf2 k h)))⟩
      have hqin : ∀ b, b ∈ Lq → b = lp ∨ FootL σ.own loc (L ++ L2) b ∨ w1.heap.size ≤ b := by
        intro b hb
        rcases has 1000 b (by rw [hol [] l2' hl25', if_pos rfl, hq]; simp only [Ob.has, footV_encV]; exact hb) with h | h
        · rcases hfootl rem l2 hl25 lh b h with h | h
          · rw [hlh1, footV_encV, hLgf] at h
            exact h.imp id fun h => .inl ((hfl2 b).2 (.inl h))
          · exact .inr (.inl ((hfl2 b).2 (.inr (hf2 b h))))
        · exact .inr (.inr h)
      have hcell : ∀ p : Addr, (w1'.cell? p).isSome = true → p.block ≠ lp ∧ w1'.cell? p = w1.cell? p := fun p hp => ⟨cell_loop hl1 hp, World.cell?_of_block (ho1 _ (cell_loop hl1 hp))⟩
      obtain ⟨lx2, hlx2⟩ : ∃ lx2 : Nat → Value, lx2 = fun n => if 1000 + L.length ≤ n then locL 1000 loc (L ++ L2) n else lx n := ⟨_, rfl⟩
      have hx1 : ∀ n, n < 1000 + L.length → lx2 n = lx n := fun n hn => by rw [hlx2]; simp only; rw [if_neg (by omega)]
      have hx2 : ∀ n, 1000 + L.length ≤ n → lx2 n = locL 1000 loc (L ++ L2) n := fun n hn => by rw [hlx2]; simp only; rw [if_pos hn]
      have hxr : ∀ n, (lx n).oneCell' = true → lx2 n = lx n := fun n hn => by
        by_cases h : n < 1000 + L.length
        · exact hx1 n h
        · rw [k3 n (.inr (by omega)), hundef] at hn; cases hn
      obtain ⟨NN, hNN⟩ : ∃ NN : List Ob, NN = List.replicate L2.length .none := ⟨_, rfl⟩
      have hNl : NN.length = L2.length := by rw [hNN]; simp
      have hNm : ∀ o ∈ NN, o = .none := fun o ho => by rw [hNN] at ho; exact (List.mem_replicate.1 ho).2
      have hlast : ∀ (i : Nat) (ob : Ob), (lf ++ NN)[i]? = some ob → (i < L.length ∧ lf[i]? = some ob) ∨ (L.length ≤ i ∧ ob = .none) := by
        intro i ob hi
        by_cases h : i < lf.length
        · rw [List.getElem?_append_left h] at hi
          exact .inl ⟨by omega, hi⟩
        · rw [List.getElem?_append_right (by omega)] at hi
          exact .inr ⟨by omega, hNm _ (List.mem_of_getElem? hi)⟩
      have hbk2 : obsBack (L ++ L2) (lf ++ NN) = some (os ++ NN) := by
        have hN : ∀ k : Nat, obsBack (L ++ L2) (List.replicate k .none) = some (List.replicate k .none) := by
          intro k; induction k with
          | zero => rfl
          | succ k ih => simp only [List.replicate_succ, obsBack, Ob.back, ih]
        have := obsBack_app (obsBack_more L2 hbk) (hN L2.length)
        rw [hNN]; exact this
      obtain ⟨loc'', hg', _⟩ := hg1'.lent (w' := w3) (M' := AddM (McL C σ loc (L ++ L2)) (ownW (.guest gs [] :: l2') []) loc') (l' := lf ++ NN) (loc' := lx2) hLn (by simp [hlfl, hNl])
        (fun n hn b hb => by
          rcases List.mem_append.1 hn with hn | hn
          · exact s4 n hn b hb
          · obtain ⟨i, hi⟩ := List.mem_iff_getElem?.1 hn
            have h1 := h2o i n hi
            obtain ⟨cs, h2, _⟩ := h2b _ (List.mem_of_getElem? h1)
            have hob := hg1.objs n
            rw [h2] at hob hb
            obtain ⟨b', _, _, e1, e2, _⟩ := hob
            rw [e1] at hb
            cases hb
            exact e2) hfx
        (fun p hp hm => by
          obtain ⟨hpl, hce⟩ := hcell p hp
          rw [hce] at hp
          have h1 := kp.cell p hp fun h => hm (hsubg _ _ hpl h)
          refine ⟨?_, kp.free p hp fun h => hm (hsubg _ _ hpl h)⟩
          rw [World.cell?_of_block (ho3 _ hpl), h1, hce])
        (by
          rintro b k (h | ⟨i, ob, hi, hb⟩)
          · exact .inl h
          · rcases hlast i ob hi with ⟨hlt, hi'⟩ | ⟨_, rfl⟩
            · rw [hx1 _ (by omega)] at hb
              refine .inr ⟨1000, ?_⟩
              rw [how [] l2' hl25', if_pos rfl, hq]
              simp only [Ob.mut, footV_encV]
              exact k7 b ⟨1000 + i, by rw [ownL_at hi']; exact Ob.has_of_mut hb⟩
            · exact (Ob.has_none _ _ (Ob.has_of_mut hb)).elim)
        (fun i ob hi => by
          rcases hlast i ob hi with ⟨hlt, hi'⟩ | ⟨_, rfl⟩
          · have := k4 (1000 + i)
            rw [ownL_at hi'] at this
            rw [hx1 _ (by omega)]
            exact (this.keep' (hk23 _) (by omega) (fun b hb => ho3 b (by rintro rfl; exact k10 ⟨1000 + i, by rw [ownL_at hi']; exact hb⟩))).reloc hxr
          · trivial)
        (fun i j o o' b hij hi hj hb hb' => by
          rcases hlast i o hi with ⟨hlt, hi'⟩ | ⟨_, rfl⟩
          · rcases hlast j o' hj with ⟨hlt2, hj'⟩ | ⟨_, rfl⟩
            · rw [hx1 _ (by omega)] at hb hb'
              exact k5 (1000 + i) (1000 + j) b (by omega) (by rw [ownL_at hi']; exact hb) (by rw [ownL_at hj']; exact hb')
            · exact Ob.has_none _ _ hb'
          · exact Ob.has_none _ _ hb)
        (fun i ob b hi hb => by
          rcases hlast i ob hi with ⟨hlt, hi'⟩ | ⟨_, rfl⟩
          · rw [hx1 _ (by omega)] at hb
            have hf : Foot (ownL 1000 lf) lx b := ⟨1000 + i, by rw [ownL_at hi']; exact hb⟩
            rcases hqin b (k7 b hf) with rfl | h | h
            · exact (k10 hf).elim
            · exact .inl h
            · exact .inr (by omega)
          · exact (Ob.has_none _ _ hb).elim)
        (fun i n hi hone => by
          by_cases hlt : i < L.length
          · rw [List.getElem?_append_left hlt] at hi
            rw [hx1 _ (by omega)]
            have := (k8 (1000 + i) (by show (locL 1000 loc L (1000 + i)).oneCell' = true; rw [locL_at hi]; exact hone)).2
            rw [this]; show locL 1000 loc L (1000 + i) = loc n; rw [locL_at hi]
          · rw [hx2 _ (by omega), locL_at hi]) hbk2
      have hown : ownBack σ.own (L ++ L2) (os ++ NN) = ownBack (fun n => if n ∈ L2 then .none else σ.own n) L os := by
        have hosl : os.length = L.length := by rw [obsBack_len hbk, hlfl]
        funext n
        by_cases h1 : n ∈ L
        · obtain ⟨i, hi⟩ := List.mem_iff_getElem?.1 h1
          have hlt := (List.getElem?_eq_some_iff.1 hi).1
          have ho : os[i]? = some (os[i]'(by omega)) := List.getElem?_eq_getElem _
          rw [ownBack_in hL hi ho, ownBack_in hLn (by rw [List.getElem?_append_left hlt]; exact hi) (by rw [List.getElem?_append_left (by omega)]; exact ho)]
        · rw [ownBack_out (own := fun n => if n ∈ L2 then .none else σ.own n) h1]
          by_cases h2 : n ∈ L2
          · rw [if_pos h2]
            obtain ⟨i, hi⟩ := List.mem_iff_getElem?.1 h2
            have hlt := (List.getElem?_eq_some_iff.1 hi).1
            have ho : NN[i]? = some (NN[i]'(by omega)) := List.getElem?_eq_getElem _
            have := hNm _ (List.mem_of_getElem? ho)
            rw [this] at ho
            exact ownBack_in hLn (i := L.length + i) (by rw [List.getElem?_append_right (by omega), Nat.add_sub_cancel_left]; exact hi) (by rw [List.getElem?_append_right (by omega), hosl, Nat.add_sub_cancel_left]; exact ho)
          · rw [if_neg h2]
            exact ownBack_out (by simp [h1, h2])
      rw [hown] at hg'
      rcases hpend with ⟨rfl, hp⟩ | ⟨x, rfl, hp, hx⟩
      · rw [hp]
        exact ⟨_, ⟨loc'', hg'⟩, hk'⟩
      · rw [hp]
        rcases hx with rfl | ⟨id, rfl⟩
        · exact wpIn_ret ⟨_, ⟨loc'', hg'⟩, hk'⟩
        · exact wpIn_exit ⟨_, ⟨loc'', hg'⟩, hk'⟩
  case region => rcases comp_region hc with ⟨_, h⟩ | ⟨_, h⟩ | h | ⟨_, h⟩ <;> cases h
  all_goals (simp [comp, Option.bind_eq_some_iff, Option.map_eq_some_iff] at hc)
end Go.V

/-
 Rows that a loop's rounds make,held together: as one object,whose rows and array are known by their addresses; and taken apart again.
-/
namespace Go.V
structure RB where
 b:Nat
 o:Nat
 l:List UInt8
 cap:Nat
def RB.val (r:RB):Value:=.slice (some ⟨r.b,r.o,none⟩) r.l.length r.cap
def RB.cd (r:RB):List CD:=[.raw r.val]
def holdJ (rows:List RB) (arr:Option Value) (rem:List Ent) (L:List Nat) (w:World):Prop :=
 rem = [] ∧ L.Nodup ∧ (∃ La,L = rows.map RB.b ++ La ∧ (match arr with | none => La = [] | some v => ∃ g cap rest ty,v = .slice (some ⟨g,0,none⟩) rows.length cap ∧ La = [g] ∧ AtC w g (rows.map RB.val ++ rest) ty ∧ rows.length ≤ cap ∧ cap ≤ maxLen ∧ cap ≤ rows.length + rest.length)) ∧
  ∀ r ∈ rows,∃ rest ty,AtC w r.b (r.l.map bval ++ rest) ty ∧ r.cap ≤ r.l.length + rest.length ∧ r.l.length ≤ r.cap ∧ r.cap ≤ maxLen ∧ (0 < r.cap → r.o = 0)
def gF (rows:List RB) (arr:Option Value):Gst:=⟨.bool false,fun rem L _ w => holdJ rows arr rem L w⟩
def hold (rows:List RB) (arr:Option Value):Ob:=.guest (gF rows arr) []
theorem gF_ok (P:Program) (rows:List RB) (arr:Option Value):(gF rows arr).Ok P:=by
 refine ⟨rfl,?_,?_⟩
 ·rintro rem L M w M' w' ⟨h1,h2,⟨La,h3,h4⟩,h5⟩ hk hb hs
  refine ⟨h1,h2,⟨La,h3,?_⟩,fun r hr => ?_⟩
  ·cases arr with
   | none => exact h4
   | some v =>
   obtain ⟨g,cap,rest,ty,k1,k2,k3,k4⟩:=h4
   exact ⟨g,cap,rest,ty,k1,k2,k3.trans (hb g (by rw [h3,k2]; simp)),k4⟩
  ·obtain ⟨rest,ty,k1,k2⟩:=h5 r hr
   exact ⟨rest,ty,k1.trans (hb r.b (by rw [h3]; exact List.mem_append_left _ (List.mem_map_of_mem hr))),k2⟩
 ·rintro args wins r rem L M w loc vs ⟨h1,_⟩
  cases h1
theorem encV_one (L:List Nat):(encV L).oneCell' = false:=rfl
section
variable {C:Ctx} {σ:St}
theorem G.reown {loc loc':Nat → Value} {a:Act} {w:World} {env':Nat → AV} {own':Nat → Ob} (hg:G C σ loc a w) (hp:∀ n,C.pin n → loc' n = loc n)
  (hs:∀ t,RepA w (MM C σ.own loc) loc' (env' t) (a.tmps.getD t undef)) (hm:∀ b o,Mut own' loc' b o → Mut σ.own loc b o) (hf:∀ b,Foot own' loc' b → Foot σ.own loc b)
  (ho:∀ n,ObOk C.P C.A w (MM C σ.own loc) loc' (loc' n) (own' n)) (hd:∀ n m b,n ≠ m → (own' n).has (loc' n) b → (own' m).has (loc' m) b → False):G C ⟨env',own'⟩ loc' a w:=by
 have hsub:∀ b o,MM C own' loc' b o → MM C σ.own loc b o:=fun b o h => h.elim .inl fun h => .inr (hm b o h)
 have hk:Keeps w w (MM C σ.own loc) (MM C own' loc'):=Keeps.less hsub
 refine ⟨hg.fr,hg.m0,hg.kp.trans hk,fun x hx => ?_,hg.mnd,fun n hn => ?_,hg.size,fun t => RepA.keep hk _ _ (hs t),fun n => ?_,hd⟩
 ·obtain ⟨D,e1,e2,e3,e4⟩:=hg.marks x hx
  exact ⟨D,e1,e2,e3,fun h => e4 (hf D h)⟩
 ·obtain ⟨p1,p2,p3⟩:=hg.pin n hn
  exact ⟨p1,(hp n hn).trans p2,p3⟩
 ·exact (ho n).keep' hk (Nat.le_refl _) (fun _ _ => rfl)
theorem Gam_hold0 {f:Nat} (hn:σ.own f = .none) (hp:¬ C.pin f):∀ a w,Gam C σ a w → Gam C ⟨prgE f σ.env,upd (prgO f σ.own) f (hold [] none)⟩ a w:=by
 rintro a w ⟨loc,hg⟩
 have h1:=hg.forget hn hp
 have hnone:prgO f σ.own f = .none:=by show (σ.own f).prg f = .none; rw [hn]; rfl
 have hl:∀ m,(upd loc f undef m).oneCell' = true → upd loc f (encV []) m = upd loc f undef m:=by
  intro m hm
  by_cases e:m = f
  ·subst e; simp [upd] at hm; cases hm
  ·simp [upd,e]
 have hfo:∀ m b,(upd (prgO f σ.own) f (hold [] none) m).has (upd loc f (encV []) m) b → (prgO f σ.own m).has (upd loc f undef m) b:=by
  intro m b h
  by_cases e':m = f
  ·subst e'
   simp only [upd,if_true,hold,Ob.has,footV_encV] at h
   cases h
  ·simp only [upd,e',if_false] at h ⊢
   exact h
 refine ⟨upd loc f (encV []),h1.reown (fun n hn' => ?_) (fun t => RepA.reloc hl (h1.slots t)) (fun b o hm => ?_) (fun b ⟨n,h⟩ => ⟨n,hfo n b h⟩) (fun n => ?_) (fun n m b hnm k1 k2 => h1.disj n m b hnm (hfo n b k1) (hfo m b k2))⟩
 ·have:n ≠ f:=fun e => hp (e ▸ hn')
  simp [upd,this]
 ·obtain ⟨n,h⟩:=hm
  by_cases e':n = f
  ·subst e'
   simp only [upd,if_true,hold,Ob.mut,footV_encV] at h
   cases h
  ·exact ⟨n,by simp only [upd,e',if_false] at h ⊢; exact h⟩
 ·by_cases e':n = f
  ·subst e'
   simp only [upd,if_true]
   exact ⟨gF_ok _ _ _,[],rfl,⟨rfl,List.nodup_nil,⟨[],rfl,rfl⟩,fun r hr => by cases hr⟩,fun b hb => by cases hb⟩
  ·have:=h1.objs n
   simp only [upd,e',if_false] at this ⊢
   exact ObOk.reloc (loc:=upd loc f undef) hl this
theorem bytes_cells {w:World} {M:Cells} {loc:Nat → Value} {j:Nat}:∀ {l:List UInt8} {lv:List Value},RepAs w M loc (cellsG bcd l j) lv → ∃ rest,lv = l.map bval ++ rest ∧ rest.length = j
 | [],lv,h => ⟨lv,rfl,by have:=h.length; simpa [cellsG,flatG] using this⟩
 | b :: l,lv,h => by
  have e:cellsG bcd (b :: l) j = .c (.int .u8 b.toNat) :: cellsG bcd l j:=by simp [cellsG,flatG,bcd]
  rw [e] at h
  simp only [RepAs,RepA,RepC] at h
  obtain ⟨v,vs,rfl,rfl,h2⟩:=h
  obtain ⟨rest,rfl,h3⟩:=bytes_cells h2
  exact ⟨rest,rfl,h3⟩
theorem hold_nopin {loc:Nat → Value} {a:Act} {w:World} {f:Nat} {L:List Nat} (hg:G C σ loc a w) (h:loc f = encV L):¬ C.pin f:=fun hp => by
 obtain ⟨_,h2,h3⟩:=hg.pin f hp
 rw [← h2,h] at h3
 cases h3
theorem Gam_absorb {f d t j:Nat} {rows:List RB} {l:List UInt8} {cap:Nat} (hfd:f ≠ d) (hof:σ.own f = hold rows none) (hod:σ.own d = .box (cellsG bcd l j)) (ht:σ.env t = .vw 1 d 0 l.length cap) (hcap:cap ≤ l.length + j) :
  ∀ a w,Gam C σ a w → ∃ b o,Gam C ⟨upd σ.env t (.c (.raw (RB.val ⟨b,o,l,cap⟩))),upd (upd σ.own d .none) f (hold (rows ++ [⟨b,o,l,cap⟩]) none)⟩ a w:=by
 rintro a w ⟨loc,hg⟩
 have h1:=hg.objs d
 rw [hod] at h1
 obtain ⟨b,lv,ty,k1,k2,k3,k4⟩:=h1
 have h2:=hg.objs f
 rw [hof] at h2
 obtain ⟨_,Lg,m1,⟨_,m2,⟨La,m3,m4⟩,m5⟩,m6⟩:=h2
 simp only at m4
 subst m4
 rw [List.append_nil] at m3
 have h3:=hg.slots t
 rw [ht] at h3
 simp only [RepA] at h3
 obtain ⟨b',o,q1,q2,q3,q4,q5⟩:=h3
 rw [k1] at q1
 simp only [Value.pointer.injEq,Option.some.injEq,Addr.mk.injEq,and_true] at q1
 subst q1
 have hbd:∀ x,(σ.own d).has (loc d) x ↔ b = x:=fun x => by rw [hod,k1]; exact Iff.rfl
 have hbf:∀ x,(σ.own f).has (loc f) x ↔ x ∈ Lg:=fun x => by rw [hof,m1]; simp only [hold,Ob.has,footV_encV]
 have hbL:b ∉ Lg:=fun h => hg.disj d f b (fun e => hfd e.symm) ((hbd b).2 rfl) ((hbf b).2 h)
 obtain ⟨rest,rfl,hrl⟩:=bytes_cells k4
 refine ⟨b,o,?_⟩
 obtain ⟨own',hown'⟩ : ∃ own',own' = upd (upd σ.own d .none) f (hold (rows ++ [⟨b,o,l,cap⟩]) none):=⟨_,rfl⟩
 rw [← hown']
 obtain ⟨L',hL'⟩ : ∃ L',L' = Lg ++ [b]:=⟨_,rfl⟩
 obtain ⟨loc',hloc'⟩ : ∃ loc',loc' = upd loc f (encV L'):=⟨_,rfl⟩
 have hf1:loc' f = encV L':=by rw [hloc']; simp [upd]
 have hf2:∀ n,n ≠ f → loc' n = loc n:=fun n hn => by rw [hloc']; simp [upd,hn]
 have ho1:own' f = hold (rows ++ [⟨b,o,l,cap⟩]) none:=by rw [hown']; simp [upd]
 have ho2:own' d = .none:=by rw [hown']; simp [upd,Ne.symm hfd]
 have ho3:∀ n,n ≠ f → n ≠ d → own' n = σ.own n:=fun n h1 h2 => by rw [hown']; simp [upd,h1,h2]
 have hl:∀ n,(loc n).oneCell' = true → loc' n = loc n:=fun n hn => by
  by_cases e:n = f
  ·subst e; rw [m1,encV_one] at hn; cases hn
  ·exact hf2 n e
 have hhas:∀ n x,(own' n).has (loc' n) x → (n ≠ d ∧ (σ.own n).has (loc n) x) ∨ (n = f ∧ x = b):=by
  intro n x h
  by_cases e:n = f
  ·subst e
   rw [ho1,hf1] at h
   simp only [hold,Ob.has,footV_encV,hL',List.mem_append,List.mem_singleton] at h
   rcases h with h | h
   ·exact .inl ⟨hfd,(hbf x).2 h⟩
   ·exact .inr ⟨rfl,h⟩
  ·by_cases e2:n = d
   ·subst e2; rw [ho2] at h; exact (Ob.has_none _ _ h).elim
   ·rw [ho3 n e e2,hf2 n e] at h
    exact .inl ⟨e2,h⟩
 refine ⟨loc',hg.reown (fun n hn => hf2 n fun e => hold_nopin hg m1 (e ▸ hn)) (fun s => ?_) (fun x y hm => ?_) (fun x ⟨n,h⟩ => ?_) (fun n => ?_) (fun n m x hnm h1 h2 => ?_)⟩
 ·by_cases e:s = t
  ·subst e
   simp only [upd,if_true,RepA,RepC]
   exact ⟨q2,rfl⟩
  ·simp only [upd,e,if_false]
   exact RepA.reloc hl (hg.slots s)
 ·obtain ⟨n,h⟩:=hm
  by_cases e:n = f
  ·subst e
   rw [ho1,hf1] at h
   simp only [hold,Ob.mut,footV_encV,hL',List.mem_append,List.mem_singleton] at h
   rcases h with h | rfl
   ·exact ⟨n,by rw [hof,m1]; simp only [hold,Ob.mut,footV_encV]; exact h⟩
   ·exact ⟨d,by rw [hod,k1]; rfl⟩
  ·by_cases e2:n = d
   ·subst e2; rw [ho2] at h; exact (Ob.has_none _ _ (Ob.has_of_mut h)).elim
   ·rw [ho3 n e e2,hf2 n e] at h
    exact ⟨n,h⟩
 ·rcases hhas n x h with ⟨_,h'⟩ | ⟨_,rfl⟩
  ·exact ⟨n,h'⟩
  ·exact ⟨d,(hbd _).2 rfl⟩
 ·by_cases e:n = f
  ·subst e
   rw [ho1,hf1]
   refine ⟨gF_ok _ _ _,L',rfl,⟨rfl,?_,⟨[],by rw [hL',m3]; simp,rfl⟩,fun r hr => ?_⟩,fun x hx => ?_⟩
   ·rw [hL']
    exact List.nodup_append.2 ⟨m2,by simp,fun x hx y hy => by simp at hy; subst hy; rintro rfl; exact hbL hx⟩
   ·rcases List.mem_append.1 hr with hr | hr
    ·exact m5 r hr
    ·simp only [List.mem_singleton] at hr
     subst hr
     exact ⟨rest,ty,k3,by simp only; omega,q4,q5,q3⟩
   ·rw [hL'] at hx
    rcases List.mem_append.1 hx with hx | hx
    ·exact m6 x hx
    ·simp only [List.mem_singleton] at hx
     subst hx
     exact ⟨k3.lt,k2⟩
  ·by_cases e2:n = d
   ·subst e2; rw [ho2]; trivial
   ·rw [ho3 n e e2,hf2 n e]
    exact ObOk.reloc hl (hg.objs n)
 ·rcases hhas n x h1 with ⟨n1,h1'⟩ | ⟨a1,a2⟩ <;> rcases hhas m x h2 with ⟨m1',h2'⟩ | ⟨b1,b2⟩
  ·exact hg.disj n m x hnm h1' h2'
  ·exact hg.disj n d x n1 h1' ((hbd x).2 b2.symm)
  ·exact hg.disj m d x m1' h2' ((hbd x).2 a2.symm)
  ·exact hnm (a1.trans b1.symm)
theorem raws_rep {w:World} {M:Cells} {loc:Nat → Value}:∀ S:List RB,RepAs w M loc (cellsG RB.cd S 0) (S.map RB.val)
 | [] => by simp [cellsG,flatG,RepAs]
 | r :: S => by
  have ih:=raws_rep (w:=w) (M:=M) (loc:=loc) S
  have e:cellsG RB.cd (r :: S) 0 = .c (.raw r.val) :: cellsG RB.cd S 0:=by simp [cellsG,flatG,RB.cd]
  rw [e]
  simp only [List.map_cons,RepAs,RepA,RepC]
  exact ⟨_,_,rfl,⟨rfl,rfl⟩,ih⟩
theorem nons_rep {w:World} {M:Cells} {loc:Nat → Value}:∀ l:List Value,RepAs w M loc (List.replicate l.length .non) l
 | [] => by simp [RepAs]
 | x :: l => by simp only [List.length_cons,List.replicate_succ,RepAs,RepA]; exact ⟨x,l,rfl,trivial,nons_rep l⟩
theorem raws_cells {w:World} {M:Cells} {loc:Nat → Value} {j:Nat}:∀ {S:List RB} {lv:List Value},RepAs w M loc (cellsG RB.cd S j) lv → ∃ rest,lv = S.map RB.val ++ rest ∧ rest.length = j
 | [],lv,h => ⟨lv,rfl,by have:=h.length; simpa [cellsG,flatG] using this⟩
 | r :: S,lv,h => by
  have e:cellsG RB.cd (r :: S) j = .c (.raw r.val) :: cellsG RB.cd S j:=by simp [cellsG,flatG,RB.cd]
  rw [e] at h
  simp only [RepAs,RepA,RepC] at h
  obtain ⟨v,vs,rfl,⟨rfl,_⟩,h2⟩:=h
  obtain ⟨rest,rfl,h3⟩:=raws_cells h2
  exact ⟨rest,rfl,h3⟩
end
end Go.V

/-
 The same of an array that a variable's cell refers to; rows that are held,taken apart.
-/
namespace Go.V
section
variable {C:Ctx} {σ:St}
theorem Gam_takeB {f d q:Nat} {rows:List RB} {v:Value} (hfd:f ≠ d) (hof:σ.own f = hold rows (some v)) (hod:σ.own d = .none) (hpd:¬ C.pin d) (hqf:q ≠ f) (hqd:q ≠ d) (hoq:σ.own q = .box [.c (.raw v)]) :
  ∀ a w,Gam C σ a w → ∃ cap j,rows.length ≤ cap ∧ cap ≤ maxLen ∧ cap ≤ rows.length + j ∧ Gam C ⟨prgE d σ.env,upd (upd (upd (prgO d σ.own) q (.box [.vw 1 d 0 rows.length cap])) d (.box (cellsG RB.cd rows j))) f (hold rows none)⟩ a w:=by
 rintro a w ⟨loc0,hg0⟩
 have hg:=hg0.forget hod hpd
 obtain ⟨loc,hloc⟩ : ∃ loc,loc = upd loc0 d undef:=⟨_,rfl⟩
 obtain ⟨τ,hτ⟩ : ∃ τ:St,τ = ⟨prgE d σ.env,prgO d σ.own⟩:=⟨_,rfl⟩
 rw [← hloc,← hτ] at hg
 have hd0:loc d = undef:=by rw [hloc]; simp [upd]
 have hof':τ.own f = hold rows (some v):=by rw [hτ]; show (σ.own f).prg d = _; rw [hof]; rfl
 have hod':τ.own d = .none:=by rw [hτ]; show (σ.own d).prg d = _; rw [hod]; rfl
 have hoq':τ.own q = .box [.c (.raw v)]:=by rw [hτ]; show (σ.own q).prg d = _; rw [hoq]; rfl
 have h2:=hg.objs f
 rw [hof'] at h2
 obtain ⟨_,Lg,m1,⟨_,m2,⟨La,m3,g,cap,rest,ty,q1,q2,q3,q4,q5,q6⟩,m5⟩,m6⟩:=h2
 subst q2
 have hbf:∀ x,(τ.own f).has (loc f) x ↔ x ∈ Lg:=fun x => by rw [hof',m1]; simp only [hold,Ob.has,footV_encV]
 refine ⟨cap,rest.length,q4,q5,q6,?_⟩
 obtain ⟨own',hown'⟩ : ∃ own',own' = upd (upd (upd (prgO d σ.own) q (.box [.vw 1 d 0 rows.length cap])) d (.box (cellsG RB.cd rows rest.length))) f (hold rows none):=⟨_,rfl⟩
 rw [← hown']
 have hτo:τ.own = prgO d σ.own:=by rw [hτ]
 have hτe:τ.env = prgE d σ.env:=by rw [hτ]
 rw [← hτe]
 obtain ⟨loc',hloc'⟩ : ∃ loc',loc' = upd (upd loc d (.pointer (some ⟨g,0,none⟩))) f (encV (rows.map RB.b)):=⟨_,rfl⟩
 have hf1:loc' f = encV (rows.map RB.b):=by rw [hloc']; simp [upd]
 have hfd1:loc' d = .pointer (some ⟨g,0,none⟩):=by rw [hloc']; simp [upd,Ne.symm hfd]
 have hf2:∀ n,n ≠ f → n ≠ d → loc' n = loc n:=fun n h1 h2 => by rw [hloc']; simp [upd,h1,h2]
 have ho1:own' f = hold rows none:=by rw [hown']; simp [upd]
 have ho2:own' d = .box (cellsG RB.cd rows rest.length):=by rw [hown']; simp [upd,Ne.symm hfd]
 have ho3:∀ n,n ≠ f → n ≠ d → n ≠ q → own' n = τ.own n:=fun n h1 h2 h3 => by rw [hown',hτo]; simp [upd,h1,h2,h3]
 have ho4:own' q = .box [.vw 1 d 0 rows.length cap]:=by rw [hown']; simp [upd,hqf,hqd]
 have hq3:∀ x y,((own' q).has (loc' q) x ↔ (τ.own q).has (loc q) x) ∧ ((own' q).mut (loc' q) x y ↔ (τ.own q).mut (loc q) x y):=fun x y => by
  rw [ho4,hoq',hf2 q hqf hqd]
  cases loc q <;> first | exact ⟨Iff.rfl,Iff.rfl⟩ | (rename_i p; cases p <;> exact ⟨Iff.rfl,Iff.rfl⟩)
 have hl:∀ n,(loc n).oneCell' = true → loc' n = loc n:=fun n hn => by
  by_cases e1:n = f
  ·subst e1; rw [m1,encV_one] at hn; cases hn
  ·by_cases e2:n = d
   ·subst e2; rw [hd0] at hn; cases hn
   ·exact hf2 n e1 e2
 have hbd:∀ x,(own' d).has (loc' d) x ↔ x = g:=fun x => by rw [ho2,hfd1]; exact ⟨fun h => h.symm,fun h => h.symm⟩
 have hnd:=List.nodup_append.1 (m3 ▸ m2)
 have hhas:∀ n x,(own' n).has (loc' n) x → (n ≠ f ∧ n ≠ d ∧ (τ.own n).has (loc n) x) ∨ (n = f ∧ x ∈ rows.map RB.b) ∨ (n = d ∧ x ∈ [g]):=by
  intro n x h
  by_cases e1:n = f
  ·subst e1
   rw [ho1,hf1] at h
   simp only [hold,Ob.has,footV_encV] at h
   exact .inr (.inl ⟨rfl,h⟩)
  ·by_cases e2:n = d
   ·subst e2; exact .inr (.inr ⟨rfl,by simpa using (hbd x).1 h⟩)
   ·refine .inl ⟨e1,e2,?_⟩
    by_cases e3:n = q
    ·subst e3; exact (hq3 x 0).1.1 h
    ·rw [ho3 n e1 e2 e3,hf2 n e1 e2] at h; exact h
 have hLa:∀ x,x ∈ [g] → x ∈ Lg:=fun x h => by rw [m3]; exact List.mem_append_right _ h
 have hLr:∀ x,x ∈ rows.map RB.b → x ∈ Lg:=fun x h => by rw [m3]; exact List.mem_append_left _ h
 refine ⟨loc',hg.reown (fun n hn => hf2 n (fun e => hold_nopin hg m1 (e ▸ hn)) (fun e => hpd (e ▸ hn))) (fun s => ?_) (fun x y hm => ?_) (fun x ⟨n,h⟩ => ?_) (fun n => ?_) (fun n m x hnm h1 h2 => ?_)⟩
 ·exact RepA.reloc hl (hg.slots s)
 ·obtain ⟨n,h⟩:=hm
  rcases hhas n x (Ob.has_of_mut h) with ⟨e1,e2,_⟩ | ⟨rfl,hx⟩ | ⟨rfl,hx⟩
  ·by_cases e3:n = q
   ·subst e3; exact ⟨n,(hq3 x y).2.1 h⟩
   ·rw [ho3 n e1 e2 e3,hf2 n e1 e2] at h
    exact ⟨n,h⟩
  ·exact ⟨n,by rw [hof',m1]; simp only [hold,Ob.mut,footV_encV]; exact hLr x hx⟩
  ·exact ⟨f,by rw [hof',m1]; simp only [hold,Ob.mut,footV_encV]; exact hLa x hx⟩
 ·rcases hhas n x h with ⟨_,_,h'⟩ | ⟨rfl,hx⟩ | ⟨rfl,hx⟩
  ·exact ⟨n,h'⟩
  ·exact ⟨n,(hbf x).2 (hLr x hx)⟩
  ·exact ⟨f,(hbf x).2 (hLa x hx)⟩
 ·by_cases e1:n = f
  ·subst e1
   rw [ho1,hf1]
   exact ⟨gF_ok _ _ _,_,rfl,⟨rfl,hnd.1,⟨[],by simp,rfl⟩,m5⟩,fun x hx => m6 x (hLr x hx)⟩
  ·by_cases e2:n = d
   ·subst e2
    rw [ho2,hfd1]
    refine ⟨g,rows.map RB.val ++ rest,ty,rfl,(m6 g (hLa g (by simp))).2,q3,?_⟩
    have e:cellsG RB.cd rows rest.length = cellsG RB.cd rows 0 ++ List.replicate rest.length .non:=by simp [cellsG]
    rw [e]
    exact (raws_rep rows).append (nons_rep rest)
   ·by_cases e3:n = q
    ·subst e3
     rw [ho4,hf2 n e1 e2]
     have hqo:=hg.objs n
     rw [hoq'] at hqo
     obtain ⟨b2,l2,t2,w1,w2,w3,w4⟩:=hqo
     refine ⟨b2,l2,t2,w1,w2,w3,?_⟩
     simp only [RepAs,RepA,RepC] at w4
     obtain ⟨v1,vs1,rfl,⟨rfl,_⟩,rfl⟩:=w4
     simp only [RepAs,RepA]
     exact ⟨_,_,rfl,⟨g,0,hfd1,q1,fun _ => rfl,q4,q5⟩,rfl⟩
    ·rw [ho3 n e1 e2 e3,hf2 n e1 e2]
     exact ObOk.reloc hl (hg.objs n)
 ·have hne:∀ n x,n ≠ f → x ∈ Lg → (τ.own n).has (loc n) x → False:=fun n x hn hx h => hg.disj n f x hn h ((hbf x).2 hx)
  rcases hhas n x h1 with ⟨a1,a2,h1'⟩ | ⟨a1,hx⟩ | ⟨a1,hx⟩ <;> rcases hhas m x h2 with ⟨b1,b2,h2'⟩ | ⟨b1,hy⟩ | ⟨b1,hy⟩
  ·exact hg.disj n m x hnm h1' h2'
  ·exact hne n x a1 (hLr x hy) h1'
  ·exact hne n x a1 (hLa x hy) h1'
  ·exact hne m x b1 (hLr x hx) h2'
  ·exact hnm (a1.trans b1.symm)
  ·exact hnd.2.2 x hx x hy rfl
  ·exact hne m x b1 (hLa x hx) h2'
  ·exact hnd.2.2 x hy x hx rfl
  ·exact hnm (a1.trans b1.symm)
theorem Gam_giveB {f d q j cap:Nat} {rows:List RB} (hfd:f ≠ d) (hof:σ.own f = hold rows none) (hod:σ.own d = .box (cellsG RB.cd rows j)) (hqf:q ≠ f) (hqd:q ≠ d) (hoq:σ.own q = .box [.vw 1 d 0 rows.length cap]) (hpos:0 < rows.length) (hcap:cap ≤ rows.length + j) :
  ∀ a w,Gam C σ a w → ∃ v,Gam C ⟨σ.env,upd (upd (upd σ.own q (.box [.c (.raw v)])) d .none) f (hold rows (some v))⟩ a w:=by
 rintro a w ⟨loc,hg⟩
 have h1:=hg.objs d
 rw [hod] at h1
 obtain ⟨b,lv,ty,k1,k2,k3,k4⟩:=h1
 have h2:=hg.objs f
 rw [hof] at h2
 obtain ⟨_,Lg,m1,⟨_,m2,⟨La,m3,m4⟩,m5⟩,m6⟩:=h2
 simp only at m4
 subst m4
 rw [List.append_nil] at m3
 have h3:=hg.objs q
 rw [hoq] at h3
 obtain ⟨b3,l3,t3,w1,w2,w3,w4⟩:=h3
 simp only [RepAs,RepA] at w4
 obtain ⟨v1,vs1,rfl,⟨b',o,q1,q2,q3,q4,q5⟩,rfl⟩:=w4
 rw [k1] at q1
 simp only [Value.pointer.injEq,Option.some.injEq,Addr.mk.injEq,and_true] at q1
 subst q1
 have ho0:o = 0:=q3 (by omega)
 subst ho0
 have hbd:∀ x,(σ.own d).has (loc d) x ↔ b = x:=fun x => by rw [hod,k1]; exact Iff.rfl
 have hbf:∀ x,(σ.own f).has (loc f) x ↔ x ∈ Lg:=fun x => by rw [hof,m1]; simp only [hold,Ob.has,footV_encV]
 have hbL:b ∉ Lg:=fun h => hg.disj d f b (fun e => hfd e.symm) ((hbd b).2 rfl) ((hbf b).2 h)
 obtain ⟨rest,rfl,hrl⟩:=raws_cells k4
 refine ⟨.slice (some ⟨b,0,none⟩) rows.length cap,?_⟩
 obtain ⟨own',hown'⟩ : ∃ own',own' = upd (upd (upd σ.own q (.box [.c (.raw (.slice (some ⟨b,0,none⟩) rows.length cap))])) d .none) f (hold rows (some (.slice (some ⟨b,0,none⟩) rows.length cap))):=⟨_,rfl⟩
 rw [← hown']
 obtain ⟨L',hL'⟩ : ∃ L',L' = Lg ++ [b]:=⟨_,rfl⟩
 obtain ⟨loc',hloc'⟩ : ∃ loc',loc' = upd loc f (encV L'):=⟨_,rfl⟩
 have hf1:loc' f = encV L':=by rw [hloc']; simp [upd]
 have hf2:∀ n,n ≠ f → loc' n = loc n:=fun n hn => by rw [hloc']; simp [upd,hn]
 have ho1:own' f = hold rows (some (.slice (some ⟨b,0,none⟩) rows.length cap)):=by rw [hown']; simp [upd]
 have ho2:own' d = .none:=by rw [hown']; simp [upd,Ne.symm hfd]
 have ho3:∀ n,n ≠ f → n ≠ d → n ≠ q → own' n = σ.own n:=fun n h1 h2 h3 => by rw [hown']; simp [upd,h1,h2,h3]
 have ho4:own' q = .box [.c (.raw (.slice (some ⟨b,0,none⟩) rows.length cap))]:=by rw [hown']; simp [upd,hqf,hqd]
 have hq3:∀ x y,((own' q).has (loc' q) x ↔ (σ.own q).has (loc q) x) ∧ ((own' q).mut (loc' q) x y ↔ (σ.own q).mut (loc q) x y):=fun x y => by
  rw [ho4,hoq,hf2 q hqf]
  cases loc q <;> first | exact ⟨Iff.rfl,Iff.rfl⟩ | (rename_i p; cases p <;> exact ⟨Iff.rfl,Iff.rfl⟩)
 have hl:∀ n,(loc n).oneCell' = true → loc' n = loc n:=fun n hn => by
  by_cases e:n = f
  ·subst e; rw [m1,encV_one] at hn; cases hn
  ·exact hf2 n e
 have hhas:∀ n x,(own' n).has (loc' n) x → (n ≠ d ∧ (σ.own n).has (loc n) x) ∨ (n = f ∧ x = b):=by
  intro n x h
  by_cases e:n = f
  ·subst e
   rw [ho1,hf1] at h
   simp only [hold,Ob.has,footV_encV,hL',List.mem_append,List.mem_singleton] at h
   rcases h with h | h
   ·exact .inl ⟨hfd,(hbf x).2 h⟩
   ·exact .inr ⟨rfl,h⟩
  ·by_cases e2:n = d
   ·subst e2; rw [ho2] at h; exact (Ob.has_none _ _ h).elim
   ·refine .inl ⟨e2,?_⟩
    by_cases e3:n = q
    ·subst e3; exact (hq3 x 0).1.1 h
    ·rw [ho3 n e e2 e3,hf2 n e] at h; exact h
 refine ⟨loc',hg.reown (fun n hn => hf2 n fun e => hold_nopin hg m1 (e ▸ hn)) (fun s => ?_) (fun x y hm => ?_) (fun x ⟨n,h⟩ => ?_) (fun n => ?_) (fun n m x hnm h1 h2 => ?_)⟩
 ·exact RepA.reloc hl (hg.slots s)
 ·obtain ⟨n,h⟩:=hm
  by_cases e:n = f
  ·subst e
   rw [ho1,hf1] at h
   simp only [hold,Ob.mut,footV_encV,hL',List.mem_append,List.mem_singleton] at h
   rcases h with h | rfl
   ·exact ⟨n,by rw [hof,m1]; simp only [hold,Ob.mut,footV_encV]; exact h⟩
   ·exact ⟨d,by rw [hod,k1]; rfl⟩
  ·by_cases e2:n = d
   ·subst e2; rw [ho2] at h; exact (Ob.has_none _ _ (Ob.has_of_mut h)).elim
   ·by_cases e3:n = q
    ·subst e3; exact ⟨n,(hq3 x y).2.1 h⟩
    ·rw [ho3 n e e2 e3,hf2 n e] at h
     exact ⟨n,h⟩
 ·rcases hhas n x h with ⟨_,h'⟩ | ⟨_,rfl⟩
  ·exact ⟨n,h'⟩
  ·exact ⟨d,(hbd _).2 rfl⟩
 ·by_cases e:n = f
  ·subst e
   rw [ho1,hf1]
   refine ⟨gF_ok _ _ _,L',rfl,⟨rfl,?_,⟨[b],by rw [hL',m3],b,cap,rest,ty,rfl,rfl,k3,q4,q5,by omega⟩,m5⟩,fun x hx => ?_⟩
   ·rw [hL']
    exact List.nodup_append.2 ⟨m2,by simp,fun x hx y hy => by simp at hy; subst hy; rintro rfl; exact hbL hx⟩
   ·rw [hL'] at hx
    rcases List.mem_append.1 hx with hx | hx
    ·exact m6 x hx
    ·simp only [List.mem_singleton] at hx
     subst hx
     exact ⟨k3.lt,k2⟩
  ·by_cases e2:n = d
   ·subst e2; rw [ho2]; trivial
   ·by_cases e3:n = q
    ·subst e3
     rw [ho4,hf2 n e]
     refine ⟨b3,_,t3,w1,w2,w3,?_⟩
     simp only [RepAs,RepA,RepC]
     exact ⟨_,_,rfl,⟨q2,rfl⟩,rfl⟩
    ·rw [ho3 n e e2 e3,hf2 n e]
     exact ObOk.reloc hl (hg.objs n)
 ·rcases hhas n x h1 with ⟨n1,h1'⟩ | ⟨a1,a2⟩ <;> rcases hhas m x h2 with ⟨m1',h2'⟩ | ⟨b1,b2⟩
  ·exact hg.disj n m x hnm h1' h2'
  ·exact hg.disj n d x n1 h1' ((hbd x).2 b2.symm)
  ·exact hg.disj m d x m1' h2' ((hbd x).2 a2.symm)
  ·exact hnm (a1.trans b1.symm)
end
end Go.V

/-
 Rows that are held,taken apart: a slice of slices of rows,each an object of its own.
-/
namespace Go.V
section
variable {C:Ctx} {σ:St}
theorem rows_ex {w:World}:∀ {rows:List RB},(∀ r ∈ rows,∃ rest ty,AtC w r.b (r.l.map bval ++ rest) ty ∧ r.cap ≤ r.l.length + rest.length ∧ r.l.length ≤ r.cap ∧ r.cap ≤ maxLen ∧ (0 < r.cap → r.o = 0)) →
  ∃ R:List (Row UInt8),R.length = rows.length ∧ ∀ i (h:i < rows.length) (h':i < R.length),(R[i]).l = (rows[i]).l ∧ (R[i]).cap = (rows[i]).cap ∧ (rows[i]).cap ≤ (R[i]).l.length + (R[i]).j ∧ (R[i]).l.length ≤ (R[i]).cap ∧ (R[i]).cap ≤ maxLen ∧ (0 < (R[i]).cap → (rows[i]).o = 0) ∧
   ∃ rest ty,AtC w (rows[i]).b ((rows[i]).l.map bval ++ rest) ty ∧ rest.length = (R[i]).j
 | [],_ => ⟨[],rfl,fun i h => by simp at h⟩
 | r :: rows,hr => by
  obtain ⟨R,h1,h2⟩:=rows_ex (rows:=rows) fun x hx => hr x (by simp [hx])
  obtain ⟨rest,ty,k1,k2,k3,k4,k5⟩:=hr r (by simp)
  refine ⟨⟨r.l,rest.length,r.cap⟩ :: R,by simp [h1],fun i h h' => ?_⟩
  match i,h,h' with
  | 0,_,_ => exact ⟨rfl,rfl,k2,k3,k4,k5,rest,ty,k1,rfl⟩
  | i + 1,h,h' => exact h2 i (by simpa using h) (by simpa using h')
theorem refs_rep {w:World} {M:Cells} {loc:Nat → Value}:∀ (R:List (Row UInt8)) (rows:List RB) (k:Nat),R.length = rows.length →
  (∀ i (h:i < rows.length) (h':i < R.length),(R[i]).l.length = (rows[i]).l.length ∧ (R[i]).cap = (rows[i]).cap ∧ (R[i]).l.length ≤ (R[i]).cap ∧ (R[i]).cap ≤ maxLen ∧ (0 < (R[i]).cap → (rows[i]).o = 0) ∧ loc (i + k + 1001) = .pointer (some ⟨(rows[i]).b,0,none⟩)) →
  RepAs w M loc (refs 1001 1 k R) (rows.map RB.val)
 | [],[],k,_,_ => by simp [refs,RepAs]
 | [],_ :: _,_,h,_ => by simp at h
 | _ :: _,[],_,h,_ => by simp at h
 | r :: R,b :: rows,k,hl,h => by
  obtain ⟨h1,h2,h3,h4,h5,h6⟩:=h 0 (by simp) (by simp)
  simp only [List.getElem_cons_zero,Nat.zero_add] at h1 h2 h3 h4 h5 h6
  have ih:=refs_rep (w:=w) (M:=M) (loc:=loc) R rows (k + 1) (by simpa using hl) fun i hi hi' => by
   have:=h (i + 1) (by simpa using hi) (by simpa using hi')
   simp only [List.getElem_cons_succ] at this
   rw [show i + (k + 1) + 1001 = i + 1 + k + 1001 from by omega]
   exact this
  simp only [refs,List.map_cons,RepAs,RepA]
  exact ⟨_,_,rfl,⟨b.b,b.o,h6,by rw [RB.val,h1,h2],h5,h3,h4⟩,ih⟩
theorem Gam_explode {f q:Nat} {rows:List RB} {v:Value} (hof:σ.own f = hold rows (some v)) (hqf:q ≠ f) (hf1000:f < 1000) (hq1000:q < 1000) (hoq:σ.own q = .box [.c (.raw v)]) (hno:∀ n ∈ gnum rows.length,¬ C.pin n ∧ (σ.own n).isNone = true) (hE:prgEs (gnum rows.length) σ.env = σ.env) (hO:prgOs (gnum rows.length) σ.own = σ.own) :
  ∀ a w,Gam C σ a w → ∃ (R:List (Row UInt8)) (j cap:Nat),R.map Row.l = rows.map RB.l ∧ R.length ≤ cap ∧ cap ≤ maxLen ∧ cap ≤ R.length + j ∧ (∀ r ∈ R,r.l.length ≤ r.cap ∧ r.cap ≤ maxLen ∧ r.cap ≤ r.l.length + r.j) ∧
   Gam C ⟨σ.env,gown bcd 1 R j (upd (upd σ.own q (.box [.vw 1 1000 0 R.length cap])) f .none)⟩ a w:=by
 rintro a w ⟨loc0,hg0⟩
 have hg:=G.forgets hg0 hno
 rw [hE,hO] at hg
 obtain ⟨loc,hloc⟩ : ∃ loc,loc = updU (gnum rows.length) loc0:=⟨_,rfl⟩
 rw [← hloc] at hg
 have hnu:∀ n ∈ gnum rows.length,loc n = undef:=fun n hn => by rw [hloc]; exact updU_in hn
 have h2:=hg.objs f
 simp only at h2
 rw [hof] at h2
 obtain ⟨_,Lg,m1,⟨_,m2,⟨La,m3,g,cap,rest,ty,q1,q2,q3,q4,q5,q6⟩,m5⟩,m6⟩:=h2
 subst q2
 obtain ⟨R,hRl,hR⟩:=rows_ex m5
 have hlm:R.map Row.l = rows.map RB.l:=by
  refine List.ext_getElem (by simp [hRl]) fun i h1 h2 => ?_
  simp only [List.getElem_map]
  exact (hR i (by simpa using h2) (by simpa using h1)).1
 refine ⟨R,rest.length,cap,hlm,by omega,q5,by omega,fun r hr => ?_,?_⟩
 ·obtain ⟨i,hi,rfl⟩:=List.getElem_of_mem hr
  obtain ⟨k1,k2,k3,k4,k5,_⟩:=hR i (by omega) hi
  exact ⟨k4,k5,by omega⟩
 obtain ⟨own',hown'⟩ : ∃ own',own' = gown bcd 1 R rest.length (upd (upd σ.own q (.box [.vw 1 1000 0 R.length cap])) f .none):=⟨_,rfl⟩
 rw [← hown']
 have hgm:∀ n,n ∈ gnum rows.length ↔ 1000 ≤ n ∧ n < rows.length + 1001:=by
  intro n
  simp only [gnum,List.mem_append,List.mem_singleton,rng,List.mem_map,List.mem_range]
  constructor
  ·rintro (rfl | ⟨i,hi,rfl⟩) <;> omega
  ·rintro ⟨h1,h2⟩
   by_cases h:n = 1000
   ·exact .inl h
   ·exact .inr ⟨n - 1001,by omega,by omega⟩
 obtain ⟨loc',hloc'⟩ : ∃ loc':Nat → Value,loc' = fun n => if n = 1000 then .pointer (some ⟨g,0,none⟩) else if 1001 ≤ n then (match rows[n - 1001]? with | some r => .pointer (some ⟨r.b,0,none⟩) | none => loc n) else loc n:=⟨_,rfl⟩
 have hl0:loc' 1000 = .pointer (some ⟨g,0,none⟩):=by rw [hloc']; simp only; rw [if_pos trivial]
 have hl1:∀ i (h:i < rows.length),loc' (i + 1001) = .pointer (some ⟨(rows[i]).b,0,none⟩):=fun i h => by
  rw [hloc']
  simp only
  rw [if_neg (by omega),if_pos (by omega),Nat.add_sub_cancel,List.getElem?_eq_getElem h]
 have hl2:∀ n,n ∉ gnum rows.length → loc' n = loc n:=fun n hn => by
  rw [hgm] at hn
  rw [hloc']
  simp only
  rw [if_neg (by omega)]
  split
  ·rw [List.getElem?_eq_none (by omega)]
  ·rfl
 have hl:∀ n,(loc n).oneCell' = true → loc' n = loc n:=fun n hn => by
  by_cases e1:n ∈ gnum rows.length
  ·rw [hnu n e1] at hn; cases hn
  ·exact hl2 n e1
 have hnf:f ∉ gnum rows.length:=by rw [hgm]; omega
 have hnq:q ∉ gnum rows.length:=by rw [hgm]; omega
 have ho0:own' 1000 = gridOb 1 R rest.length:=by rw [hown']; exact gown_grid
 have ho1:∀ i (h:i < R.length),own' (i + 1001) = (R[i]).ob bcd:=fun i h => by rw [hown']; exact gown_row h
 have ho2:∀ n,n ∉ gnum rows.length → own' n = if n = f then .none else if n = q then .box [.vw 1 1000 0 R.length cap] else σ.own n:=fun n hn => by
  rw [hgm] at hn
  have:own' n = upd (upd σ.own q (.box [.vw 1 1000 0 R.length cap])) f .none n:=by
   rw [hown']
   by_cases h:n < 1000
   ·exact gown_lo h
   ·exact gown_hi (by omega)
  rw [this]
  simp only [upd]
 have hin:∀ n,n ∈ gnum rows.length → n = 1000 ∨ ∃ i,i < rows.length ∧ n = i + 1001:=fun n hn => by
  rw [hgm] at hn
  by_cases h:n = 1000
  ·exact .inl h
  ·exact .inr ⟨n - 1001,by omega,by omega⟩
 have hbf:∀ x,(σ.own f).has (loc f) x ↔ x ∈ Lg:=fun x => by rw [hof,m1]; simp only [hold,Ob.has,footV_encV]
 have hqh:∀ x y,((own' q).has (loc' q) x ↔ (σ.own q).has (loc q) x) ∧ ((own' q).mut (loc' q) x y ↔ (σ.own q).mut (loc q) x y):=fun x y => by
  rw [ho2 q hnq,if_neg hqf,if_pos rfl,hoq,hl2 q hnq]
  cases loc q <;> first | exact ⟨Iff.rfl,Iff.rfl⟩ | (rename_i p; cases p <;> exact ⟨Iff.rfl,Iff.rfl⟩)
 have hhas:∀ n x,(own' n).has (loc' n) x → (n ∉ gnum rows.length ∧ n ≠ f ∧ (σ.own n).has (loc n) x) ∨ (n = 1000 ∧ x = g) ∨ (∃ i,∃ h:i < rows.length,n = i + 1001 ∧ x = (rows[i]).b):=by
  intro n x h
  by_cases e1:n ∈ gnum rows.length
  ·rcases hin n e1 with rfl | ⟨i,hi,rfl⟩
   ·rw [ho0,hl0] at h
    exact .inr (.inl ⟨rfl,h.symm⟩)
   ·rw [ho1 i (by omega),hl1 i hi] at h
    exact .inr (.inr ⟨i,hi,rfl,h.symm⟩)
  ·left
   by_cases e2:n = f
   ·rw [ho2 n e1,if_pos e2] at h; exact (Ob.has_none _ _ h).elim
   ·refine ⟨e1,e2,?_⟩
    by_cases e3:n = q
    ·subst e3; exact (hqh x 0).1.1 h
    ·rw [ho2 n e1,if_neg e2,if_neg e3,hl2 n e1] at h; exact h
 have hnd:=List.nodup_append.1 (m3 ▸ m2)
 have hLg0:g ∈ Lg:=by rw [m3]; simp
 have hLg1:∀ i (h:i < rows.length),(rows[i]).b ∈ Lg:=fun i h => by rw [m3]; exact List.mem_append_left _ (List.mem_map_of_mem (List.getElem_mem h))
 refine ⟨loc',hg.reown (fun n hn => ?_) (fun s => RepA.reloc hl (hg.slots s)) (fun x y hm => ?_) (fun x ⟨n,h⟩ => ?_) (fun n => ?_) (fun n m x hnm h1 h2 => ?_)⟩
 ·exact hl2 n fun e => (hno n e).1 hn
 ·obtain ⟨n,h⟩:=hm
  have hLm:∀ x,x ∈ Lg → Mut σ.own loc x y:=fun x hx => ⟨f,by rw [hof,m1]; simp only [hold,Ob.mut,footV_encV]; exact hx⟩
  rcases hhas n x (Ob.has_of_mut h) with ⟨e1,e2,_⟩ | ⟨rfl,rfl⟩ | ⟨i,hi,rfl,rfl⟩
  ·by_cases e3:n = q
   ·subst e3; exact ⟨n,(hqh x y).2.1 h⟩
   ·rw [ho2 n e1,if_neg e2,if_neg e3,hl2 n e1] at h
    exact ⟨n,h⟩
  ·exact hLm _ hLg0
  ·exact hLm _ (hLg1 i hi)
 ·rcases hhas n x h with ⟨_,_,h'⟩ | ⟨rfl,rfl⟩ | ⟨i,hi,rfl,rfl⟩
  ·exact ⟨n,h'⟩
  ·exact ⟨f,(hbf _).2 hLg0⟩
  ·exact ⟨f,(hbf _).2 (hLg1 i hi)⟩
 ·by_cases e1:n ∈ gnum rows.length
  ·rcases hin n e1 with rfl | ⟨i,hi,rfl⟩
   ·rw [ho0,hl0]
    refine ⟨g,rows.map RB.val ++ rest,ty,rfl,(m6 g hLg0).2,q3,?_⟩
    refine (refs_rep R rows 0 hRl fun i h h' => ?_).append (nons_rep rest)
    obtain ⟨k1,k2,k3,k4,k5,k6,_⟩:=hR i h h'
    exact ⟨by rw [k1],k2,k4,k5,k6,hl1 i h⟩
   ·have hi':i < R.length:=by omega
    rw [ho1 i hi',hl1 i hi]
    obtain ⟨k1,k2,k3,k4,k5,k6,rest2,ty2,k7,k8⟩:=hR i hi hi'
    refine ⟨_,_,ty2,rfl,(m6 _ (hLg1 i hi)).2,k7,?_⟩
    have e:cellsG bcd (R[i]).l (R[i]).j = cellsG bcd (rows[i]).l 0 ++ List.replicate rest2.length .non:=by rw [k1,k8]; simp [cellsG]
    rw [e]
    exact (bytes_rep _).append (nons_rep rest2)
  ·rw [ho2 n e1,hl2 n e1]
   split
   ·trivial
   ·split
    ·rename_i _ e3
     subst e3
     have hqo:=hg.objs n
     simp only at hqo
     rw [hoq] at hqo
     obtain ⟨b2,l2,t2,w1,w2,w3,w4⟩:=hqo
     refine ⟨b2,l2,t2,w1,w2,w3,?_⟩
     simp only [RepAs,RepA,RepC] at w4
     obtain ⟨v1,vs1,rfl,⟨rfl,_⟩,rfl⟩:=w4
     simp only [RepAs,RepA]
     exact ⟨_,_,rfl,⟨g,0,hl0,by rw [q1,hRl],fun _ => rfl,by omega,q5⟩,rfl⟩
    ·exact ObOk.reloc hl (hg.objs n)
 ·have hne:∀ n x,n ≠ f → x ∈ Lg → (σ.own n).has (loc n) x → False:=fun n x hn hx h => hg.disj n f x hn h ((hbf x).2 hx)
  have hgb:∀ i (h:i < rows.length),(rows[i]).b ≠ g:=fun i h => hnd.2.2 _ (List.mem_map_of_mem (List.getElem_mem h)) g (by simp)
  rcases hhas n x h1 with ⟨a1,a2,h1'⟩ | ⟨a1,hx⟩ | ⟨i,hi,a1,hx⟩ <;> rcases hhas m x h2 with ⟨b1,b2,h2'⟩ | ⟨b1,hy⟩ | ⟨k,hk,b1,hy⟩
  ·exact hg.disj n m x hnm h1' h2'
  ·exact hne n x a2 (hy ▸ hLg0) h1'
  ·exact hne n x a2 (hy ▸ hLg1 k hk) h1'
  ·exact hne m x b2 (hx ▸ hLg0) h2'
  ·exact hnm (a1.trans b1.symm)
  ·exact hgb k hk (hy.symm.trans hx)
  ·exact hne m x b2 (hx ▸ hLg1 i hi) h2'
  ·exact hgb i hi (hx.symm.trans hy)
  ·have hnb:=hnd.1
   have e:i = k:=by
    have h1:(rows.map RB.b)[i]'(by simpa using hi) = (rows.map RB.b)[k]'(by simpa using hk):=by simp only [List.getElem_map]; rw [← hx,← hy]
    exact (List.getElem_inj hnb).1 h1
   exact hnm (by rw [a1,b1,e])
end
section
variable {C:Ctx} {σ:St} {K:St → Prop} {is:List Ins} {Q:Exit → St → Prop}
theorem SOps_ex {τ:Type} {S:τ → St} {p:τ → Prop} (h:∀ a w,Gam C σ a w → ∃ x,p x ∧ Gam C (S x) a w) (h2:∀ x,p x → SOps C is K (S x)):SOps C is K σ:=fun ops k Q' hQ hi a w hg => by
 obtain ⟨x,hp,hx⟩:=h a w hg
 exact h2 x hp ops k Q' hQ hi a w hx
theorem WV_ex {τ:Type} {v:VC} {S:τ → St} {p:τ → Prop} (h:∀ a w,Gam C σ a w → ∃ x,p x ∧ Gam C (S x) a w) (h2:∀ x,p x → WV C v Q (S x)):WV C v Q σ:=fun c hc a w hg => by
 obtain ⟨x,hp,hx⟩:=h a w hg
 exact h2 x hp c hc a w hx
theorem WV_hold0 {v:VC} (f:Nat) (hn:σ.own f = .none) (hp:f < 1000) (h:WV C v Q ⟨prgE f σ.env,upd (prgO f σ.own) f (hold [] none)⟩):WV C v Q σ :=
 WV_weak (fun a w hg => by
  by_cases hpin:C.pin f
  ·obtain ⟨loc,hg'⟩:=hg
   have:=(hg'.pin f hpin).1
   omega
  ·exact Gam_hold0 hn hpin a w hg) h
theorem SOps_absorb (f d t:Nat) {j:Nat} {rows:List RB} {l:List UInt8} {cap:Nat} (hfd:f ≠ d) (hof:σ.own f = hold rows none) (hod:σ.own d = .box (cellsG bcd l j)) (ht:σ.env t = .vw 1 d 0 l.length cap) (hcap:cap ≤ l.length + j)
  (h:∀ b o,SOps C is K ⟨upd σ.env t (.c (.raw (RB.val ⟨b,o,l,cap⟩))),upd (upd σ.own d .none) f (hold (rows ++ [⟨b,o,l,cap⟩]) none)⟩):SOps C is K σ :=
 SOps_ex (τ:=Nat × Nat) (S:=fun p => ⟨upd σ.env t (.c (.raw (RB.val ⟨p.1,p.2,l,cap⟩))),upd (upd σ.own d .none) f (hold (rows ++ [⟨p.1,p.2,l,cap⟩]) none)⟩) (p:=fun _ => True)
  (fun a w hg => by obtain ⟨b,o,hx⟩:=Gam_absorb hfd hof hod ht hcap a w hg; exact ⟨(b,o),trivial,hx⟩) (fun p _ => h p.1 p.2)
theorem WV_takeB {v:VC} (f d q:Nat) {rows:List RB} {x:Value} (hfd:f ≠ d) (hof:σ.own f = hold rows (some x)) (hod:σ.own d = .none) (hpd:d < 1000) (hqf:q ≠ f) (hqd:q ≠ d) (hoq:σ.own q = .box [.c (.raw x)])
  (h:∀ cap j,rows.length ≤ cap → cap ≤ maxLen → cap ≤ rows.length + j → WV C v Q ⟨prgE d σ.env,upd (upd (upd (prgO d σ.own) q (.box [.vw 1 d 0 rows.length cap])) d (.box (cellsG RB.cd rows j))) f (hold rows none)⟩):WV C v Q σ:=by
 by_cases hpin:C.pin d
 ·intro c hc a w ⟨loc,hg⟩
  have:=(hg.pin d hpin).1
  omega
 ·exact WV_ex (τ:=Nat × Nat) (S:=fun p => ⟨prgE d σ.env,upd (upd (upd (prgO d σ.own) q (.box [.vw 1 d 0 rows.length p.1])) d (.box (cellsG RB.cd rows p.2))) f (hold rows none)⟩) (p:=fun p => rows.length ≤ p.1 ∧ p.1 ≤ maxLen ∧ p.1 ≤ rows.length + p.2)
   (fun a w hg => by obtain ⟨cap,j,h1,h2,h3,hx⟩:=Gam_takeB hfd hof hod hpin hqf hqd hoq a w hg; exact ⟨(cap,j),⟨h1,h2,h3⟩,hx⟩) (fun p hp => h p.1 p.2 hp.1 hp.2.1 hp.2.2)
theorem WV_giveB {v:VC} (f d q:Nat) {j cap:Nat} {rows:List RB} (hfd:f ≠ d) (hof:σ.own f = hold rows none) (hod:σ.own d = .box (cellsG RB.cd rows j)) (hqf:q ≠ f) (hqd:q ≠ d) (hoq:σ.own q = .box [.vw 1 d 0 rows.length cap]) (hpos:0 < rows.length) (hcap:cap ≤ rows.length + j)
  (h:∀ x,WV C v Q ⟨σ.env,upd (upd (upd σ.own q (.box [.c (.raw x)])) d .none) f (hold rows (some x))⟩):WV C v Q σ :=
 WV_ex (p:=fun _ => True) (fun a w hg => by obtain ⟨x,hx⟩:=Gam_giveB hfd hof hod hqf hqd hoq hpos hcap a w hg; exact ⟨x,trivial,hx⟩) (fun x _ => h x)
theorem WV_explode {v:VC} (f q:Nat) {rows:List RB} {x:Value} (hof:σ.own f = hold rows (some x)) (hqf:q ≠ f) (hf1000:f < 1000) (hq1000:q < 1000) (hoq:σ.own q = .box [.c (.raw x)]) (hno:∀ n ∈ gnum rows.length,¬ C.pin n ∧ (σ.own n).isNone = true) (hE:prgEs (gnum rows.length) σ.env = σ.env) (hO:prgOs (gnum rows.length) σ.own = σ.own)
  (h:∀ (R:List (Row UInt8)) (j cap:Nat),R.map Row.l = rows.map RB.l → R.length ≤ cap → cap ≤ maxLen → cap ≤ R.length + j → (∀ r ∈ R,r.l.length ≤ r.cap ∧ r.cap ≤ maxLen ∧ r.cap ≤ r.l.length + r.j) → WV C v Q ⟨σ.env,gown bcd 1 R j (upd (upd σ.own q (.box [.vw 1 1000 0 R.length cap])) f .none)⟩):WV C v Q σ :=
 WV_ex (τ:=List (Row UInt8) × Nat × Nat) (S:=fun p => ⟨σ.env,gown bcd 1 p.1 p.2.1 (upd (upd σ.own q (.box [.vw 1 1000 0 p.1.length p.2.2])) f .none)⟩) (p:=fun p => p.1.map Row.l = rows.map RB.l ∧ p.1.length ≤ p.2.2 ∧ p.2.2 ≤ maxLen ∧ p.2.2 ≤ p.1.length + p.2.1 ∧ (∀ r ∈ p.1,r.l.length ≤ r.cap ∧ r.cap ≤ maxLen ∧ r.cap ≤ r.l.length + r.j))
  (fun a w hg => by obtain ⟨R,j,cap,h1,h2,h3,h4,h5,hx⟩:=Gam_explode hof hqf hf1000 hq1000 hoq hno hE hO a w hg; exact ⟨(R,j,cap),⟨h1,h2,h3,h4,h5⟩,hx⟩) (fun p hp => h p.1 p.2.1 p.2.2 hp.1 hp.2.1 hp.2.2.1 hp.2.2.2.1 hp.2.2.2.2)
end
end Go.V

/-
 Calls of functions that have no text: what the model does at them.
-/
namespace Go.V
theorem AS_extern {P:Program} {d:Option Nat} {f:X} {xs:List X} {K:St → Prop} {σ:St} {fid:FuncId} {fn:Func} {e:Array Value → Sem Value} {args:List AV} {r:AV} (hf:P.funcs[fid]? = some fn) (hname:(fn.name == "runtime.NumGoroutine") = false)
  (hb:fn.body.isNone = true) (hn:Extern.findNext fn = none) (he:Extern.find fn = some e) (hr:r.pureB = true)
  (hrun:∀ (w:World) (M:Cells) (vs:List Value),RepAs w M (fun _ => undef) args vs → ∃ u,(e vs.toArray).run P w = .ok u w ∧ RepA w M (fun _ => undef) r u)
  (h1:(σ.val f).dg = true) (h2:(xs.all fun x => (σ.val x).dg) = true) (h3:(σ.val f).dv = .fn fid []) (h4:AV.portL σ.own (xs.map fun x => (σ.val x).dv) = some args) (hK:K (σ.put d r)):ACallS P d f xs K σ:=by
 refine .inr (.inr (.inr (.inr (.inr (.inr ?_)))))
 intro C loc a w o hP hc hd hdl hg
 subst hP
 obtain ⟨c,f',ho,hcal,hf',hxs⟩:=cI_call hc
 have hfv:=vald hg hf' h1
 rw [h3] at hfv
 simp only [RepA] at hfv
 obtain ⟨l,e1,hl⟩:=hfv
 simp only [RepAs] at hl
 subst hl
 have hargs:∀ (l:List Operand) (l':List X),cXs l = some l' → (l'.all fun x => (σ.val x).dg) = true → RepAs w (MM C σ.own loc) loc (l'.map fun x => (σ.val x).dv) (l.map a.eval):=by
  intro l
  induction l with
  | nil => intro l' h _; simp [cXs] at h; subst h; simp [RepAs]
  | cons x l ih =>
   intro l' h hd
   simp only [cXs,List.mapM_cons,Option.pure_def,Option.bind_eq_bind,Option.bind_eq_some_iff,Option.some.injEq] at h
   obtain ⟨y,hy,ys,hys,rfl⟩:=h
   simp only [List.all_cons,Bool.and_eq_true] at hd
   simp only [List.map_cons,RepAs]
   exact ⟨_,_,rfl,vald hg hy hd.1,ih ys hys hd.2⟩
 have hra:=ports_rep (loc':=fun _ => undef) hg (hargs _ _ hxs h2) h4
 obtain ⟨u,hu,hru⟩:=hrun w _ _ hra
 have hcall:(execOp a.eval o).run C.P w = .ok (.value u) w:=by
  have e2:(execOp a.eval o).run C.P w = (callFunc fid (c.args.map a.eval)).run C.P w:=by
   simp [execOp,ho,resolve,hcal,Deferred.ofValue,e1,invoke]
  have e3:c.args.map a.eval = (c.args.toList.map a.eval).toArray:=by apply Array.ext'; simp
  rw [e2,run_callFunc_extern hf hname hb hn he,e3,hu]
  rfl
 exact ⟨_,⟨w,loc,.inl ⟨u,hcall,by rw [hd]; exact hg.put (by rw [← hd]; exact hdl) (pure_loc hr hru)⟩⟩,hK⟩
end Go.V

/-
 A grid that the call owns: lent to others,held on to,and turned into data.
-/
namespace Go.V
section
variable {α:Type} {cds:α → List CD} {R R':List (Row α)} {j m:Nat} {o:Nat → Ob}
theorem AS_grid {P:Program} {d:Option Nat} {f:X} {xs:List X} {K:St → Prop} {env:Nat → AV} {fid:FuncId} {caps args:List AV} {Post:AV → List Ob → Prop}
  (hs:FSpecL P fid args (gridL cds m R j) [] Post) (hfd:(St.val ⟨env,gown cds m R j o⟩ f).dg = true) (hxd:(xs.all fun x => (St.val ⟨env,gown cds m R j o⟩ x).dg) = true) (hf:(St.val ⟨env,gown cds m R j o⟩ f).dv = .fn fid caps)
  (hp:AV.lendL 1000 (gnum R.length) (gown cds m R j o) (xs.map (fun x => (St.val ⟨env,gown cds m R j o⟩ x).dv) ++ caps) = some args)
  (hpost:∀ r l',Post r l' → ∃ R',R'.length = R.length ∧ l' = gridL cds m R' j ∧ r.pureB = true ∧ K (St.put ⟨env,gown cds m R' j o⟩ d r)):ACallS P d f xs K ⟨env,gown cds m R j o⟩:=by
 have hlen:R.length + 1 ≤ 1000:=by have:=hs.2.1; rwa [gridL_len] at this
 refine AS_lend (gnum R.length) hs hfd hxd hf (gnum_nodup _) hp (obsLend_grid hlen) fun r l' hP => ?_
 obtain ⟨R',h1,rfl,h2,h3⟩:=hpost r l' hP
 refine ⟨r,gridL cds m R' j,back_pure h2,by rw [← h1]; exact obsBack_grid,?_⟩
 show K (St.put ⟨prgEs (growsOf (gown cds m R j o) (gnum R.length)) env,ownBack (prgOs (growsOf (gown cds m R j o) (gnum R.length)) (gown cds m R j o)) (gnum R.length) (gridL cds m R' j)⟩ d r)
 rw [growsOf_grid]
 simp only [prgEs,prgOs]
 rw [ownBack_grid h1]
 exact h3
theorem ownBack_new:ownBack o (gnum R.length) (gridL cds m R j) = gown cds m R j o:=by
 have e:ownBack o (rng 1001 R.length) (R.map (Row.ob cds)) = fam 1001 cds R o:=ownBack_fam
 show upd (ownBack o (rng 1001 R.length) (R.map (Row.ob cds))) 1000 (gridOb m R j) = _
 rw [e]
 unfold gown
 exact fam_upd (by omega) _
theorem gnum_ge {n k:Nat} (h:k ∈ gnum n):1000 ≤ k:=by
 simp only [gnum,List.mem_append,List.mem_singleton] at h
 rcases h with rfl | h
 ·exact Nat.le_refl _
 ·have:=rng_mem h; omega
theorem WV_pinGrid {C:Ctx} {Q:Exit → St → Prop} {v:VC} {env:Nat → AV} (hN:C.N ≤ 1000) (hR:∀ C':Ctx,∀ bs:Nat → Nat,C'.P = C.P → C'.N = C.N → (C.Ok → C'.Ok) → AtP C' bs (R.length + 1) → WV C' v Q ⟨env,gown cds m R j o⟩):WV C v Q ⟨env,gown cds m R j o⟩:=by
 refine WV_pin (fun n => n ∈ gnum R.length) (fun n hn => ?_) (fun C' h1 h2 h3 h4 h5 h6 h7 => ?_)
 ·have:=gnum_ge hn
  refine ⟨this,by omega,?_⟩
  simp only [gnum,List.mem_append,List.mem_singleton] at hn
  rcases hn with rfl | hn
  ·simp only [gown_grid,gridOb,Ob.isBx]
  ·have hm:=rng_mem hn
   obtain ⟨i,rfl⟩ : ∃ i,n = i + 1001:=⟨n - 1001,by omega⟩
   simp only [gown_row (show i < R.length by omega),Row.ob,Ob.isBx]
 ·obtain ⟨bs,hbs⟩ : ∃ bs:Nat → Nat,∀ i,i < R.length + 1 → C'.l0 (1000 + i) = ptrV (bs i) 0:=by
   refine ⟨fun i => match C'.l0 (1000 + i) with | .pointer (some a) => a.block | _ => 0,fun i hi => ?_⟩
   obtain ⟨b,hb⟩:=(h7 (1000 + i) (List.mem_of_getElem? (gnum_get hi))).2
   show C'.l0 (1000 + i) = ptrV (match C'.l0 (1000 + i) with | .pointer (some a) => a.block | _ => 0) 0
   rw [hb]; rfl
  exact hR C' bs h1 h2 h4 fun i hi => ⟨(h7 _ (List.mem_of_getElem? (gnum_get hi))).1,hbs i hi⟩
end
def rowsD (rows:List (List UInt8)):List (List CD):=rows.map fun l => [.sl 1 (l.map bcd)]
def gridD (rows:List (List UInt8)):CD:=.sl 1 (rowsD rows)
theorem WV_frzGridO {C:Ctx} {Q:Exit → St → Prop} {v:VC} {env:Nat → AV} {R:List (Row UInt8)} {j:Nat} {o:Nat → Ob} (he:∀ n ds,1001 ≤ n → frzE n ds env = env) (ho:∀ n ds,1001 ≤ n → frzO n ds o = o) (h0:o 1000 = .none)
  (h:WV C v Q ⟨frzE 1000 (R.map fun r => .sl 1 (r.l.map bcd)) env,frzO 1000 (R.map fun r => .sl 1 (r.l.map bcd)) o⟩):WV C v Q ⟨env,gown bcd 1 R j o⟩:=by
 have hno:∀ n,1001 ≤ n → o n = .none:=fun n hn => by
  have:=congrFun (ho n [] hn) n
  rw [frzO_app,if_pos rfl] at this
  exact this.symm
 unfold gown
 refine WV_frzFam R.length _ _ rfl (fun i _ => ?_) ?_
 ·rw [upd_app,if_neg (by omega),hno _ (by omega)]
 have e1:=frzPs_refs (b:=1001) (cds:=bcd) (sz:=1) (R:=R) (t:=1000) (own:=o) (pre:=[]) (post:=List.replicate j .non) (fun _ => rfl) (by decide) (fun n ds hn => ho n ds (by omega)) (fun n ds _ => frz_non n ds j) R.length (Nat.le_refl _)
 rw [List.take_length,List.drop_length] at e1
 have e2:refs 1001 1 0 R ++ (datas bcd 1 ([]:List (Row UInt8)) ++ List.replicate j .non) = refs 1001 1 0 R ++ List.replicate j .non:=rfl
 rw [e2] at e1
 unfold gridOb
 rw [e1,frzEs_stay (fun n ds hn => he n ds (by omega))]
 have e3:datas bcd 1 R ++ List.replicate j .non = (R.map fun r => (CD.sl 1 (r.l.map bcd))).map .c ++ List.replicate j .non:=by
  unfold datas
  rw [List.map_map]; rfl
 rw [e3]
 refine WV_freezeJ 1000 (ds:=R.map fun r => .sl 1 (r.l.map bcd)) (junk:=List.replicate j .non) (by rw [upd_app,if_pos rfl]) ?_
 rw [frzO_upd,if_pos rfl]
 exact h
theorem WV_frzGrid {C:Ctx} {Q:Exit → St → Prop} {v:VC} {env:Nat → AV} {R:List (Row UInt8)} {j:Nat} {o:Nat → Ob} (he:∀ n ds,1001 ≤ n → frzE n ds env = env) (ho:∀ n ds,1000 ≤ n → frzO n ds o = o)
  (h:WV C v Q ⟨frzE 1000 (R.map fun r => .sl 1 (r.l.map bcd)) env,o⟩):WV C v Q ⟨env,gown bcd 1 R j o⟩:=by
 have h0:o 1000 = .none:=by
  have:=congrFun (ho 1000 [] (Nat.le_refl _)) 1000
  rw [frzO_app,if_pos rfl] at this
  exact this.symm
 refine WV_frzGridO he (fun n ds hn => ho n ds (by omega)) h0 ?_
 rw [ho 1000 _ (Nat.le_refl _)]
 exact h
theorem grp_one (l:List CD):grp 1 l.length l = l.map fun d => [d]:=by
 induction l with
 | nil => rfl
 | cons x l ih => simp only [List.length_cons,grp,List.map_cons,← ih]; rfl
theorem frz_grid (R:List (Row UInt8)) (cap:Nat):(AV.vw 1 1000 0 R.length cap).frz 1000 (R.map fun r => .sl 1 (r.l.map bcd)) = .c (gridD (R.map Row.l)):=by
 simp only [AV.frz,if_true]
 rw [if_pos (by simp),List.drop_zero]
 have e:(R.map fun r => CD.sl 1 (r.l.map bcd)).take (R.length * 1) = R.map fun r => CD.sl 1 (r.l.map bcd):=by rw [Nat.mul_one]; exact List.take_of_length_le (by simp)
 rw [e]
 have:=grp_one (R.map fun r => CD.sl 1 (r.l.map bcd))
 rw [List.length_map] at this
 rw [this,List.map_map,gridD,rowsD,List.map_map]
 rfl
end Go.V

/-
 Drawn regions with calls at known places.
-/
namespace Go.V
def SSem (C:Ctx) (i:Ins) (K:St → Prop) (σ:St):Prop :=
 ∀ (ops:Array Oper) (o:Oper),INS C.P C.N ops o i → ∀ (Q':Exit → Act → World → Prop) (K':Act → World → Prop),(∀ σ' a' w',Gam C σ' a' w' → K σ' → K' a' w') → ∀ a w,Gam C σ a w →
  (if Region.wanted o (yielded ops a.tmps) = true then o.wpIn C.F 0 C.P a w K' Q' else (∀ f,o.about C.P w a.eval = some f → C.F.fn f) ∧ K' (a.put o.dst undef) w)
theorem SSem.mono {C:Ctx} {i:Ins} {K K':St → Prop} {σ:St} (hk:∀ σ,K σ → K' σ) (h:SSem C i K σ):SSem C i K' σ :=
 fun ops o hins Q' J hJ a w hg => h ops o hins Q' J (fun σ' a' w' hg' h' => hJ σ' a' w' hg' (hk _ h')) a w hg
def CStep (C:Ctx) (i:Ins) (K:St → Prop) (σ:St):Prop:=AStep C.P i K σ ∨ (i.s = true ∧ i.i.callnB = false ∧ SSem C i K σ)
section
variable {C:Ctx}
theorem CStep_mono {i:Ins} {K K':St → Prop} {σ:St} (hk:∀ σ,K σ → K' σ) (h:CStep C i K σ):CStep C i K' σ :=
 h.imp (AStep_mono hk) fun h => ⟨h.1,h.2.1,h.2.2.mono hk⟩
theorem cstep_alone {i:Ins} {K:St → Prop} {σ:St} (hs:i.s = false):CStep C i K σ ↔ AStepP C.P i K σ:=by
 rw [← astep_alone hs]
 exact ⟨fun h => h.elim id fun h => (by rw [hs] at h; cases h.1),.inl⟩
theorem cstep_X {i j:Ins} {K:St → Prop} {σ:St} (hc:(comm i j || commN i j) = true):CStep C j K σ ↔ AStep C.P j K σ:=by
 refine ⟨fun h => h.elim id fun h => ?_,.inl⟩
 simp only [Bool.or_eq_true] at hc
 rcases hc with hc | hc
 ·rw [(comm_alone hc).2] at h; cases h.1
 ·simp only [commN,Bool.and_eq_true] at hc
  have:j.i.callnB = true:=by
   have:=hc
   simp_all
  rw [this] at h; cases h.2.1
theorem ccommX_sound {i j:Ins} {K:St → Prop} {σ:St} (hc:(comm i j || commN i j) = true) (h:AStepP C.P i (fun σ1 => CStep C j K σ1) σ):CStep C j (fun σ1 => AStepP C.P i K σ1) σ:=by
 rw [cstep_X hc]
 exact commX_sound hc (astep_mono (fun σ1 h => (cstep_X hc).1 h) h)
theorem cstep_sound {σ:St} {a:Act} {w:World} (hg:Gam C σ a w) {ops:Array Oper} {o:Oper} {i:Ins} (hc:INS C.P C.N ops o i) {K:St → Prop} (h:CStep C i K σ) {K':Act → World → Prop} {Q:Exit → Act → World → Prop}
  (hK:∀ σ' a' w',Gam C σ' a' w' → K σ' → K' a' w'):(if Region.wanted o (yielded ops a.tmps) = true then o.wpIn C.F 0 C.P a w K' Q else (∀ f,o.about C.P w a.eval = some f → C.F.fn f) ∧ K' (a.put o.dst undef) w):=by
 rcases h with h | h
 ·exact astep_sound hg hc h hK
 ·exact h.2.2 ops o hc Q K' hK a w hg
mutual
def CTree (C:Ctx):OT → (St → Prop) → St → Prop
 | .nil,K,σ => K σ
 | .cons i t,K,σ => CStep C i (CTree C t K) σ
 | .br ts,K,σ => CTrees C ts K σ
def CTrees (C:Ctx):List OT → (St → Prop) → St → Prop
 | [],_,_ => True
 | t :: ts,K,σ => CTree C t K σ ∧ CTrees C ts K σ
end
def CAny (C:Ctx) (ops:Array Oper) (is:List Ins) (K:St → Prop):Nat → Array Bool → St → Prop
 | 0,listed,σ => Region.ready .any ops listed = [] ∧ K σ
 | n + 1,listed,σ => (Region.ready .any ops listed = [] → K σ) ∧ ∀ i ∈ Region.ready .any ops listed,∃ ins,is[i]? = some ins ∧ CStep C ins (CAny C ops is K n (listed.setIfInBounds i true)) σ
variable {ops:Array Oper} {is:List Ins} {K:St → Prop} {σ:St} {Q:Exit → St → Prop}
theorem cany_first {i:Nat} {ins:Ins} (hins:is[i]? = some ins) (hlen:∀ j:Nat,j < ops.size → (is[j]?).isSome = true):∀ (n:Nat) (listed:Array Bool) (σ:St),listed.size = ops.size → Closed ops listed →
  (∀ j ins',is[j]? = some ins' → j ≠ i → listed.getD j true = false → waits ops i ops.size j = false → (comm ins ins' || commN ins ins') = true) →
  i ∈ Region.ready .any ops listed → CStep C ins (CAny C ops is K n (listed.setIfInBounds i true)) σ → CAny C ops is K (n + 1) listed σ:=by
 intro n
 induction n with
 | zero =>
  intro listed σ hsz hcl hfree hr H
  refine ⟨fun h => (by rw [h] at hr; cases hr),fun j hj => ?_⟩
  by_cases hji:j = i
  ·subst hji; exact ⟨ins,hins,H⟩
  ·have h1:=ready_mono hj hji
   obtain ⟨hjun,oj,hoj,_⟩:=mem_ready.1 hj
   have hiun:=(mem_ready.1 hr).1
   have hjlt:j < ops.size:=(Array.getElem?_eq_some_iff.1 hoj).1
   obtain ⟨ins',hins'⟩:=Option.isSome_iff_exists.1 (hlen j hjlt)
   have hcomm:=hfree j ins' hins' hji hjun (waits_ready hcl hiun hsz hj _ hji)
   rw [cstep_alone (commX_alone hcomm),astep_iff] at H
   obtain ⟨ε,_,h2,_⟩:=H
   rw [h2] at h1
   cases h1
 | succ n ih =>
  intro listed σ hsz hcl hfree hr H
  refine ⟨fun h => (by rw [h] at hr; cases hr),fun j hj => ?_⟩
  by_cases hji:j = i
  ·subst hji; exact ⟨ins,hins,H⟩
  ·obtain ⟨hjun,oj,hoj,_⟩:=mem_ready.1 hj
   have hiun:=(mem_ready.1 hr).1
   have hjlt:j < ops.size:=(Array.getElem?_eq_some_iff.1 hoj).1
   obtain ⟨ins',hins'⟩:=Option.isSome_iff_exists.1 (hlen j hjlt)
   refine ⟨ins',hins',?_⟩
   have hcomm:=hfree j ins' hins' hji hjun (waits_ready hcl hiun hsz hj _ hji)
   have hsi:=commX_alone hcomm
   have h1:AStepP C.P ins (fun σ1 => CStep C ins' (CAny C ops is K n ((listed.setIfInBounds i true).setIfInBounds j true)) σ1) σ:=by
    rw [cstep_alone hsi] at H
    refine astep_mono (fun σ1 h => ?_) H
    obtain ⟨x,hx,hs⟩:=h.2 j (ready_mono hj hji)
    rw [hins'] at hx
    cases hx
    exact hs
   have h2:=ccommX_sound hcomm h1
   refine CStep_mono (fun σ1 h => ?_) h2
   refine ih (listed.setIfInBounds j true) σ1 (by simpa using hsz) (hcl.set_ hj) (fun k ins'' hk hki hun hw => ?_) (ready_mono hr (Ne.symm hji)) ?_
   ·refine hfree k ins'' hk hki ?_ hw
    by_cases hjk:j = k
    ·subst hjk; exact hjun
    ·rwa [getD_set_ne true hjk] at hun
   ·rw [Array.setIfInBounds_comm _ _ hji,cstep_alone hsi]
    exact h
theorem CTrees_mem:∀ {ts:List OT} {σ:St},CTrees C ts K σ → ∀ t ∈ ts,CTree C t K σ
 | [],_,_,t,ht => by cases ht
 | u :: ts,σ,h,t,ht => by
  simp only [CTrees] at h
  rcases List.mem_cons.1 ht with rfl | ht
  ·exact h.1
  ·exact CTrees_mem h.2 t ht
theorem ctree_sound (hlen:∀ j:Nat,j < ops.size → (is[j]?).isSome = true):∀ (n:Nat) (listed:Array Bool) (t:OT) (σ:St),listed.size = ops.size → Closed ops listed → tree ops is n listed = some t → CTree C t K σ → CAny C ops is K n listed σ
 | 0,listed,t,σ,_,_,ht,h => by
  simp only [tree] at ht
  split at ht
  ·rename_i he
   simp only [Option.some.injEq] at ht
   subst ht
   simp only [CTree] at h
   exact ⟨List.isEmpty_iff.1 he,h⟩
  ·cases ht
 | n + 1,listed,t,σ,hsz,hcl,ht,h => by
  simp only [tree] at ht
  split at ht
  ·rename_i he
   simp only [Option.some.injEq] at ht
   subst ht
   simp only [CTree] at h
   have he':=List.isEmpty_iff.1 he
   exact ⟨fun _ => h,fun i hi => by rw [he'] at hi; cases hi⟩
  ·rename_i hne
   have cons:∀ k t',k ∈ Region.ready .any ops listed → OT.consAt is k (tree ops is n (listed.setIfInBounds k true)) = some t' → CTree C t' K σ → ∃ ins,is[k]? = some ins ∧ CStep C ins (CAny C ops is K n (listed.setIfInBounds k true)) σ:=by
    intro k t' hk hct hat
    unfold OT.consAt at hct
    split at hct
    ·rename_i ins t'' hins ht''
     simp only [Option.some.injEq] at hct
     subst hct
     simp only [CTree] at hat
     exact ⟨ins,hins,CStep_mono (fun σ1 h1 => ctree_sound hlen n _ _ σ1 (by simpa using hsz) (hcl.set_ hk) ht'' h1) hat⟩
    ·cases hct
   split at ht
   ·rename_i k hk
    have hkr:=List.mem_of_find?_eq_some hk
    have hkf:=List.find?_some hk
    obtain ⟨ins,hins,hs⟩:=cons k t hkr ht h
    refine cany_first hins hlen n listed σ hsz hcl (fun j ins' hj hji hun hw => ?_) hkr hs
    simp only [freeB,List.all_eq_true,List.mem_range,Bool.or_eq_true] at hkf
    have hjlt:j < ops.size:=by
     rcases Nat.lt_or_ge j listed.size with h | h
     ·omega
     ·rw [Array.getD_eq_getD_getElem?,Array.getElem?_eq_none h] at hun; cases hun
    have:=hkf j hjlt
    rw [hins,hj] at this
    simp only [beq_iff_eq,hji,hun,hw,Bool.false_eq_true,false_or,or_self] at this
    exact this
   ·split at ht
    ·rename_i k hk
     refine ⟨fun h0 => (by rw [h0] at hk; cases hk),fun j hj => ?_⟩
     rw [hk] at hj
     simp only [List.mem_singleton] at hj
     subst hj
     exact cons j t (by rw [hk]; simp) ht h
    ·simp only [Option.map_eq_some_iff] at ht
     obtain ⟨ts,hts,rfl⟩:=ht
     simp only [CTree] at h
     refine ⟨fun h0 => (by rw [h0] at hne; simp at hne),fun j hj => ?_⟩
     obtain ⟨k,hk⟩:=List.mem_iff_getElem?.1 hj
     obtain ⟨t',ht',hc⟩:=mapM_get hts hk
     exact cons j t' hj hc (CTrees_mem h t' (List.mem_of_getElem? ht'))
theorem cany_sound (hlen:∀ (j:Nat) (o:Oper),ops[j]? = some o → ∃ ins,is[j]? = some ins ∧ INS C.P C.N ops o ins) {Q':Exit → Act → World → Prop} (hQ:∀ σ a w,Gam C σ a w → K σ → Q' .normal a w) :
  ∀ (n:Nat) (listed:Array Bool) (σ:St) (a:Act) (w:World),Gam C σ a w → CAny C ops is K n listed σ → wpAnyIn C.F 0 C.P .any ops Q' n listed a w
 | 0,_,σ,a,w,hg,h => ⟨h.1,hQ σ a w hg h.2⟩
 | n + 1,listed,σ,a,w,hg,h => by
  refine ⟨fun h0 => hQ σ a w hg (h.1 h0),fun i hi => ?_⟩
  obtain ⟨_,o,ho,_⟩:=mem_ready.1 hi
  obtain ⟨ins,hins,hc⟩:=hlen i o ho
  obtain ⟨ins',hins',hs⟩:=h.2 i hi
  rw [hins] at hins'
  cases hins'
  have:=cstep_sound hg hc hs (Q:=Q') (fun σ' a' w' hg' hk => cany_sound hlen hQ n _ σ' a' w' hg' hk)
  unfold wpOpIn
  rw [ho]
  exact this
theorem cdrawn_sound {id:Nat} {ops:Array Oper} {is:List Ins} (his:ops.toList.mapM (cOp C.P C.N ops) = some is) (hm:C.P.follows .mixedOrders = true) {t:OT} (ht:tree ops (soloed C.m ops is) ops.size (Array.replicate ops.size false) = some t)
  (h:CTree C t (Q .normal) σ):Wp C (.region id ops true) Q σ:=by
 intro a w hg
 have hlen:=mapM_len his
 have hget:∀ (j:Nat) (o:Oper),ops[j]? = some o → ∃ ins,(soloed C.m ops is)[j]? = some ins ∧ INS C.P C.N ops o ins:=fun j o ho => by
  obtain ⟨ins,h1,h2⟩:=mapM_get his (by simpa using ho)
  obtain ⟨v1,v2,v3,_⟩:=vwI_vw C.m ins
  refine ⟨{ vwI C.m ins with s:=soloB ops j || forced C.m (vwI C.m ins) },by simp [soloed,h1],ins.s,ins.i,?_,v1⟩
  rw [h2]
  obtain ⟨d,i,g,s⟩:=ins
  simp only at v2 v3 ⊢
  rw [v2,v3]
 have hlen2:(soloed C.m ops is).length = is.length:=by simp [soloed]
 have hcl:Closed ops (Array.replicate ops.size false):=by
  intro m o e ho hm he hb
  rw [Array.getD_eq_getD_getElem?,Array.getElem?_replicate] at hm
  split at hm <;> cases hm
 have:=ctree_sound (C:=C) (fun j hj => by rw [List.getElem?_eq_getElem (by simp at hlen; omega)]; rfl) ops.size _ t σ (by simp) hcl ht h
 obtain ⟨loc,hg⟩:=hg
 exact wpIn_region_any hm (cany_sound hget (fun σ a w hg hk => ⟨σ,hg,hk⟩) _ _ σ a _ ⟨loc,hg.drew⟩ this)
theorem WV_drwC {t:OT} (h:CTree C t (Q .normal) σ):WV C (.drw t) Q σ:=by
 intro c hc
 cases c <;> simp only [comp,reduceCtorEq,Option.some.injEq] at hc <;> (try (simp [Option.bind_eq_some_iff,Option.map_eq_some_iff] at hc; done))
 rename_i id ops draw
 split at hc
 ·rename_i is' his
  split at hc
  ·rename_i hd
   subst hd
   unfold cDraw at hc
   split at hc
   ·rename_i hcond
    simp only [Bool.and_eq_true] at hcond
    split at hc
    ·rename_i t' ht
     split at hc
     ·cases hc
     ·simp only [Option.some.injEq,VC.drw.injEq] at hc
      subst hc
      exact cdrawn_sound his hcond.2 ht h
    ·cases hc
   ·cases hc
  ·cases hc
 ·cases hc
def OT.takeL:Nat → OT → List Ins
 | n + 1,.cons i t => i :: OT.takeL n t
 | _,_ => []
def OT.dropL:Nat → OT → OT
 | n + 1,.cons _ t => OT.dropL n t
 | _,t => t
theorem CTree_br {ts:List OT} (h:CTrees C ts K σ):CTree C (.br ts) K σ:=by simp only [CTree]; exact h
theorem CTrees_cons {t:OT} {ts:List OT} (h1:CTree C t K σ) (h2:CTrees C ts K σ):CTrees C (t :: ts) K σ:=by simp only [CTrees]; exact ⟨h1,h2⟩
theorem CTrees_nil:CTrees C [] K σ:=by simp only [CTrees]
theorem CTree_nil (h:K σ):CTree C .nil K σ:=by simp only [CTree]; exact h
theorem WV_mid {a b:VC} (S:St) (h1:WV C a (thenQ (fun σ' => Sub σ' S) fun _ _ => False) σ) (h2:WV C b Q S):WV C (.seq a b) Q σ :=
 WV_seq_ (h1.mono fun e σ' hq => by
  cases e with
  | normal => exact WV_sub hq h2
  | _ => exact hq.elim)
theorem CTree_split:∀ (n:Nat) {t:OT} {σ:St},AOps C.P (t.takeL n) (CTree C (t.dropL n) K) σ → CTree C t K σ
 | 0,t,σ,h => by simpa only [OT.takeL,OT.dropL,AOps] using h
 | n + 1,.nil,σ,h => by simpa only [OT.takeL,OT.dropL,AOps] using h
 | n + 1,.br ts,σ,h => by simpa only [OT.takeL,OT.dropL,AOps] using h
 | n + 1,.cons i t,σ,h => by
  simp only [OT.takeL,OT.dropL,AOps] at h
  simp only [CTree]
  exact .inl (AStep_mono (fun σ1 h1 => CTree_split n h1) h)
theorem CTree_callB {d:Option Nat} {f:X} {xs:List X} {t:OT} {fid:FuncId} {caps args:List AV} {L:List Nat} {l:List Ob} {bs:Nat → Nat} {Post:AV → List Ob → Prop}
  (hs:FSpecB C.P fid bs args l Post) (hfd:(σ.val f).dg = true) (hxd:(xs.all fun x => (σ.val x).dg) = true) (hf:(σ.val f).dv = .fn fid caps) (hL:L.Nodup) (hp:AV.lendL 1000 L σ.own (xs.map (fun x => (σ.val x).dv) ++ caps) = some args) (hl:obsLend L σ.own L = some l)
  (hbs:∀ i n,L[i]? = some n → C.pin n ∧ C.l0 n = ptrV (bs i) 0)
  (hpost:∀ r l',Post r l' → ∃ r' os,r.back L = some r' ∧ obsBack L l' = some os ∧ CTree C t K (St.put ⟨prgEs (growsOf σ.own L) σ.env,ownBack (prgOs (growsOf σ.own L) σ.own) L os⟩ d r')):CTree C (.cons ⟨d,.call f xs,none,true⟩ t) K σ:=by
 simp only [CTree]
 refine .inr ⟨rfl,rfl,fun ops o hins Q' K' hK a w hg => ?_⟩
 obtain ⟨hc,rfl,hd,hog⟩:=ins_call hins
 rw [if_pos (by simp [Region.wanted,hog])]
 obtain ⟨loc,hg⟩:=hg
 obtain ⟨hcl,hlen,hs⟩:=hs
 obtain ⟨s1,s2,s3,s4,s5,s6⟩:=lent_start hg hL hlen hl
 have hll:=(obsLend_get hl).1
 refine wpIn_callF hg hc hfd hxd hf hcl (fun vs hvs => hs w (McL C σ loc L) (locL 1000 loc L) vs (fun i hi => ?_) (fun b k hm => s1 b k hm) s3 (RepAs.keep (Keeps.less s2) _ _ (lends_rep hg hvs hp))) fun e w' h => ?_
 ·have h1:L[i]? = some (L[i]'(by omega)):=List.getElem?_eq_getElem _
  rw [locL_at h1]
  obtain ⟨k1,k2⟩:=hbs i _ h1
  rw [(hg.pin _ k1).2.1,k2]
 obtain ⟨v,r,l',loc',rfl,hP,hll,fx,kp,ok,has,plc,hr⟩:=h
 obtain ⟨r',os,hb,hbk,hk'⟩:=hpost r l' hP
 obtain ⟨loc'',hg',hre⟩:=lent_end hg hL hlen hl hll fx kp ok has (fun n hn => (plc n hn).2) hbk
 exact ⟨v,rfl,hK _ _ _ ⟨loc'',hg'.put hd (hre r r' v hb hr)⟩ hk'⟩
section
variable {α:Type} {cds:α → List CD} {R R':List (Row α)} {j m:Nat} {o:Nat → Ob}
theorem CTree_grid {P:Program} {d:Option Nat} {f:X} {xs:List X} {t:OT} {env:Nat → AV} {fid:FuncId} {caps args:List AV} {bs:Nat → Nat} {Post:AV → List Ob → Prop}
  (hPe:C.P = P) (hs:FSpecB P fid bs args (gridL cds m R j) Post) (hat:AtP C bs (R.length + 1)) (hfd:(St.val ⟨env,gown cds m R j o⟩ f).dg = true) (hxd:(xs.all fun x => (St.val ⟨env,gown cds m R j o⟩ x).dg) = true) (hf:(St.val ⟨env,gown cds m R j o⟩ f).dv = .fn fid caps)
  (hp:AV.lendL 1000 (gnum R.length) (gown cds m R j o) (xs.map (fun x => (St.val ⟨env,gown cds m R j o⟩ x).dv) ++ caps) = some args)
  (hpost:∀ r l',Post r l' → ∃ R',R'.length = R.length ∧ l' = gridL cds m R' j ∧ r.pureB = true ∧ CTree C t K (St.put ⟨env,gown cds m R' j o⟩ d r)):CTree C (.cons ⟨d,.call f xs,none,true⟩ t) K ⟨env,gown cds m R j o⟩:=by
 subst hPe
 have hlen:R.length + 1 ≤ 1000:=by have:=hs.2.1; rwa [gridL_len] at this
 refine CTree_callB hs hfd hxd hf (gnum_nodup _) hp (obsLend_grid hlen) (fun i n hi => ?_) fun r l' hP => ?_
 ·have hlt:i < R.length + 1:=by
   have:=(List.getElem?_eq_some_iff.1 hi).1
   rwa [gnum_len] at this
  rw [gnum_get hlt] at hi
  simp only [Option.some.injEq] at hi
  subst hi
  exact hat i hlt
 ·obtain ⟨R',h1,rfl,h2,h3⟩:=hpost r l' hP
  refine ⟨r,gridL cds m R' j,back_pure h2,by rw [← h1]; exact obsBack_grid,?_⟩
  show CTree C t K (St.put ⟨prgEs (growsOf (gown cds m R j o) (gnum R.length)) env,ownBack (prgOs (growsOf (gown cds m R j o) (gnum R.length)) (gown cds m R j o)) (gnum R.length) (gridL cds m R' j)⟩ d r)
  rw [growsOf_grid]
  simp only [prgEs,prgOs]
  rw [ownBack_grid h1]
  exact h3
end
end
end Go.V

/-
 More operations without an instruction of their own: new bytes of whatever value,a slice that is cut in three,copies into an own object.
-/
namespace Go.V
section
variable {C:Ctx} {σ:St} {K:St → Prop} {is:List Ins} {Q:Exit → St → Prop}
theorem nons_repL {w:World} {M:Cells} {loc:Nat → Value} (l:List Value):RepAs w M loc (List.replicate l.length .non) l:=by
 induction l with
 | nil => simp [RepAs]
 | cons v l ih => simp only [List.length_cons,List.replicate_succ,RepAs]; exact ⟨v,l,rfl,by simp only [RepA],ih⟩
theorem AS_mnz {P:Program} {d:Nat} {f x:X} {fid:FuncId} {fn:Func} {ps:Array TypeId} {t e:TypeId} {n:Nat} {K:St → Prop} {σ:St} (hf:P.funcs[fid]? = some fn) (hname:(fn.name == "runtime.NumGoroutine") = false)
  (hb:fn.body.isNone = true) (hn:Extern.findNext fn = none) (he:Extern.find fn = some (Extern.BytealgMakeNoZero.makeNoZero ps #[t])) (ht:P.underlying t = some (.slice e))
  (h1:(σ.val f).dg = true) (h2:(σ.val x).dg = true) (h3:(σ.val f).dv = .fn fid []) (h4:(σ.val x).dv = .c (.int .i64 n)) (hln:n ≤ 1000000) (hno:(σ.own d).isNone = true)
  (hK:∀ cap j,n ≤ cap → cap ≤ maxLen → cap ≤ n + j → K (St.new σ d (.vw 1 d 0 n cap) (.box (List.replicate (n + j) .non)))):ACallS P (some d) f [x] K σ:=by
 refine .inr (.inr (.inr (.inr (.inr (.inr ?_)))))
 intro C loc a w o hP hc hd hdl hg
 subst hP
 rw [hd] at hdl
 have hdN:d < C.N:=by simpa using hdl
 obtain ⟨c,f',ho,hcal,hf',hxs⟩:=cI_call hc
 have hfv:=vald hg hf' h1
 rw [h3] at hfv
 simp only [RepA] at hfv
 obtain ⟨l,e1,hl⟩:=hfv
 simp only [RepAs] at hl
 subst hl
 obtain ⟨y,hy1,hy2⟩ : ∃ y,c.args.toList = [y] ∧ cX y = some x:=by
  cases hca:c.args.toList with
  | nil => rw [hca] at hxs; simp [cXs] at hxs
  | cons y ys =>
   rw [hca] at hxs
   simp only [cXs,List.mapM_cons,Option.pure_def,Option.bind_eq_bind,Option.bind_eq_some_iff,Option.some.injEq] at hxs
   obtain ⟨y',hy,ys',hys,hcons⟩:=hxs
   simp only [List.cons.injEq] at hcons
   obtain ⟨rfl,rfl⟩:=hcons
   cases ys with
   | nil => exact ⟨y,rfl,hy⟩
   | cons z zs =>
    simp only [List.mapM_cons,Option.pure_def,Option.bind_eq_bind,Option.bind_eq_some_iff,Option.some.injEq] at hys
    obtain ⟨_,_,_,_,h⟩:=hys
    cases h
 have hyv:=vald hg hy2 h2
 rw [h4] at hyv
 simp only [RepA,RepC] at hyv
 obtain ⟨cs,hrun,hle,hmx⟩:=Lib.run_makeNoZero (P:=C.P) w ps t e ht n (by omega)
 have hmax:=hmx (by simp only [maxLen]; omega)
 have e3:c.args.map a.eval = #[.int .i64 (n:Int)]:=by
  apply Array.ext'
  simp [hy1,hyv]
 have hcall:(execOp a.eval o).run C.P w = .ok (.value (.slice (some ⟨w.heap.size,0,none⟩) n cs.size)) (w.drew.drew.alloc (.cells cs e)):=by
  have e2:(execOp a.eval o).run C.P w = (callFunc fid (c.args.map a.eval)).run C.P w:=by
   simp [execOp,ho,resolve,hcal,Deferred.ofValue,e1,invoke]
  rw [e2,run_callFunc_extern hf hname hb hn he,e3,hrun]
  rfl
 have happ:AppRun C σ loc a w o none n 1 (List.replicate n .non) w.heap.size (w.drew.drew.alloc (.cells cs e)) cs.size cs.toList (e,(0,0)) (cs.toList.take n):=by
  refine ⟨hcall,⟨?_,fun j hj => ?_⟩,⟨hle,hmax⟩,?_,?_,?_,?_,⟨rfl,rfl,rfl,by simp,fun b hb _ => alloc_old w.drew.drew _ b hb⟩,.inl rfl,fun k b h => (by cases h),fun k b off h => (by cases h),fun k b h => (by cases h)⟩
  ·rw [show (w.heap.size) = w.drew.drew.heap.size from rfl,alloc_new]
  ·simp
  ·simp
  ·simp
  ·simp; omega
  ·have:=nons_repL (w:=w) (M:=MM C σ.own loc) (loc:=loc) (cs.toList.take n)
   rwa [show (cs.toList.take n).length = n from by simp; omega] at this
 obtain ⟨j,hj,hm⟩:=appv_end hg hd hdN (n:=none) (by simpa [rmv] using hno) happ
 refine ⟨_,hm,?_⟩
 rw [List.replicate_append_replicate]
 exact hK cs.size j hle hmax (by omega)
theorem raw_slc3 {P:Program} {σ:St} {d:Option Nat} {t e:TypeId} {x h m:Operand} {x' h' m':X} {n len cap k:Nat} {K:St → Prop} (ht:P.underlying t = some (.slice e)) (hsz:(P.info? e).map (·.size) = some 1)
  (hx:cX x = some x') (hh:cX h = some h') (hm:cX m = some m') (h1:(σ.val x').dg = true) (h2:(σ.val h').dg = true) (h3:(σ.val m').dg = true) (hv:(σ.val x').dv = .vw 1 n 0 len cap) (hhv:(σ.val h').dv = .c (.int .i64 k)) (hmv:(σ.val m').dv = .c (.int .i64 k)) (hk:0 < k) (hkc:k ≤ cap)
  (hK:K (σ.put d (.vw 1 n 0 k k))):RawI P d (.raw (.slice t x none (some h) (some m))) K σ:=by
 refine RawI_snd (fun C loc a w o hP ho hg => ?_) hK
 subst hP
 have rx:=vald hg hx h1
 have rh:=vald hg hh h2
 have rm:=vald hg hm h3
 rw [hv] at rx
 rw [hhv] at rh
 rw [hmv] at rm
 simp only [RepA,RepC] at rx rh rm
 obtain ⟨b,o',hloc,hxe,hoo,hlc,hcm⟩:=rx
 have ho':o' = 0:=hoo (by omega)
 subst ho'
 have htt:C.P.underlying t = some (.slice (C.P.elem t)):=by simp [Program.elem,ht]
 have hel:C.P.elem t = e:=by simp [Program.elem,ht]
 have hso:∀ W,(sizeOf (C.P.elem t)).run C.P W = .ok 1 W:=by
  intro W
  rw [hel]
  cases hq:C.P.info? e with
  | none => simp [hq] at hsz
  | some i => simp [hq] at hsz; simp [sizeOf,typeInfo,hq,hsz]
 have hsl:=run_slice_hm (P:=C.P) w t (some ⟨b,0,none⟩) len cap htt .i64 .i64 (k:Int) (k:Int) (by omega) (by omega) (by omega)
 rw [hso] at hsl
 have hne:¬ k = 0:=by omega
 refine ⟨.slice (some ⟨b,0,none⟩) k k,?_,?_⟩
 ·simp [execOp,ho,hxe,rh,rm,run_sliceAt_slice,htt,hsl,Result.andThen,sliced,hne,Addr.add]
 ·simp only [RepA]
  exact ⟨b,0,hloc,rfl,fun _ => rfl,Nat.le_refl _,by omega⟩
theorem raw_copy {P:Program} {σ:St} {d:Option Nat} {dT sT e:TypeId} {x y:Operand} {x' y':X} {n off len cap k:Nat} {cs ys:List AV} {p:Prop} {K:St → Prop} (ht:P.underlying dT = some (.slice e)) (hsz:(P.info? e).map (·.size) = some 1)
  (hx:cX x = some x') (hy:cX y = some y') (h1:(σ.val x').dg = true) (h2:(σ.val y').dg = true) (hv:(σ.val x').dv = .vw 1 n off len cap) (hvc:(σ.val y').dv.vcells σ.own 1 = some (k,ys,p)) (hp:p) (hk:k ≠ 0) (hlen:len ≠ 0) (hown:σ.own n = .box cs) (hfit:off + min k len ≤ cs.length)
  (hK:K (St.put ⟨σ.env,upd σ.own n (.box (splice cs off (ys.take (min k len))))⟩ d (.c (.int .i64 (min k len:Nat))))):RawI P d (.raw (.call { callee:=.builtin .copy,args:=#[x,y],argTypes:=#[dT,sT] })) K σ:=by
 refine RawI_raw fun C loc a w o hP ho hod hdl hg => ?_
 subst hP
 have rx:=vald hg hx h1
 have ry:=vald hg hy h2
 rw [hv] at rx
 simp only [RepA] at rx
 obtain ⟨b,o',hloc,hxe,hoo,hlc,hcm⟩:=rx
 have ho':o' = off:=hoo (by omega)
 subst ho'
 obtain ⟨ad,capy,news,hye,k1,k2,k3,k4⟩:=vcells_sound hg ry hvc hp hk
 rw [Nat.mul_one] at k1
 have hob:=hg.objs n
 rw [hown] at hob
 obtain ⟨b',l,e',hlb,hB,hh,hrs⟩:=hob
 rw [hloc] at hlb
 simp only [Value.pointer.injEq,Option.some.injEq,Addr.mk.injEq,and_true] at hlb
 subst hlb
 have hll:=hrs.length
 have hys:=k3.length
 obtain ⟨us,hus⟩ : ∃ us,us = news.take (min k len):=⟨_,rfl⟩
 have hul:us.length = min k len:=by rw [hus,List.length_take]; omega
 have hl:=run_loadCells_list (P:=C.P) w ad us (fun j u hj => k2 j u (by
  rw [hus,List.getElem?_take] at hj
  split at hj
  ·exact hj
  ·cases hj))
 have hst:=storeCells_F C.P b o' e' us 0 l w hh (by rw [hul]; omega) (fun v hv => k4 v (by rw [hus] at hv; exact List.mem_of_mem_take hv))
 simp only [Nat.add_zero] at hst
 have hrow:(l.take o' ++ us ++ l.drop (o' + us.length)).toArray = (splice l o' us).toArray:=by simp [splice]
 rw [hrow] at hst
 have hrt:∀ (m:Nat) (ys:List AV) (news:List Value),RepAs w (MM C σ.own loc) loc ys news → RepAs w (MM C σ.own loc) loc (ys.take m) (news.take m):=by
  intro m
  induction m with
  | zero => intro ys news _; simp [RepAs]
  | succ m ih =>
   intro ys news h
   cases ys with
   | nil => simp only [RepAs] at h; subst h; simp only [List.take_nil,RepAs]
   | cons y ys =>
    simp only [RepAs] at h
    obtain ⟨v,vs,rfl,e1,e2⟩:=h
    simp only [List.take_succ_cons,RepAs]
    exact ⟨v,_,rfl,e1,ih ys vs e2⟩
 have hry:=hrt (min k len) _ _ k3
 rw [← hus] at hry
 have hfit2:o' + us.length ≤ l.length:=by rw [hul]; omega
 have hG:=hg.setBox (off:=o') hown hloc hB hh hfit2 hrs hry
 refine ⟨_,⟨w.setRow b (splice l o' us).toArray,loc,.inl ⟨.int .i64 (min k len:Nat),?_,?_⟩⟩,hK⟩
 ·cases hq:C.P.info? e with
  | none => simp [hq] at hsz
  | some i =>
   have hi:i.size = 1:=by simpa [hq] using hsz
   have hmin:Nat.min k len = us.length:=hul.symm
   have hcp:(Builtin.copy_ #[dT,sT] o.type #[.slice (some ⟨b,o',none⟩) len cap,.slice (some ad) k capy]).run C.P w = .ok (goInt us.length) (w.setRow b (splice l o' us).toArray):=by
    simp [Builtin.copy_,run_underlying ht,Builtin.lenOf,Builtin.firstCells,sizeOf,typeInfo,hq,hi,hmin,hl,hst]
   simp [execOp,ho,resolve,invoke,builtin,hxe,hye,hcp,hul,goInt]
 ·rw [hod]
  exact hG.put hdl (by simp only [RepA,RepC])
end
end Go.V

/-
 A grid that grows row by row: its rows are objects of a family.
-/
namespace Go.V
mutual
theorem rn_pure (d n:Nat):∀ {x:AV},x.pureB = true → x.rn d n = x
 | .c _,_ => rfl
 | .non,_ => rfl
 | .bp _ _,h => by simp [AV.pureB] at h
 | .gr _,h => by simp [AV.pureB] at h
 | .vw _ _ _ _ _,h => by simp [AV.pureB] at h
 | .agg cs,h => by simp only [AV.pureB] at h; simp only [AV.rn,rnL_pure d n h]
 | .tup cs,h => by simp only [AV.pureB] at h; simp only [AV.rn,rnL_pure d n h]
 | .fn f cs,h => by simp only [AV.pureB] at h; simp only [AV.rn,rnL_pure d n h]
 | .opt g x,h => by simp only [AV.pureB] at h; simp only [AV.rn,rn_pure d n h]
theorem rnL_pure (d n:Nat):∀ {l:List AV},AV.pureL l = true → AV.rnL d n l = l
 | [],_ => rfl
 | a :: l,h => by simp only [AV.pureL,Bool.and_eq_true] at h; simp only [AV.rnL,rn_pure d n h.1,rnL_pure d n h.2]
end
theorem keepE_in {ks:List Nat} {f:Nat → AV} {t:Nat} (h:t ∈ ks):keepE ks f t = f t:=by
 induction ks with
 | nil => cases h
 | cons k ks ih =>
  simp only [keepE,upd]
  split
  ·rename_i e; rw [e]
  ·rename_i e
   rcases List.mem_cons.1 h with rfl | h
   ·exact (e rfl).elim
   ·exact ih h
theorem keepE_out {ks:List Nat} {f:Nat → AV} {t:Nat} (h:t ∉ ks):keepE ks f t = .non:=by
 induction ks with
 | nil => rfl
 | cons k ks ih =>
  simp only [List.mem_cons,not_or] at h
  simp only [keepE,upd,if_neg h.1]
  exact ih h.2
theorem fam_le {α:Type} {b:Nat} {cds:α → List CD} {R:List (Row α)} {f g:Nat → Ob} (h:∀ n,g n = f n ∨ g n = .none):ObjLe (fam b cds R f) (fam b cds R g):=ObjLe_fam h
section
variable {α:Type} {cds:α → List CD} {C:Ctx} {K:St → Prop} {is:List Ins}
def GrowG (b D:Nat) (R:List (Row α)) (y:AV) (x:Ob):Prop :=
 (R = [] ∧ y = .c (.raw (.slice none 0 0)) ∧ x = .none) ∨ (R ≠ [] ∧ ∃ cap j,R.length ≤ cap ∧ cap ≤ maxLen ∧ cap ≤ R.length + j ∧ y = .vw 1 D 0 R.length cap ∧ x = .box (refs b 1 0 R ++ List.replicate j .non))
theorem GrowG.nil (b D:Nat):GrowG b D ([]:List (Row α)) (.c (.raw (.slice none 0 0))) .none:=.inl ⟨rfl,rfl,rfl⟩
theorem GrowG.some {b D:Nat} {R:List (Row α)} (h:R ≠ []) {cap j:Nat} (h1:R.length ≤ cap) (h2:cap ≤ maxLen) (h3:cap ≤ R.length + j):GrowG b D R (.vw 1 D 0 R.length cap) (.box (refs b 1 0 R ++ List.replicate j .non)):=.inr ⟨h,cap,j,h1,h2,h3,rfl,rfl⟩
theorem SOps_addrow {b D E B tr tg e bytes:Nat} {R:List (Row α)} {l:List α} {j cap:Nat} {y:AV} {x:Ob} {env:Nat → AV} {own:Nat → Ob} (ks:List Nat) (hpin:∀ n,¬ C.pin n) (hDE:D ≠ E) (hDB:D ≠ B) (hEB:E ≠ B) (hD:D < b) (hE:E < b) (hB:B < b)
  (htr:env tr = .vw 1 E 0 l.length cap) (htg:env tg = y) (htgB:tg ≠ B) (hg:GrowG b D R y x) (ho:ObjLe own (fam b cds R (upd (upd o0 D x) E (.box (cellsG cds l j)))))
  (hRl:R.length ≤ 1000) (hby:bytes ≤ 100) (hks:(ks.all fun t => (env t).pureB && (t != D && t != B)) = true) (hy:∀ d,y.prg d = y ∨ d = D)
  (hK:∀ cap' j',R.length + 1 ≤ cap' → cap' ≤ maxLen → cap' ≤ R.length + 1 + j' →
   SOps C is K ⟨upd (keepE ks env) D (.vw 1 D 0 (R.length + 1) cap'),fam b cds (R ++ [⟨l,j,cap⟩]) (upd o0 D (.box (refs b 1 0 (R ++ [⟨l,j,cap⟩]) ++ List.replicate j' .non)))⟩) :
  SOps C (⟨some B,.bslv e 1 [.t tr],none,true⟩ :: ⟨some D,.appv e 1 bytes (.t tg) (.t B),none,true⟩ :: is) K ⟨env,own⟩:=by
 have hmax:maxLen = 9223372036854775807:=rfl
 have htrd:(env tr).dg = true:=by rw [htr]; rfl
 have htgd:y.dg = true:=by rcases hg with ⟨_,rfl,_⟩ | ⟨_,_,_,_,_,_,rfl,_⟩ <;> rfl
 have htgv:y.dv = y:=by rcases hg with ⟨_,rfl,_⟩ | ⟨_,_,_,_,_,_,rfl,_⟩ <;> rfl
 obtain ⟨o1,ho1⟩ : ∃ o1,o1 = upd (upd o0 D x) E (.box (cellsG cds l j)):=⟨_,rfl⟩
 rw [← ho1] at ho
 have hx:∀ d,x.prg d = x ∨ d ≥ b:=by
  intro d
  rcases Nat.lt_or_ge d b with h | h
  ·left
   rcases hg with ⟨_,_,rfl⟩ | ⟨_,_,jj,_,_,_,_,rfl⟩
   ·rfl
   ·simp only [Ob.prg,prgL_append,refs_prg h,prg_non]
  ·exact .inr h
 have ho1p:∀ d,d < b → prgO d o1 = o1:=by
  intro d hd
  rw [ho1,prgO_upd,prgO_upd,prgO_o0,(hx d).resolve_right (by omega)]
  simp only [Ob.prg,prg_cellsG]
 refine SOps_weak (Sub_of (σ:=⟨env,own⟩) (σ':=⟨env,fam b cds R o1⟩) (EnvLe.rfl' env) ho C) ?_
 -- the literal
 refine SOps_step ?_
 rw [AStep_S]
 have hoB:fam b cds R o1 B = .none:=by rw [fam_lo hB,ho1]; simp [upd,o0,Ne.symm hDB,Ne.symm hEB]
 have hoE:fam b cds R o1 E = .box (cellsG cds l j):=by rw [fam_lo hE,ho1]; simp [upd]
 have hoD:o1 D = x:=by rw [ho1]; simp [upd,hDE]
 simp only [go_sem,htr,reduceIte,hoE,hoB,Bool.false_eq_true,AV.prg,Ne.symm hEB,hEB,prgO_fam,ho1p B hB]
 have hyB:y.prg B = y:=(hy B).resolve_right (fun h => hDB h.symm)
 have hyE:y.prg E = y:=(hy E).resolve_right (fun h => hDE h.symm)
 have hoD2:upd (fam b cds R o1) B (.box [.vw 1 E 0 l.length cap]) D = x:=by rw [upd_app,if_neg hDB,fam_lo hD,hoD]
 have hoB2:upd (fam b cds R o1) B (.box [.vw 1 E 0 l.length cap]) B = .box [.vw 1 E 0 l.length cap]:=by rw [upd_app,if_pos rfl]
 have htg2:upd (prgE B env) B (.vw 1 B 0 1 1) tg = y:=by rw [upd_app,if_neg htgB,prgE_app,htg,hyB]
 have htB2:upd (prgE B env) B (.vw 1 B 0 1 1) B = .vw 1 B 0 1 1:=by rw [upd_app,if_pos rfl]
 have hfc:∀ (f g:Nat → Ob) (n:Nat),f n = g n → fam b cds R f n = fam b cds R g n:=by
  intro f g n h
  unfold fam
  rw [h]
 have key:∀ (bx z:Ob) (own2:Nat → Ob),own2 = upd (upd (prgO D (fam b cds R o1)) B z) D bx → ObjLe own2 (fam b cds R (upd (upd o0 D bx) E (.box (cellsG cds l j)))):=by
  rintro bx z own2 rfl n
  rw [prgO_fam,ho1p D hD]
  by_cases hn:n = D
  ·subst hn
   left
   rw [fam_lo hD]
   simp [upd,hDE]
  ·by_cases hnB:n = B
   ·subst hnB
    right
    rw [fam_lo hB]
    simp [upd,o0,Ne.symm hDB,Ne.symm hEB]
   ·left
    rw [upd_app,if_neg hn,upd_app,if_neg hnB]
    refine hfc _ _ n ?_
    rw [ho1]
    simp only [upd,if_neg hn]
 -- behind both
 have tail:∀ (cap' j':Nat) (own2:Nat → Ob) (z:AV),R.length + 1 ≤ cap' → cap' ≤ maxLen → cap' ≤ R.length + 1 + j' → ObjLe own2 (fam b cds R (upd (upd o0 D (.box (refs b 1 0 R ++ [.vw 1 E 0 l.length cap] ++ List.replicate j' .non))) E (.box (cellsG cds l j)))) →
   SOps C is K ⟨upd (upd (prgE D (prgE B env)) B z) D (.vw 1 D 0 (R.length + 1) cap'),own2⟩:=by
  intro cap' j' own2 z c1 c2 c3 hle
  have hle2:EnvLe own2 (upd (upd (prgE D (prgE B env)) B z) D (.vw 1 D 0 (R.length + 1) cap')) (upd (keepE ks env) D (.vw 1 D 0 (R.length + 1) cap')):=by
   intro t
   simp only [upd_app]
   split
   ·exact AWk.refl _ _
   ·rename_i htD
    by_cases htk:t ∈ ks
    ·have:=List.all_eq_true.1 hks t htk
     simp only [Bool.and_eq_true,bne_iff_ne,ne_eq] at this
     rw [if_neg this.2.2,keepE_in htk,prgE_app,prgE_app,prg_pure B this.1,prg_pure D this.1]
     exact AWk.refl _ _
    ·rw [keepE_out htk]; exact .inl rfl
  refine SOps_weak (Sub_of (σ:=⟨_,own2⟩) (σ':=⟨upd (keepE ks env) D (.vw 1 D 0 (R.length + 1) cap'),fam b cds R (upd (upd o0 D (.box (refs b 1 0 R ++ [.vw 1 E 0 l.length cap] ++ List.replicate j' .non))) E (.box (cellsG cds l j)))⟩) hle2 hle C) ?_
  have hEn:E ≠ R.length + b:=by omega
  refine SOps_weak (fun a w hg => Gam_move (d:=E) (n:=R.length + b) hEn (hpin _) ?_ hg) ?_
  ·show fam b cds R _ (R.length + b) = .none
   rw [fam_hi (Nat.le_refl _)]
   simp only [upd_app]
   rw [if_neg (by omega),if_neg (by omega)]
   rfl
  show SOps C is K ⟨rnE E (R.length + b) _,rnO E (R.length + b) (fam b cds R _)⟩
  rw [rnO_fam hE ⟨l,j,cap⟩ (by simp [upd_app,Row.ob])]
  have henv:rnE E (R.length + b) (upd (keepE ks env) D (.vw 1 D 0 (R.length + 1) cap')) = upd (keepE ks env) D (.vw 1 D 0 (R.length + 1) cap'):=by
   rw [rnE_upd]
   have e1:(AV.vw 1 D 0 (R.length + 1) cap').rn E (R.length + b) = .vw 1 D 0 (R.length + 1) cap':=by
    simp only [AV.rn]; rw [if_neg hDE,if_neg (by omega)]
   rw [e1]
   congr 1
   funext t
   rw [rnE_app]
   by_cases htk:t ∈ ks
   ·have:=List.all_eq_true.1 hks t htk
    simp only [Bool.and_eq_true] at this
    rw [keepE_in htk,rn_pure _ _ this.1]
   ·rw [keepE_out htk]; rfl
  rw [henv]
  refine SOps_weak (σ':=⟨upd (keepE ks env) D (.vw 1 D 0 (R.length + 1) cap'),fam b cds (R ++ [⟨l,j,cap⟩]) (upd o0 D (.box (refs b 1 0 (R ++ [⟨l,j,cap⟩]) ++ List.replicate j' .non)))⟩) ?_ (hK cap' j' c1 c2 c3)
  intro a w hg
  refine Sub_of ?_ ?_ C a w hg
  ·exact EnvLe.rfl' _
  refine fam_le fun n => ?_
  by_cases hn:n = D
  ·subst hn
   left
   simp only [upd_app,if_true,rnP_app',if_neg hDE,Ob.rn]
   congr 1
   rw [refs_snoc,rnL_append,rnL_append,refs_rn hE R 0 (by omega),rn_non,Nat.add_zero]
   congr 2
   simp [AV.rnL,AV.rn]
  ·right
   rw [upd_app,if_neg hn]; rfl
 refine SOps_step ?_
 rw [AStep_S]
 have hmb:(R.length + 1) * bytes ≤ 1001 * 100:=Nat.mul_le_mul (by omega) hby
 rcases hg with ⟨rfl,rfl,rfl⟩ | ⟨hR,c0,j0,q1,q2,q3,rfl,rfl⟩
 ·simp only [go_sem,htg2,htB2,hoB2,hoD2,reduceIte]
  refine ⟨by omega,by simp only [List.length_nil] at hmb; omega,?_⟩
  rw [if_neg (by decide)]
  intro cap' j' c1 c2 c3
  refine tail cap' j' _ _ (by simpa using c1) c2 (by simp; omega) (key _ (.box [if E = D then AV.non else AV.vw 1 E 0 l.length cap]) _ ?_)
  rw [if_neg (fun h => hDE h.symm),prg_non]
  rfl
 ·simp only [go_sem,htg2,htB2,hoB2,hoD2,reduceIte]
  refine ⟨by rw [refs_len,List.length_replicate]; omega,by omega,by omega,?_⟩
  rw [if_neg (by decide)]
  intro cap' j' c1 c2 c3
  refine tail cap' j' _ _ c1 c2 (by omega) (key _ (.box [if E = D then AV.non else AV.vw 1 E 0 l.length cap]) _ ?_)
  rw [refs_take,prgL_append,prgL_append,refs_prg hD,prg_non]
  simp only [AV.prgL,AV.prg,if_neg (fun h:E = D => hDE h.symm)]
  funext n
  simp only [upd]
  split <;> rfl
end
end Go.V

/-
 A grid that has grown is lent.
-/
namespace Go.V
section
variable {α:Type} {cds:α → List CD} {C:Ctx} {K:St → Prop} {is:List Ins} {Q:Exit → St → Prop} {v:VC}
theorem rn_boxO (d n:Nat) (cs:List AV):(Ob.box cs).rn d n = .box (AV.rnL d n cs):=rfl
theorem refs_rn1000 {D:Nat} (h:D < 1000):∀ (R:List (Row α)) (k:Nat),AV.rnL D 1000 (refs 1001 1 k R) = refs 1001 1 k R
 | [],k => rfl
 | r :: R,k => by
  simp only [refs,AV.rnL,AV.rn,refs_rn1000 h R (k + 1)]
  rw [if_neg (by omega),if_neg (by omega)]
theorem Gam_grown {D t:Nat} {R:List (Row α)} {cap j:Nat} {env:Nat → AV} (ks:List Nat) (hD:D < 1000) (hpin:∀ n,¬ C.pin n) (ht:env t = .vw 1 D 0 R.length cap) (hks:(ks.all fun t => (env t).pureB) = true) :
  ∀ a w,Gam C ⟨env,fam 1001 cds R (upd o0 D (.box (refs 1001 1 0 R ++ List.replicate j .non)))⟩ a w → Gam C ⟨upd (keepE ks env) t (.vw 1 1000 0 R.length cap),gown cds 1 R j o0⟩ a w:=by
 intro a w hg
 have e0:(fam 1001 cds R (upd o0 D (.box (refs 1001 1 0 R ++ List.replicate j .non)))) 1000 = .none:=by
  rw [fam_lo (by decide),upd_app,if_neg (by omega)]; rfl
 have h1:=Gam_move (d:=D) (n:=1000) (by omega) (hpin _) e0 hg
 refine Sub_of (σ':=⟨upd (keepE ks env) t (.vw 1 1000 0 R.length cap),gown cds 1 R j o0⟩) ?_ ?_ C a w h1
 ·intro s
  show AWk _ (rnE D 1000 env s) (upd (keepE ks env) t (.vw 1 1000 0 R.length cap) s)
  rw [rnE_app,upd_app]
  split
  ·rename_i e
   subst e
   rw [ht]
   exact AWk.of (by simp [AV.rn])
  ·by_cases hk:s ∈ ks
   ·rw [keepE_in hk,rn_pure _ _ (List.all_eq_true.1 hks s hk)]
    exact AWk.refl _ _
   ·rw [keepE_out hk]; exact .inl rfl
 ·show ObjLe (rnO D 1000 (fam 1001 cds R _)) (fam 1001 cds R _)
  unfold rnO
  rw [rnP_fam,fam_lo (by omega),upd_app,if_pos rfl,fam_upd (by decide),fam_upd (by omega)]
  refine ObjLe_fam fun n => ?_
  by_cases h1:n = 1000
  ·subst h1
   left
   simp only [upd_app,if_true]
   rw [if_neg (by omega)]
   simp only [Ob.rn,gridOb,rnL_append,refs_rn1000 hD,rn_non]
  ·right
   rw [upd_app,if_neg h1]; rfl
theorem WV_grown {D t:Nat} {R:List (Row α)} {cap j:Nat} {env:Nat → AV} (ks:List Nat) (hD:D < 1000) (hpin:∀ n,¬ C.pin n) (ht:env t = .vw 1 D 0 R.length cap) (hks:(ks.all fun t => (env t).pureB) = true)
  (h:WV C v Q ⟨upd (keepE ks env) t (.vw 1 1000 0 R.length cap),gown cds 1 R j o0⟩):WV C v Q ⟨env,fam 1001 cds R (upd o0 D (.box (refs 1001 1 0 R ++ List.replicate j .non)))⟩:=WV_weak (Gam_grown ks hD hpin ht hks) h
theorem refs_rnlo {b d n:Nat} (hb:d < b) (hn:n < b):∀ (S:List (Row α)) (k:Nat),AV.rnL d n (refs b 1 k S) = refs b 1 k S
 | [],k => rfl
 | r :: S,k => by
  have e1:¬ k + b = d:=by omega
  have e2:¬ k + b = n:=by omega
  simp only [refs,AV.rnL,AV.rn,if_neg e1,if_neg e2,refs_rnlo hb hn S (k + 1)]
theorem WV_regrow {b D D' t:Nat} {R:List (Row α)} {x:Ob} {env:Nat → AV} (ks:List Nat) (hDb:D < b) (hDb':D' < b) (hne:D ≠ D') (hpin:∀ n,¬ C.pin n) (hg:GrowG b D R (env t) x) (hks:(ks.all fun t => (env t).pureB) = true)
  (h:∀ y' x',GrowG b D' R y' x' → WV C v Q ⟨upd (keepE ks env) t y',fam b cds R (upd o0 D' x')⟩):WV C v Q ⟨env,fam b cds R (upd o0 D x)⟩:=by
 rcases hg with ⟨rfl,hy,rfl⟩ | ⟨hR,cap,j,h1,h2,h3,hy,rfl⟩
 ·refine WV_sub (σ':=⟨upd (keepE ks env) t (.c (.raw (.slice none 0 0))),fam b cds [] (upd o0 D' .none)⟩) (Sub_of ?_ ?_) (h _ _ (GrowG.nil _ _))
  ·exact EnvLe_upd (AWk.of hy) (EnvLe_keep env ks)
  ·show ObjLe (fam b cds [] (upd o0 D .none)) (fam b cds [] (upd o0 D' .none))
   refine ObjLe_fam fun n => ?_
   right
   simp only [upd_app]
   split <;> rfl
 ·refine WV_weak (fun a w hg => Gam_move (d:=D) (n:=D') hne (hpin _) ?_ hg) ?_
  ·show fam b cds R (upd o0 D (.box (refs b 1 0 R ++ List.replicate j .non))) D' = .none
   rw [fam_lo hDb',upd_app,if_neg (Ne.symm hne)]; rfl
  refine WV_sub (σ':=⟨upd (keepE ks env) t (.vw 1 D' 0 R.length cap),fam b cds R (upd o0 D' (.box (refs b 1 0 R ++ List.replicate j .non)))⟩) (Sub_of ?_ ?_) (h _ _ (GrowG.some hR h1 h2 h3))
  ·intro s
   show AWk _ (rnE D D' env s) (upd (keepE ks env) t (.vw 1 D' 0 R.length cap) s)
   rw [rnE_app,upd_app]
   split
   ·rename_i e
    subst e
    rw [hy]
    exact AWk.of (by simp [AV.rn])
   ·by_cases hk:s ∈ ks
    ·rw [keepE_in hk,rn_pure _ _ (List.all_eq_true.1 hks s hk)]
     exact AWk.refl _ _
    ·rw [keepE_out hk]; exact .inl rfl
  ·show ObjLe (rnO D D' (fam b cds R _)) (fam b cds R _)
   unfold rnO
   rw [rnP_fam,fam_lo hDb,upd_app,if_pos rfl,fam_upd hDb',fam_upd hDb]
   refine ObjLe_fam fun n => ?_
   by_cases h1:n = D'
   ·subst h1
    left
    simp only [upd_app,if_true]
    rw [if_neg (Ne.symm hne)]
    simp only [Ob.rn,rnL_append,refs_rnlo hDb hDb',rn_non]
   ·right
    rw [upd_app,if_neg h1]; rfl
theorem GrowG.dg {b D:Nat} {R:List (Row α)} {y:AV} {x:Ob} (h:GrowG b D R y x):y.dg = true ∧ y.dv = y:=by
 rcases h with ⟨_,rfl,_⟩ | ⟨_,_,_,_,_,_,rfl,_⟩ <;> exact ⟨rfl,rfl⟩
theorem GrowG.prg {b D:Nat} {R:List (Row α)} {y:AV} {x:Ob} (h:GrowG b D R y x) {d:Nat} (hd:d ≠ D) (hb:d < b):y.prg d = y ∧ x.prg d = x:=by
 rcases h with ⟨_,rfl,rfl⟩ | ⟨_,_,_,_,_,_,rfl,rfl⟩
 ·exact ⟨rfl,rfl⟩
 ·refine ⟨?_,?_⟩
  ·simp only [AV.prg]; rw [if_neg (fun h => hd h.symm)]
  ·simp only [Ob.prg,prgL_append,refs_prg hb,prg_non]
theorem GrowG.rn {b D:Nat} {R:List (Row α)} {y:AV} {x:Ob} (h:GrowG b D R y x) {d n:Nat} (hd:d ≠ D) (hn:n ≠ D) (hb:d < b) (hnb:n < b):y.rn d n = y ∧ x.rn d n = x:=by
 rcases h with ⟨_,rfl,rfl⟩ | ⟨_,_,_,_,_,_,rfl,rfl⟩
 ·exact ⟨rfl,rfl⟩
 ·refine ⟨?_,?_⟩
  ·simp only [AV.rn]; rw [if_neg (fun h => hd h.symm),if_neg (fun h => hn h.symm)]
  ·have hr:∀ (S:List (Row α)) (k:Nat),AV.rnL d n (refs b 1 k S) = refs b 1 k S:=by
    intro S
    induction S with
    | nil => intro k; rfl
    | cons r S ih =>
     intro k
     have e1:¬ k + b = d:=by omega
     have e2:¬ k + b = n:=by omega
     simp only [refs,AV.rnL,AV.rn,if_neg e1,if_neg e2,ih]
   simp only [Ob.rn,rnL_append,hr,rn_non]
theorem GrowG.any {b D:Nat} {R:List (Row α)} {y:AV} {x:Ob} (h:GrowG b D R y x):∀ d,y.prg d = y ∨ d = D:=by
 intro d
 by_cases hd:d = D
 ·exact .inr hd
 ·rcases h with ⟨_,rfl,_⟩ | ⟨_,_,_,_,_,_,rfl,_⟩
  ·exact .inl rfl
  ·left; simp only [AV.prg]; rw [if_neg (fun h => hd h.symm)]
end
end Go.V

/-
 A grid of any kind of cells: handed out by a call,and turned into data.
-/
namespace Go.V
section
variable {α:Type} {cds:α → List CD} {C:Ctx} {Q:Exit → St → Prop} {K:St → Prop} {is:List Ins}
end
end Go.V
