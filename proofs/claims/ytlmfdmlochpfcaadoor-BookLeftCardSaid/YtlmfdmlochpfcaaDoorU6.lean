/-
  Contracts of the layer's functions, of the laws' helpers and of the law; conditions: as each theorem states.
-/
import Derived.Test.YtlmfdmlochpfcaaDoorU5
import Derived.Test.YtlmfdmlochpfcaaDoorU4
import Derived.Test.YtlmfdmlochpfcaaDoorV3
set_option linter.unusedVariables false
set_option linter.unusedSimpArgs false
namespace Go.Proofs.YtlmfdmlochpfcaaDoor
open Go Go.V
attribute [local go_sem] Nat.reduceEqDiff Nat.reduceAdd Nat.reduceMul reduceIte Nat.reduceLeDiff Nat.reduceLT Nat.reduceBEq reduceCtorEq
abbrev IRow:=Row Int
def icds (n:Int):List CD:=[.int .i64 n]
theorem icds_one (n:Int):(icds n).length = 1:=rfl
theorem irefs_glen (R:List IRow) (j:Nat):(refs 1001 1 0 R ++ List.replicate j AV.non).length = R.length + j:=by simp [refs_len]
theorem icell {l:List Int} {k:Nat} (h:k < l.length) (j:Nat) (x:AV):(cellsG icds l j).getD k x = iv l[k]:=by
 have:=cellsG_get (cds:=icds) icds_one h j 0 (d:=.int .i64 l[k]) rfl x
 simpa using this
theorem icell_lt {l:List Int} {k:Nat} (h:k < l.length) (j:Nat):k < (cellsG icds l j).length:=by rw [cellsG_len icds_one]; omega
def gi (R:List IRow):List (List Int):=R.map Row.l
theorem gi_len (R:List IRow):(gi R).length = R.length:=by simp [gi]
theorem gi_row {R:List IRow} {i:Nat} (h:i < R.length):(gi R).getD i [] = (R[i]).l:=by unfold gi; exact map_getD h
theorem gi_wid {R:List IRow} (h:0 < R.length):wid (gi R) = (R[0]).l.length:=by unfold wid; rw [gi_row h]
theorem gi_at {R:List IRow} {i k:Nat} (h:i < R.length) (hk:k < (R[i]).l.length):valAt (gi R) (i,k) = (R[i]).l[k]:=by
 unfold valAt
 simp only
 rw [gi_row h,List.getD_eq_getElem?_getD,List.getElem?_eq_getElem hk]; rfl
theorem enterG {P:Program} {m:List Nat} {f:FuncId} {fc:FC} (hc:compM P m f = some fc) {R:List IRow} {j:Nat} {args:List AV} {Post:AV → List Ob → Prop} (hl:R.length ≤ 999) (hn:args.length ≤ fc.np) (hnp:fc.np ≤ fc.N) (hN:fc.N ≤ 1000)
  (h:∀ C:Ctx,C.P = P → C.N = fc.N → C.Ok → AV.lensL args → WV C fc.body (RetQL fc.rs (gridL icds 1 R j) [] Post) ⟨fun t => args.getD t .non,gown icds 1 R j o0⟩):FSpecL P f args (gridL icds 1 R j) [] Post:=by
 refine FSpecL_of hc (by rw [gridL_len]; omega) hn hnp hN fun C h1 h2 h3 h4 => ?_
 rw [ownW_grid (by omega)]
 exact h C h1 h2 h3 h4
set_option maxHeartbeats 4000000 in
theorem line58R {R:List IRow} (h:GOk (gi R)) (n:Nat) {j cap:Nat}:FSpecL Tryd.prog 58 [.vw 1 1000 0 R.length cap,iv n,bv true] (gridL icds 1 R j) [] (fun r l' => r = .c (marksC (lineP (gi R) n true)) ∧ l' = gridL icds 1 R j):=by
 have hmax:maxLen = 9223372036854775807:=rfl
 have hn:0 < R.length:=by have:=h.pos; rwa [gi_len] at this
 have hl:=h.len
 rw [gi_len] at hl
 have hw:=h.wd
 have hw0:=gi_wid hn
 refine enterG c58 (by omega) (Nat.le_refl _) (by decide) (by decide) fun C hP hN hC hL => ?_; rw [init_env']; simp only [ir58,updL,Nat.reduceAdd]
 (repeat ((first | refine Va ?_ | refine Vb ?_ | refine Vc ?_ | refine Vd ?_ | refine Ve ?_ | refine Vf ?_); (try simp only [go_sem,hP]); (repeat refine qJ ?_)))
 refine WV_nilslot 7 26 31 2 (by decide) (by decide) (by rw [gown_lo (by decide)]; rfl) rfl ?_
 rw [prgO_gown (by decide),gown_upd (by decide)]
 simp only [go_sem]
 refine WV_loopS (fun k:Nat => ⟨upd (upd (upd (upd (upd e0 0 (.vw 1 1000 0 R.length cap)) 1 (iv n)) 2 (bv true)) 8 (iv k)) 7 (.gr 26),gown icds 1 R j (upd o0 26 (.grow 31 2 (((List.range k).map fun i => (n,i)).map mcd)))⟩) (fun k => k ≤ wid (gi R)) (fun k => wid (gi R) - k) 0 (Nat.zero_le _) ?_ ?_
 ·exact Sub_of (by exact EnvLe_au) (ObLe_gown (by exact ObjLe_au))
 ·intro k hk
  (repeat ((first | refine Va ?_ | refine Vb ?_ | refine Vc ?_ | refine Vd ?_ | refine Ve ?_ | refine Vf ?_); (try simp only [go_sem,hP,gown_grid,gown_row hn,Row.ob_box,gridOb,Ob.isBox,refs_get hn,irefs_glen,Int.toNat_zero,Nat.mul_one,Nat.zero_add,Nat.zero_mul,Nat.add_zero,hn,Int.ofNat_lt,Int.natCast_nonneg,← hw0]); (repeat refine qJ ?_)))
  (refine WV_cond rfl (fun h => ?_) (fun h => ?_))
  ·have h:k < wid (gi R):=by simpa using h
   have hw2:=w64 (n:=(k:Int) + 1) (by omega) (by omega)
   have hlen:(((List.range k).map fun i => (n,i)).map mcd).length = k:=by simp
   have hsn:((List.range (k + 1)).map fun i => (n,i)).map mcd = ((List.range k).map fun i => (n,i)).map mcd ++ [[.int .i64 n,.int .i64 k]]:=by
    rw [List.range_succ,List.map_append,List.map_append]; rfl
   have h2:=mcd_two ((List.range k).map fun i => (n,i))
   generalize ((List.range k).map fun i => (n,i)).map mcd = M at hlen hsn h2 ⊢
   (repeat ((first | refine Va ?_ | refine Vb ?_ | refine Vc ?_ | refine Vd ?_ | refine Ve ?_ | refine Vf ?_); (try simp only [go_sem,hP,hw2,hlen,h2,gown_lo,gown_upd,prgO_gown]); (repeat refine qJ ?_)))
   refine ⟨k + 1,by omega,by omega,?_⟩
   rw [hsn]
   exact Sub_of (by exact EnvLe_au) (ObLe_gown (by exact ObjLe_au))
  ·have h:k = wid (gi R):=by simp at h; omega
   subst h
   refine WV_exit ?_
   simp only [thenQ,inQ,if_true,beq_self_eq_true]
   refine WV_seq_ (WV_seq_ ?_)
   (refine WV_op ?_; simp only [go_sem,hP]; (repeat refine qJ ?_))
   refine WV_block ?_
   refine WV_loopS (fun k:Nat => ⟨upd (upd (upd (upd (upd e0 0 (.vw 1 1000 0 R.length cap)) 1 (iv n)) 2 (bv true)) 9 (iv k)) 7 (.gr 26),gown icds 1 R j (upd o0 26 (.grow 31 2 (((List.range (wid (gi R))).map fun i => (n,i)).map mcd)))⟩) (fun k => k = 0) (fun k => k) 0 rfl ?_ ?_
   ·exact Sub_of (by exact EnvLe_au) (ObLe_gown (by exact ObjLe_au))
   ·rintro k rfl
    (repeat ((first | refine Va ?_ | refine Vb ?_ | refine Vc ?_ | refine Vd ?_ | refine Ve ?_ | refine Vf ?_); (try simp only [go_sem,hP]); (repeat refine qJ ?_)))
    (refine WV_cond rfl (fun h => ?_) (fun h => ?_))
    ·simp at h
    ·(repeat ((first | refine Va ?_ | refine Vb ?_ | refine Vc ?_ | refine Vd ?_ | refine Ve ?_ | refine Vf ?_); (try simp only [go_sem,hP,gown_lo]); (repeat refine qJ ?_)))
     (refine WV_ret ?_; simp only [thenQ,inQ,RetQL,RetOkL,resAll,resA]; simp only [go_sem,tupA,AV.keepP,AV.keepPL,gown_lo]; refine ⟨_,gridL icds 1 R j,rfl,KeepL_grid rfl (by omega),?_⟩)
     exact ⟨by simp [marksC,lineP],rfl⟩
set_option maxHeartbeats 4000000 in
theorem line58C {R:List IRow} (h:GOk (gi R)) (n:Nat) {j cap:Nat}:FSpecL Tryd.prog 58 [.vw 1 1000 0 R.length cap,iv n,bv false] (gridL icds 1 R j) [] (fun r l' => r = .c (marksC (lineP (gi R) n false)) ∧ l' = gridL icds 1 R j):=by
 have hmax:maxLen = 9223372036854775807:=rfl
 have hn:0 < R.length:=by have:=h.pos; rwa [gi_len] at this
 have hl:=h.len
 rw [gi_len] at hl
 have hw:=h.wd
 have hw0:=gi_wid hn
 refine enterG c58 (by omega) (Nat.le_refl _) (by decide) (by decide) fun C hP hN hC hL => ?_; rw [init_env']; simp only [ir58,updL,Nat.reduceAdd]
 (repeat ((first | refine Va ?_ | refine Vb ?_ | refine Vc ?_ | refine Vd ?_ | refine Ve ?_ | refine Vf ?_); (try simp only [go_sem,hP]); (repeat refine qJ ?_)))
 refine WV_loopS (fun k:Nat => ⟨upd (upd (upd (upd (upd e0 0 (.vw 1 1000 0 R.length cap)) 1 (iv n)) 2 (bv false)) 8 (iv k)) 7 (.c (.raw (.slice none 0 0))),gown icds 1 R j o0⟩) (fun k => k = 0) (fun k => k) 0 rfl ?_ ?_
 ·exact Sub_of (by exact EnvLe_au) (ObLe_gown (by exact ObjLe_au))
 rintro k rfl
 (repeat ((first | refine Va ?_ | refine Vb ?_ | refine Vc ?_ | refine Vd ?_ | refine Ve ?_ | refine Vf ?_); (try simp only [go_sem,hP,gown_grid,gown_row hn,Row.ob_box,gridOb,Ob.isBox,refs_get hn,irefs_glen,Int.toNat_zero,Nat.mul_one,Nat.zero_add,Nat.zero_mul,Nat.add_zero,hn,Int.ofNat_lt,Int.natCast_nonneg,← hw0]); (repeat refine qJ ?_)))
 (refine WV_cond rfl (fun h => ?_) (fun h => ?_))
 ·simp at h
 refine WV_exit ?_
 simp only [thenQ,inQ,if_true,beq_self_eq_true]
 refine WV_seq_ (WV_seq_ ?_)
 (refine WV_op ?_; simp only [go_sem,hP]; (repeat refine qJ ?_))
 refine WV_nilslot 7 42 31 2 (by decide) (by decide) (by rw [gown_lo (by decide)]; rfl) rfl ?_
 rw [prgO_gown (by decide),gown_upd (by decide)]
 simp only [go_sem]
 refine WV_block ?_
 refine WV_loopS (fun k:Nat => ⟨upd (upd (upd (upd (upd e0 0 (.vw 1 1000 0 R.length cap)) 1 (iv n)) 2 (bv false)) 9 (iv k)) 7 (.gr 42),gown icds 1 R j (upd o0 42 (.grow 31 2 (((List.range k).map fun i => (i,n)).map mcd)))⟩) (fun k => k ≤ R.length) (fun k => R.length - k) 0 (Nat.zero_le _) ?_ ?_
 ·exact Sub_of (by exact EnvLe_au) (ObLe_gown (by exact ObjLe_au))
 ·intro k hk
  (repeat ((first | refine Va ?_ | refine Vb ?_ | refine Vc ?_ | refine Vd ?_ | refine Ve ?_ | refine Vf ?_); (try simp only [go_sem,hP]); (repeat refine qJ ?_)))
  (refine WV_cond rfl (fun h => ?_) (fun h => ?_))
  ·have h:k < R.length:=by simpa using h
   have hw2:=w64 (n:=(k:Int) + 1) (by omega) (by omega)
   have hlen:(((List.range k).map fun i => (i,n)).map mcd).length = k:=by simp
   have hsn:((List.range (k + 1)).map fun i => (i,n)).map mcd = ((List.range k).map fun i => (i,n)).map mcd ++ [[.int .i64 k,.int .i64 n]]:=by
    rw [List.range_succ,List.map_append,List.map_append]; rfl
   have h2:=mcd_two ((List.range k).map fun i => (i,n))
   generalize ((List.range k).map fun i => (i,n)).map mcd = M at hlen hsn h2 ⊢
   (repeat ((first | refine Va ?_ | refine Vb ?_ | refine Vc ?_ | refine Vd ?_ | refine Ve ?_ | refine Vf ?_); (try simp only [go_sem,hP,hw2,hlen,h2,gown_lo,gown_upd,prgO_gown]); (repeat refine qJ ?_)))
   refine ⟨k + 1,by omega,by omega,?_⟩
   rw [hsn]
   exact Sub_of (by exact EnvLe_au) (ObLe_gown (by exact ObjLe_au))
  ·have h:k = R.length:=by simp at h; omega
   subst h
   (repeat ((first | refine Va ?_ | refine Vb ?_ | refine Vc ?_ | refine Vd ?_ | refine Ve ?_ | refine Vf ?_); (try simp only [go_sem,hP,gown_lo]); (repeat refine qJ ?_)))
   (refine WV_ret ?_; simp only [thenQ,inQ,RetQL,RetOkL,resAll,resA]; simp only [go_sem,tupA,AV.keepP,AV.keepPL,gown_lo]; refine ⟨_,gridL icds 1 R j,rfl,KeepL_grid rfl (by omega),?_⟩)
   exact ⟨by simp [marksC,lineP,gi_len],rfl⟩
theorem line58L {R:List IRow} (h:GOk (gi R)) (n:Nat) (b:Bool) {j cap:Nat}:FSpecL Tryd.prog 58 [.vw 1 1000 0 R.length cap,iv n,bv b] (gridL icds 1 R j) [] (fun r l' => r = .c (marksC (lineP (gi R) n b)) ∧ l' = gridL icds 1 R j):=by
 cases b
 ·exact line58C h n
 ·exact line58R h n
set_option maxHeartbeats 4000000 in
theorem lacks57L {R:List IRow} (hR:GOk (gi R)) (l:List (Nat × Nat)) (hl:l.length ≤ 1000) (hin:∀ m ∈ l,inG (gi R) m) {j cap:Nat}:FSpecL Tryd.prog 57 [.vw 1 1000 0 R.length cap,.c (marksC l)] (gridL icds 1 R j) [] (fun r l' => r = .tup [iv (lackL (gi R) l),.c (marksC (lostL (gi R) l))] ∧ l' = gridL icds 1 R j):=by
 have hmax:maxLen = 9223372036854775807:=rfl
 have hRl:=hR.len
 rw [gi_len] at hRl
 refine enterG c57 (by omega) (Nat.le_refl _) (by decide) (by decide) fun C hP hN hC hL => ?_; rw [init_env']; simp only [ir57,updL,Nat.reduceAdd]
 (repeat ((first | refine Va ?_ | refine Vb ?_ | refine Vc ?_ | refine Vd ?_ | refine Ve ?_ | refine Vf ?_); (try simp only [go_sem,hP,marksC]); (repeat refine qJ ?_)))
 refine WV_nilslot 7 39 31 2 (by decide) (by decide) (by rw [gown_lo (by decide)]; rfl) rfl ?_
 rw [prgO_gown (by decide),gown_upd (by decide)]
 simp only [go_sem]
 refine WV_loopS (fun k:Nat => ⟨upd (upd (upd (upd (upd e0 0 (.vw 1 1000 0 R.length cap)) 1 (.c (.sl 2 (l.map mcd)))) 8 (iv k)) 7 (.gr 39)) 6 (iv (sumL (gi R) (l.take k))),gown icds 1 R j (upd o0 39 (.grow 31 2 ((lostL (gi R) (l.take k)).map mcd)))⟩) (fun k => k ≤ l.length) (fun k => l.length - k) 0 (Nat.zero_le _) ?_ ?_
 ·exact Sub_of (by ((repeat' (first | exact EnvLe_e0 _ _ | refine EnvLe_upd ?_ ?_)) <;> ((try simp only [upd_app,e0_app,o0_app,Nat.reduceEqDiff,reduceIte]); first | exact AWk.refl _ _ | exact AWk.int (by omega) | exact AWk.int (by rw [w64 (by omega) (by omega)]; omega) | exact AWk.grow rfl | exact AWk.nil _ | exact AWk.of (by simp [sumL,lostL])))) (ObLe_gown (by exact ObjLe_au))
 ·intro k hk
  (repeat ((first | refine Va ?_ | refine Vb ?_ | refine Vc ?_ | refine Vd ?_ | refine Ve ?_ | refine Vf ?_); (try simp only [go_sem,hP,List.length_map]); (repeat refine qJ ?_)))
  (refine WV_cond rfl (fun h => ?_) (fun h => ?_))
  ·have h:k < l.length:=by simpa using h
   have hw2:=w64 (n:=(k:Int) + 1) (by omega) (by omega)
   obtain ⟨i1,i2,i3,i4⟩:=hin _ (List.getElem_mem h)
   have hs0:=sumL_ok (g:=gi R) (l:=l.take k) fun m hm => hin m (List.mem_of_mem_take hm)
   have htl:(l.take k).length ≤ 1000:=by rw [List.length_take]; omega
   rw [gi_len] at i1
   rw [gi_row i1] at i2
   have hval:((R[(l[k]).1]).l)[(l[k]).2] = valAt (gi R) l[k]:=(gi_at i1 i2).symm
   have hsn:=sumL_snoc (gi R) (l.take k) l[k]
   have hln:=lostL_snoc (gi R) (l.take k) l[k]
   rw [← List.take_succ_eq_append_getElem h] at hsn hln
   (repeat ((first | refine Va ?_ | refine Vb ?_ | refine Vc ?_ | refine Vd ?_ | refine Ve ?_ | refine Vf ?_); (try simp only [go_sem,hP,gown_grid,gown_row i1,Row.ob_box,gridOb,Ob.isBox,refs_get i1,irefs_glen,Nat.mul_one,Nat.zero_add,Nat.add_zero,Int.toNat_natCast,map_getD h,Int.ofNat_lt,h,Int.natCast_nonneg,mcd,i1,i2,icell i2,icell_lt i2,hval,List.length_map]); (repeat refine qJ ?_)))
   have hll:(lostL (gi R) (l.take k)).length ≤ 1000:=Nat.le_trans (List.length_filter_le _ _) htl
   have h2:=mcd_two (lostL (gi R) (l.take k))
   (refine WV_cond rfl (fun h => ?_) (fun h => ?_))
   ·have hv:valAt (gi R) l[k] = -1:=by simpa using h
    rw [if_pos hv] at hsn hln
    (repeat ((first | refine Va ?_ | refine Vb ?_ | refine Vc ?_ | refine Vd ?_ | refine Ve ?_ | refine Vf ?_); (try simp only [go_sem,hP,gown_lo,gown_upd,prgO_gown,Int.toNat_natCast,map_getD (show k < l.length by assumption),Int.ofNat_lt,(show k < l.length by assumption),Int.natCast_nonneg,mcd,List.length_map,h2,hw2]); (repeat refine qJ ?_)))
    refine ⟨k + 1,by omega,by omega,?_⟩
    rw [hsn,hln,List.map_append,Int.add_zero]
    exact Sub_of (by exact EnvLe_au) (ObLe_gown (by exact ObjLe_au))
   ·have hv:¬ valAt (gi R) l[k] = -1:=by simpa using h
    rw [if_neg hv] at hsn hln
    have hw3:=w64 (n:=sumL (gi R) (l.take k) + valAt (gi R) l[k]) (by omega) (by omega)
    (repeat ((first | refine Va ?_ | refine Vb ?_ | refine Vc ?_ | refine Vd ?_ | refine Ve ?_ | refine Vf ?_); (try simp only [go_sem,hP,hw2,hw3]); (repeat refine qJ ?_)))
    refine ⟨k + 1,by omega,by omega,?_⟩
    rw [hsn,hln,List.append_nil]
    exact Sub_of (by exact EnvLe_au) (ObLe_gown (by exact ObjLe_au))
  ·have h:k = l.length:=by simp at h; omega
   subst h
   have hs0:=sumL_ok hin
   rw [List.take_length]
   have e:(94 - (sumL (gi R) l).tmod 94).tmod 94 = lackL (gi R) l:=by
    unfold lackL
    rw [Int.tmod_eq_emod_of_nonneg hs0.1,Int.tmod_eq_emod_of_nonneg (by omega)]
   have hw3:=w64 (n:=94 - (sumL (gi R) l).tmod 94) (by rw [Int.tmod_eq_emod_of_nonneg hs0.1]; omega) (by rw [Int.tmod_eq_emod_of_nonneg hs0.1]; omega)
   (repeat ((first | refine Va ?_ | refine Vb ?_ | refine Vc ?_ | refine Vd ?_ | refine Ve ?_ | refine Vf ?_); (try simp only [go_sem,hP,hw3,e,gown_lo]); (repeat refine qJ ?_)))
   (refine WV_ret ?_; simp only [thenQ,inQ,RetQL,RetOkL,resAll,resA]; simp only [go_sem,tupA,AV.keepP,AV.keepPL,gown_lo]; refine ⟨_,gridL icds 1 R j,rfl,KeepL_grid rfl (by omega),?_⟩)
   exact ⟨rfl,rfl⟩
theorem lacksLL {R:List IRow} (h:GOk (gi R)) {n:Nat} {b:Bool} (hn:n < manyL (gi R) b) {j cap:Nat}:FSpecL Tryd.prog 57 [.vw 1 1000 0 R.length cap,.c (marksC (lineP (gi R) n b))] (gridL icds 1 R j) [] (fun r l' => r = .tup [iv (lackL (gi R) (lineP (gi R) n b)),.c (marksC (lostL (gi R) (lineP (gi R) n b)))] ∧ l' = gridL icds 1 R j):=by
 have h1:=h.wd
 have h2:=h.len
 refine lacks57L h _ ?_ (h.inL hn)
 rw [line_len]; split <;> omega
end Go.Proofs.YtlmfdmlochpfcaaDoor

namespace Go.Proofs.YtlmfdmlochpfcaaDoor
open Go Go.V
abbrev o89_0:List Ins:=[⟨some 2,.mv (.k (.c (.bool false))),none,true⟩]
abbrev o89_1:List Ins:=[⟨some 3,.mv (.k (.c (.int .i64 0))),none,true⟩]
abbrev o89_2:List Ins:=[⟨some 7,.mv (.t 3),none,true⟩,
 ⟨some 8,.mv (.t 0),none,true⟩,
 ⟨some 9,.len (.t 8),none,true⟩,
 ⟨some 10,.mv (.t 0),none,true⟩,
 ⟨some 11,.ia 1 (.t 10) (.k (.c (.int .i64 0))),none,true⟩,
 ⟨some 12,.ld true 1 (.t 11),none,true⟩,
 ⟨some 13,.len (.t 12),none,true⟩,
 ⟨some 14,.bin .add (.t 9) (.t 13),none,true⟩,
 ⟨some 15,.bin .lss (.t 7) (.t 14),none,true⟩]
abbrev v89_3:VC:=(.cond (.t 15) .skip (.exit 0))
abbrev o89_4:List Ins:=[⟨some 18,.mv (.t 0),none,true⟩,
 ⟨some 19,.mv (.t 3),none,true⟩,
 ⟨some 20,.call (.k (.fn 58 [])) [(.t 18),(.t 19),(.k (.c (.bool true)))],none,true⟩,
 ⟨some 4,.mv (.t 20),none,true⟩]
abbrev o89_5:List Ins:=[⟨some 21,.mv (.t 3),none,true⟩,
 ⟨some 22,.mv (.t 0),none,true⟩,
 ⟨some 23,.len (.t 22),none,true⟩,
 ⟨some 24,.bin .geq (.t 21) (.t 23),none,true⟩]
abbrev o89_6:List Ins:=[⟨some 25,.mv (.t 0),none,true⟩,
 ⟨some 26,.mv (.t 3),none,true⟩,
 ⟨some 27,.mv (.t 0),none,true⟩,
 ⟨some 28,.len (.t 27),none,true⟩,
 ⟨some 29,.bin .sub (.t 26) (.t 28),none,true⟩,
 ⟨some 30,.call (.k (.fn 58 [])) [(.t 25),(.t 29),(.k (.c (.bool false)))],none,true⟩,
 ⟨some 4,.mv (.t 30),none,true⟩]
abbrev v89_7:VC:=(.cond (.t 24) (.ops o89_6) .skip)
abbrev o89_8:List Ins:=[⟨some 32,.mv (.t 0),none,true⟩,
 ⟨some 33,.mv (.t 4),none,true⟩,
 ⟨some 34,.call (.k (.fn 57 [])) [(.t 32),(.t 33)],none,true⟩,
 ⟨some 31,.mv (.t 34),none,true⟩,
 ⟨some 35,.ext (.t 31) 0,none,true⟩,
 ⟨some 36,.ext (.t 31) 1,none,true⟩,
 ⟨some 5,.mv (.t 35),none,true⟩,
 ⟨some 6,.mv (.t 36),none,true⟩]
abbrev o89_9:List Ins:=[⟨some 37,.mv (.t 6),none,true⟩,
 ⟨some 38,.len (.t 37),none,true⟩,
 ⟨some 39,.bin .eql (.t 38) (.k (.c (.int .i64 1))),none,true⟩]
abbrev o89_10:List Ins:=[⟨some 40,.mv (.t 0),none,false⟩,
 ⟨some 41,.mv (.t 6),none,false⟩,
 ⟨some 42,.ia 2 (.t 41) (.k (.c (.int .i64 0))),none,false⟩,
 ⟨some 43,.fa 0 (.t 42),none,false⟩,
 ⟨some 44,.ld true 1 (.t 43),none,false⟩,
 ⟨some 45,.ia 1 (.t 40) (.t 44),none,false⟩,
 ⟨some 46,.ld true 1 (.t 45),none,false⟩,
 ⟨some 47,.mv (.t 6),none,false⟩,
 ⟨some 48,.ia 2 (.t 47) (.k (.c (.int .i64 0))),none,false⟩,
 ⟨some 49,.fa 1 (.t 48),none,false⟩,
 ⟨some 50,.ld true 1 (.t 49),none,false⟩,
 ⟨some 51,.mv (.t 5),none,false⟩,
 ⟨some 52,.ia 1 (.t 46) (.t 50),none,true⟩,
 ⟨none,.st 1 (.t 52) (.t 51),none,true⟩]
abbrev o89_11:List Ins:=[⟨some 2,.mv (.k (.c (.bool true))),none,true⟩]
abbrev v89_12:VC:=(.seq (.ops o89_11) .ret)
abbrev v89_13:VC:=(.seq (.dops o89_10) v89_12)
abbrev v89_14:VC:=(.cond (.t 39) v89_13 .skip)
abbrev v89_15:VC:=(.seq (.ops o89_9) v89_14)
abbrev v89_16:VC:=(.seq (.ops o89_8) v89_15)
abbrev v89_17:VC:=(.seq (.seq (.ops o89_5) v89_7) v89_16)
abbrev v89_18:VC:=(.seq (.ops o89_4) v89_17)
abbrev o89_19:List Ins:=[⟨some 16,.mv (.t 3),none,true⟩,
 ⟨some 17,.bin .add (.t 16) (.k (.c (.int .i64 1))),none,true⟩,
 ⟨some 3,.mv (.t 17),none,true⟩]
abbrev v89_20:VC:=(.seq (.block 1 v89_18) (.ops o89_19))
abbrev v89_21:VC:=(.seq (.seq (.ops o89_2) v89_3) v89_20)
-- K89_1: changed and kept: [3]
abbrev v89_22:VC:=(.loop v89_21)
abbrev v89_23:VC:=(.block 0 v89_22)
abbrev o89_24:List Ins:=[⟨some 2,.mv (.k (.c (.bool false))),none,true⟩]
abbrev v89_25:VC:=(.seq (.ops o89_24) .ret)
abbrev v89_26:VC:=(.seq (.seq (.ops o89_1) v89_23) v89_25)
def ir89:FC:=⟨1,53,[.t 2],(.seq (.ops o89_0) v89_26)⟩
theorem c89:compM Tryd.prog [] 89 = some ir89:=by kernel_rfl
attribute [local go_sem] Nat.reduceEqDiff Nat.reduceAdd Nat.reduceMul reduceIte Nat.reduceLeDiff Nat.reduceLT Nat.reduceBEq reduceCtorEq
def putI (R:List IRow) (p:Nat × Nat) (v:Int):List IRow:=if h:p.1 < R.length then R.set p.1 ⟨(R[p.1]).l.set p.2 v,(R[p.1]).j,(R[p.1]).cap⟩ else R
theorem putI_eq {R:List IRow} {p:Nat × Nat} (v:Int) (h:p.1 < R.length):putI R p v = R.set p.1 ⟨(R[p.1]).l.set p.2 v,(R[p.1]).j,(R[p.1]).cap⟩:=dif_pos h
theorem putI_len (R:List IRow) (p:Nat × Nat) (v:Int):(putI R p v).length = R.length:=by unfold putI; split <;> simp
theorem putI_refs (R:List IRow) (p:Nat × Nat) (v:Int):refs 1001 1 0 (putI R p v) = refs 1001 1 0 R:=by
 unfold putI
 split
 ·rename_i h
  exact refs_set h _ (by simp) rfl
 ·rfl
theorem putI_gi {R:List IRow} {p:Nat × Nat} {v:Int} (h:p.1 < R.length):gi (putI R p v) = setG (gi R) p v:=by
 unfold setG
 rw [gi_row h,putI_eq v h]
 unfold gi
 rw [List.map_set]
theorem gown_putI {R:List IRow} {p:Nat × Nat} {v:Int} (h:p.1 < R.length) (hk:p.2 < (R[p.1]).l.length) (j:Nat) (o:Nat → Ob):upd (gown icds 1 R j o) (p.1 + 1001) (.box ((cellsG icds (R[p.1]).l (R[p.1]).j).set p.2 (iv v))) = gown icds 1 (putI R p v) j o:=by
 have:=cellsG_set (cds:=icds) icds_one hk (R[p.1]).j 0 (by decide) (.int .i64 v) v rfl
 rw [Nat.mul_one,Nat.add_zero] at this
 rw [this]
 have e:gridOb 1 (putI R p v) j = gridOb 1 R j:=by unfold gridOb; rw [putI_refs]
 unfold gown
 rw [e,putI_eq v h]
 exact fam_set h ⟨(R[p.1]).l.set p.2 v,(R[p.1]).j,(R[p.1]).cap⟩
theorem GOk.gow {g:List (List Int)} (h:GOk g):GOw g.length (wid g) g:=⟨rfl,h.row,h.val⟩
theorem GOw.gok {n w:Nat} {g:List (List Int)} (h:GOw n w g) (hn:0 < n) (hn2:n ≤ 41) (hw:w ≤ 32):GOk g ∧ wid g = w ∧ g.length = n:=by
 have hw1:wid g = w:=by unfold wid; exact h.row 0 hn
 refine ⟨⟨by rw [h.len]; exact hn,by rw [h.len]; exact hn2,by rw [hw1]; exact hw,fun i hi => by rw [hw1]; exact h.row i (by rw [← h.len]; exact hi),fun i k hi hk => h.val i k (by rw [← h.len]; exact hi) (by rw [← hw1]; exact hk)⟩,hw1,h.len⟩
theorem allP_get (n w i:Nat) (h:i < (allP n w).length):(allP n w)[i] = if i < n then posL n w i true else posL n w (i - n) false:=by
 by_cases hi:i < n
 ·rw [if_pos hi]
  simp [allP,List.getElem_append,hi]
 ·rw [if_neg hi]
  simp [allP,List.getElem_append,hi]
theorem line_pos (g:List (List Int)) (i:Nat) (b:Bool):lineP g i b = posL g.length (wid g) i b:=rfl
def StepR (R:List IRow) (r:AV) (R':List IRow):Prop:=R'.length = R.length ∧ match stepG R.length (wid (gi R)) (gi R) with
 | some g' => r = bv true ∧ gi R' = g'
 | none => r = bv false ∧ R' = R
theorem find_none_take {α:Type} {p:α → Bool} {l:List α} (h:∀ k (hk:k < l.length),p l[k] = false):l.find? p = none:=by
 rw [List.find?_eq_none]
 intro x hx
 obtain ⟨k,hk,rfl⟩:=List.getElem_of_mem hx
 rw [h k hk]; simp
theorem find_at {α:Type} {p:α → Bool}:∀ {l:List α} {i:Nat} (hi:i < l.length),(∀ k (hk:k < l.length),k < i → p l[k] = false) → p l[i] = true → l.find? p = some l[i]
 | x :: l,0,_,_,hp => by simp only [List.getElem_cons_zero] at hp ⊢; simp [hp]
 | x :: l,i + 1,hi,hno,hp => by
  have h0:=hno 0 (by simp) (by omega)
  simp only [List.getElem_cons_zero] at h0
  simp only [List.getElem_cons_succ] at hp ⊢
  rw [List.find?_cons_of_neg (by rw [h0]; simp)]
  exact find_at (by simpa using hi) (fun k hk hki => by have:=hno (k + 1) (by simpa using hk) (by omega); simpa using this) hp
set_option maxRecDepth 20000 in
set_option maxHeartbeats 8000000 in
theorem step89 {R:List IRow} (h:GOk (gi R)) {j cap:Nat}:FSpecL Tryd.prog 89 [.vw 1 1000 0 R.length cap] (gridL icds 1 R j) [] (fun r l' => ∃ R',StepR R r R' ∧ l' = gridL icds 1 R' j):=by
 have hmax:maxLen = 9223372036854775807:=rfl
 have hn:0 < R.length:=by have:=h.pos; rwa [gi_len] at this
 have hl:=h.len
 rw [gi_len] at hl
 have hw:=h.wd
 have hw0:=gi_wid hn
 have hlp:∀ i b,lineP (gi R) i b = posL R.length (wid (gi R)) i b:=fun i b => by rw [line_pos,gi_len]
 have hal:=allP_len R.length (wid (gi R))
 have hal2:(allP R.length (wid (gi R))).length = R.length + wid (gi R):=hal
 refine enterG c89 (by omega) (Nat.le_refl _) (by decide) (by decide) fun C hP hN hC hL => ?_; rw [init_env']; simp only [ir89,updL,Nat.reduceAdd]
 (repeat ((first | refine Va ?_ | refine Vb ?_ | refine Vc ?_ | refine Vd ?_ | refine Ve ?_ | refine Vf ?_); (try simp only [go_sem,hP]); (repeat refine qJ ?_)))
 refine WV_loopS (fun i:Nat => ⟨upd (upd e0 0 (.vw 1 1000 0 R.length cap)) 3 (iv i),gown icds 1 R j o0⟩) (fun i => i ≤ R.length + wid (gi R) ∧ ∀ k (hk:k < (allP R.length (wid (gi R))).length),k < i → oneL (gi R) (allP R.length (wid (gi R)))[k] = false) (fun i => R.length + wid (gi R) - i) 0 ⟨Nat.zero_le _,fun k _ hk => by omega⟩ ?_ ?_
 ·exact Sub_of (by exact EnvLe_au) (ObLe_gown (by exact ObjLe_au))
 ·intro i ⟨hi0,hno⟩
  have hws:=w64 (n:=((R.length:Nat):Int) + ((wid (gi R):Nat):Int)) (by omega) (by omega)
  (repeat ((first | refine Va ?_ | refine Vb ?_ | refine Vc ?_ | refine Vd ?_ | refine Ve ?_ | refine Vf ?_); (try simp only [go_sem,hP,gown_grid,gown_row hn,Row.ob_box,gridOb,Ob.isBox,refs_get hn,irefs_glen,Int.toNat_zero,Nat.mul_one,Nat.zero_add,Nat.zero_mul,Nat.add_zero,hn,Int.ofNat_lt,Int.natCast_nonneg,← hw0,hws]); (repeat refine qJ ?_)))
  (refine WV_cond rfl (fun h => ?_) (fun h => ?_))
  ·have hi:i < R.length + wid (gi R):=by simp at h; omega
   have hw2:=w64 (n:=(i:Int) + 1) (by omega) (by omega)
   have hget:=allP_get R.length (wid (gi R)) i (by omega)
   have hG:GOk (gi R):=by assumption
   -- behind the choice of the line
   have tail:∀ (b:Bool) (m:Nat),(allP R.length (wid (gi R)))[i]'(by omega) = lineP (gi R) m b → m < manyL (gi R) b →
     WV C v89_16 (inQ 1 (thenQ (WV C (.ops o89_19) (thenQ (fun σ' => ∃ i',(i' ≤ R.length + wid (gi R) ∧ ∀ k (hk:k < (allP R.length (wid (gi R))).length),k < i' → oneL (gi R) (allP R.length (wid (gi R)))[k] = false) ∧ R.length + wid (gi R) - i' < R.length + wid (gi R) - i ∧ Sub σ' ⟨upd (upd e0 0 (.vw 1 1000 0 R.length cap)) 3 (iv i'),gown icds 1 R j o0⟩) (inQ 0 (thenQ (WV C v89_25 (RetQL [.t 2] (gridL icds 1 R j) [] (fun r l' => ∃ R',StepR R r R' ∧ l' = gridL icds 1 R' j))) (RetQL [.t 2] (gridL icds 1 R j) [] (fun r l' => ∃ R',StepR R r R' ∧ l' = gridL icds 1 R' j))))))
      (thenQ (fun σ' => ∃ i',(i' ≤ R.length + wid (gi R) ∧ ∀ k (hk:k < (allP R.length (wid (gi R))).length),k < i' → oneL (gi R) (allP R.length (wid (gi R)))[k] = false) ∧ R.length + wid (gi R) - i' < R.length + wid (gi R) - i ∧ Sub σ' ⟨upd (upd e0 0 (.vw 1 1000 0 R.length cap)) 3 (iv i'),gown icds 1 R j o0⟩) (inQ 0 (thenQ (WV C v89_25 (RetQL [.t 2] (gridL icds 1 R j) [] (fun r l' => ∃ R',StepR R r R' ∧ l' = gridL icds 1 R' j))) (RetQL [.t 2] (gridL icds 1 R j) [] (fun r l' => ∃ R',StepR R r R' ∧ l' = gridL icds 1 R' j)))))))
      (⟨upd (upd (upd e0 0 (.vw 1 1000 0 R.length cap)) 3 (iv i)) 4 (.c (marksC (lineP (gi R) m b))),gown icds 1 R j o0⟩ : V.St):=by
    intro b m hlm hm
    (repeat ((first | refine Va ?_ | refine Vb ?_ | refine Vc ?_ | refine Vd ?_ | refine Ve ?_ | refine Vf ?_); (try simp only [go_sem,hP]); (repeat refine qJ ?_)))
    (refine AS_grid (lacksLL (j:=j) (cap:=cap) hG hm) rfl rfl rfl (by simp only [List.map_cons,List.map_nil,List.append_nil]; simp only [go_sem,AV.lendL,lend_grid,AV.lend]) ?_; rintro r l' ⟨rfl,rfl⟩; refine ⟨R,rfl,rfl,rfl,?_⟩; simp only [go_sem,hP,marksC,List.length_map]; (repeat refine qJ ?_); (repeat ((first | refine Va ?_ | refine Vb ?_ | refine Vc ?_ | refine Vd ?_ | refine Ve ?_ | refine Vf ?_); (try simp only [go_sem,hP,marksC,List.length_map]); (repeat refine qJ ?_))))
    have hii:i < (allP R.length (wid (gi R))).length:=by omega
    by_cases h1:oneL (gi R) (lineP (gi R) m b) = true
    ·have hfd:=find_at (p:=oneL (gi R)) hii hno (by rw [hlm]; exact h1)
     obtain ⟨A,p,B,e,_,_,hp,hlo⟩:=lost_one (g:=gi R) (ps:=lineP (gi R) m b) (by unfold oneL at h1; simpa using h1)
     have hpin:=hG.inL hm p (by rw [e]; simp)
     obtain ⟨p1,p2,_,_⟩:=hpin
     rw [gi_len] at p1
     rw [gi_row p1] at p2
     have hst:stepG R.length (wid (gi R)) (gi R) = some (setG (gi R) p (lackL (gi R) (lineP (gi R) m b))):=by
      unfold stepG
      rw [hfd,hlm]
      simp only [hlo]; rfl
     have hput:∀ o,upd (gown icds 1 R j o) (p.1 + 1001) (.box ((cellsG icds (R[p.1]).l (R[p.1]).j).set p.2 (iv (lackL (gi R) (lineP (gi R) m b))))) = gown icds 1 (putI R p (lackL (gi R) (lineP (gi R) m b))) j o:=fun o => gown_putI p1 p2 j o
     have hcl:=icell_lt p2 (R[p.1]).j
     rw [hlo]
     (refine WV_cond rfl (fun h => ?_) (fun h => ?_))
     ·refine WV_seq_ ?_
      (refine WV_op ?_; simp only [go_sem,hP,gown_grid,gown_row p1,Row.ob_box,gridOb,Ob.isBox,refs_get p1,irefs_glen,Nat.mul_one,Nat.zero_add,Nat.add_zero,Int.toNat_natCast,Int.toNat_zero,Int.ofNat_lt,Int.natCast_nonneg,mcd,p1,p2,hcl,hput,List.length_map,List.map_cons,List.map_nil,List.getD_cons_zero,List.length_cons,List.length_nil]; (repeat refine qJ ?_))
      (repeat ((first | refine Va ?_ | refine Vb ?_ | refine Vc ?_ | refine Vd ?_ | refine Ve ?_ | refine Vf ?_); (try simp only [go_sem,hP,gown_lo]); (repeat refine qJ ?_)))
      refine WV_ret ?_
      simp only [thenQ,inQ,RetQL,RetOkL,resAll,resA]
      simp only [go_sem,tupA,AV.keepP,AV.keepPL,gown_lo]
      refine ⟨_,gridL icds 1 (putI R p (lackL (gi R) (lineP (gi R) m b))) j,rfl,KeepL_grid (putI_len _ _ _) (by omega),putI R p (lackL (gi R) (lineP (gi R) m b)),⟨putI_len _ _ _,?_⟩,rfl⟩
      rw [hst]
      exact ⟨rfl,putI_gi p1⟩
     ·simp at h
    ·have h1':oneL (gi R) (lineP (gi R) m b) = false:=by simpa using h1
     have hlne:(lostL (gi R) (lineP (gi R) m b)).length ≠ 1:=by unfold oneL at h1'; simpa using h1'
     (refine WV_cond rfl (fun h => ?_) (fun h => ?_))
     ·simp at h; omega
     ·(repeat ((first | refine Va ?_ | refine Vb ?_ | refine Vc ?_ | refine Vd ?_ | refine Ve ?_ | refine Vf ?_); (try simp only [go_sem,hP,hw2]); (repeat refine qJ ?_)))
      refine ⟨i + 1,⟨by omega,fun k hk hki => ?_⟩,by omega,?_⟩
      ·by_cases hk2:k = i
       ·subst hk2; rw [hlm]; exact h1'
       ·exact hno k hk (by omega)
      ·exact Sub_of (by exact EnvLe_au) (ObLe_gown (by exact ObjLe_au))
   (refine WV_skip ?_; simp only [go_sem])
   refine WV_seq_ (WV_block (WV_seq_ ?_))
   (refine WV_op ?_; simp only [go_sem,hP]; (repeat refine qJ ?_))
   refine AS_grid (line58L (j:=j) (cap:=cap) hG i true) rfl rfl rfl (by simp only [List.map_cons,List.map_nil,List.append_nil]; simp only [go_sem,AV.lendL,lend_grid,AV.lend]) ?_
   rintro r l' ⟨rfl,rfl⟩
   refine ⟨R,rfl,rfl,rfl,?_⟩
   simp only [go_sem]
   refine WV_seq_ (WV_seq_ ?_)
   (refine WV_op ?_; simp only [go_sem,hP]; (repeat refine qJ ?_))
   by_cases hin:i < R.length
   ·rw [if_pos hin] at hget
    (refine WV_cond rfl (fun h => ?_) (fun h => ?_))
    ·simp at h; omega
    ·refine WV_skip ?_
     refine WV_sub ?_ (tail true i (by rw [hget,hlp]) (by unfold manyL; rw [if_pos rfl,gi_len]; exact hin))
     exact Sub_of (by simp only [go_sem]; exact EnvLe_au) (ObLe_gown (by exact ObjLe_au))
   ·rw [if_neg hin] at hget
    have hws3:IntKind.i64.wrap ((i:Int) - (R.length:Int)) = ((i - R.length:Nat):Int):=by rw [w64 (by omega) (by omega)]; omega
    (refine WV_cond rfl (fun h => ?_) (fun h => ?_))
    ·(refine WV_op ?_; simp only [go_sem,hP,hws3]; (repeat refine qJ ?_))
     refine AS_grid (line58L (j:=j) (cap:=cap) hG (i - R.length) false) rfl rfl rfl (by simp only [List.map_cons,List.map_nil,List.append_nil]; simp only [go_sem,AV.lendL,lend_grid,AV.lend,hws3]) ?_
     rintro r l' ⟨rfl,rfl⟩
     refine ⟨R,rfl,rfl,rfl,?_⟩
     simp only [go_sem]
     refine WV_sub ?_ (tail false (i - R.length) (by rw [hget,hlp]) (by unfold manyL; rw [if_neg (by decide)]; omega))
     exact Sub_of (by simp only [go_sem]; exact EnvLe_au) (ObLe_gown (by exact ObjLe_au))
    ·simp at h; omega
  ·have hi:i = R.length + wid (gi R):=by simp at h; omega
   subst hi
   have hst:stepG R.length (wid (gi R)) (gi R) = none:=by
    unfold stepG
    rw [find_none_take fun k hk => hno k hk (by omega)]
   (repeat ((first | refine Va ?_ | refine Vb ?_ | refine Vc ?_ | refine Vd ?_ | refine Ve ?_ | refine Vf ?_); (try simp only [go_sem,hP,gown_lo]); (repeat refine qJ ?_)))
   refine WV_ret ?_
   simp only [thenQ,inQ,RetQL,RetOkL,resAll,resA]
   simp only [go_sem,tupA,AV.keepP,AV.keepPL,gown_lo]
   refine ⟨_,gridL icds 1 R j,rfl,KeepL_grid rfl (by omega),R,⟨rfl,?_⟩,rfl⟩
   rw [hst]
   exact ⟨rfl,rfl⟩
end Go.Proofs.YtlmfdmlochpfcaaDoor

namespace Go.Proofs.YtlmfdmlochpfcaaDoor
open Go Go.V
abbrev o88_0:List Ins:=[⟨some 2,.mv (.k (.c (.raw (.slice none 0 0)))),none,true⟩]
abbrev o88_1:List Ins:=[⟨some 3,.mv (.k (.c (.raw (.slice none 0 0)))),none,true⟩]
abbrev o88_2:List Ins:=[⟨some 4,.mv (.k (.c (.int .i64 0))),none,true⟩]
abbrev o88_3:List Ins:=[⟨some 5,.mv (.t 4),none,true⟩,
 ⟨some 6,.mv (.t 0),none,true⟩,
 ⟨some 7,.len (.t 6),none,true⟩,
 ⟨some 8,.bin .lss (.t 5) (.t 7),none,true⟩]
abbrev v88_4:VC:=(.cond (.t 8) .skip (.exit 0))
abbrev o88_5:List Ins:=[⟨some 11,.mv (.t 3),none,true⟩,
 ⟨some 12,.bsl 3 1 [],none,true⟩,
 ⟨some 13,.mv (.t 0),none,true⟩,
 ⟨some 14,.mv (.t 4),none,true⟩,
 ⟨some 15,.ia 1 (.t 13) (.t 14),none,true⟩,
 ⟨some 16,.ld true 1 (.t 15),none,true⟩,
 ⟨some 17,.appv 3 1 8 (.t 12) (.t 16),none,true⟩,
 ⟨some 18,.bslv 50 1 [(.t 17)],none,true⟩,
 ⟨some 19,.appv 50 1 24 (.t 11) (.t 18),none,true⟩,
 ⟨some 3,.mv (.t 19),none,true⟩]
abbrev o88_6:List Ins:=[⟨some 9,.mv (.t 4),none,true⟩,
 ⟨some 10,.bin .add (.t 9) (.k (.c (.int .i64 1))),none,true⟩,
 ⟨some 4,.mv (.t 10),none,true⟩]
abbrev v88_7:VC:=(.seq (.block 1 (.ops o88_5)) (.ops o88_6))
abbrev v88_8:VC:=(.seq (.seq (.ops o88_3) v88_4) v88_7)
-- K88_1: changed and kept: [4,3]
abbrev v88_9:VC:=(.loop v88_8)
abbrev v88_10:VC:=(.block 0 v88_9)
abbrev o88_11:List Ins:=[⟨some 20,.mv (.t 3),none,true⟩,
 ⟨some 2,.mv (.t 20),none,true⟩]
abbrev v88_12:VC:=(.seq (.ops o88_11) .ret)
abbrev v88_13:VC:=(.seq (.seq (.ops o88_2) v88_10) v88_12)
abbrev v88_14:VC:=(.seq (.ops o88_1) v88_13)
def ir88:FC:=⟨1,21,[.t 2],(.seq (.ops o88_0) v88_14)⟩
theorem c88:compM Tryd.prog [100017,100018,100019] 88 = some ir88:=by kernel_rfl
abbrev o66_0:List Ins:=[⟨some 2,.mv (.k (.c (.raw (.slice none 0 0)))),none,true⟩]
abbrev o66_1:List Ins:=[⟨some 4,.mv (.t 0),none,true⟩,
 ⟨some 5,.call (.k (.fn 88 [])) [(.t 4)],none,true⟩,
 ⟨some 3,.mv (.t 5),none,true⟩]
abbrev o66_2:List Ins:=[⟨some 6,.mv (.t 3),none,true⟩,
 ⟨some 7,.call (.k (.fn 89 [])) [(.t 6)],none,true⟩]
abbrev v66_3:VC:=(.cond (.t 7) .skip (.exit 0))
abbrev v66_4:VC:=(.block 1 .skip)
abbrev v66_5:VC:=(.seq (.seq (.ops o66_2) v66_3) v66_4)
-- K66_1: changed and kept: []
abbrev v66_6:VC:=(.loop v66_5)
abbrev o66_7:List Ins:=[⟨some 8,.mv (.t 3),none,true⟩,
 ⟨some 2,.mv (.t 8),none,true⟩]
abbrev v66_8:VC:=(.seq (.ops o66_7) .ret)
abbrev v66_9:VC:=(.seq (.block 0 v66_6) v66_8)
abbrev v66_10:VC:=(.seq (.ops o66_1) v66_9)
def ir66:FC:=⟨1,9,[.t 2],(.seq (.ops o66_0) v66_10)⟩
theorem c66:compM Tryd.prog [] 66 = some ir66:=by kernel_rfl
attribute [local go_sem] Nat.reduceEqDiff Nat.reduceAdd Nat.reduceMul reduceIte Nat.reduceLeDiff Nat.reduceLT Nat.reduceBEq reduceCtorEq
def CopyP (g:List (List Int)) (r:AV) (os:List Ob):Prop:=∃ (R:List IRow) (j cap:Nat),gi R = g ∧ R.length ≤ cap ∧ cap ≤ maxLen ∧ r = .vw 1 1000 0 R.length cap ∧ os = gridL icds 1 R j
theorem icells_map (l:List Int) (j:Nat):(l.map fun n => [CD.int .i64 n]).flatten.map AV.c ++ List.replicate j .non = cellsG icds l j:=rfl
theorem ints_all (l:List Int):((l.map fun n => [CD.int .i64 n]).all fun e => e.length == 1) = true:=by
 rw [List.all_eq_true]; intro e he; obtain ⟨n,_,rfl⟩:=List.mem_map.1 he; rfl
set_option maxRecDepth 20000 in
set_option maxHeartbeats 8000000 in
theorem copied88 {g:List (List Int)} (h:GOk g) (hw:0 < wid g):FSpecN Tryd.prog 88 [.c (gridC g)] (CopyP g):=by
 have hmax:maxLen = 9223372036854775807:=rfl
 have hl:=h.len
 have hwd:=h.wd
 have hpos:=h.pos
 refine FSpecN_ofP c88 (Nat.le_refl _) (by decide) fun C hP hN hC hpin hL => ?_; rw [init_st]
 simp only [ir88,gridC]
 (repeat ((first | refine Va ?_ | refine Vb ?_ | refine Vc ?_ | refine Vd ?_ | refine Ve ?_ | refine Vf ?_); (try simp only [go_sem,hP]); (repeat refine qJ ?_)))
 refine WV_loopS (fun p:List IRow × AV × Ob => ⟨upd (upd (upd e0 0 (.c (.sl 1 (g.map fun l => [rowC l])))) 4 (iv p.1.length)) 3 p.2.1,fam 1001 icds p.1 (upd o0 19 p.2.2)⟩) (fun p => p.1.length ≤ g.length ∧ gi p.1 = g.take p.1.length ∧ GrowG 1001 19 p.1 p.2.1 p.2.2) (fun p => g.length - p.1.length) ([],.c (.raw (.slice none 0 0)),.none) ⟨Nat.zero_le _,rfl,GrowG.nil _ _⟩ ?_ ?_
 ·refine Sub_of (by exact EnvLe_au) ?_
  rw [fam_nil]
  exact ObjLe_au
 ·rintro ⟨R,y,x⟩ ⟨hr0,hrl,hg⟩
  simp only at hr0 hrl hg ⊢
  (repeat ((first | refine Va ?_ | refine Vb ?_ | refine Vc ?_ | refine Vd ?_ | refine Ve ?_ | refine Vf ?_); (try simp only [go_sem,hP,List.length_map]); (repeat refine qJ ?_)))
  have hyd:=hg.dg.1
  have hyv:=hg.dg.2
  obtain ⟨o1,ho1⟩ : ∃ o1,o1 = upd o0 19 x:=⟨_,rfl⟩
  have gp:∀ d,d ≠ 19 → d < 1001 → AV.prg d y = y ∧ Ob.prg d x = x:=fun d h1 h2 => hg.prg h1 h2
  have gq:∀ d,d ≠ 19 → d < 1001 → prgO d o1 = o1:=fun d h1 h2 => by rw [ho1,prgO_upd,prgO_o0,(gp d h1 h2).2]
  have gz:∀ d,d ≠ 19 → o1 d = .none:=fun d h1 => by rw [ho1,upd_app,if_neg h1]; rfl
  have p12:=gp 12 (by decide) (by decide)
  have q12:=gq 12 (by decide) (by decide)
  have z12:=gz 12 (by decide)
  have p17:=gp 17 (by decide) (by decide)
  have q17:=gq 17 (by decide) (by decide)
  have z17:=gz 17 (by decide)
  rw [← ho1]
  (refine WV_cond rfl (fun h => ?_) (fun h => ?_))
  ·have hk:R.length < g.length:=by simpa using h
   have hw2:=w64 (n:=(R.length:Int) + 1) (by omega) (by omega)
   have hgl:(g[R.length]).length = wid g:=by
    have:=GOk.row (by assumption) R.length hk
    rw [List.getD_eq_getElem?_getD,List.getElem?_eq_getElem hk] at this
    exact this
   have hk0:((g[R.length]).length = 0) = False:=by simp only [eq_iff_iff,iff_false]; omega
   have hia:=ints_all g[R.length]
   (refine WV_skip ?_; simp only [go_sem])
   refine WV_seq_ (WV_block ?_)
   (refine WV_split 7 ?_; simp only [List.take_succ_cons,List.take_zero,List.take_nil,List.drop_succ_cons,List.drop_zero,List.drop_nil]; simp only [go_sem,hP,map_getD hk,Int.toNat_natCast,Int.ofNat_lt,hk,Int.natCast_nonneg,List.length_map,fam_lo,fam_upd,prgO_fam,p12,q12,z12,p17,q17,z17,hyd,hyv,rowC,hk0,hia]; (repeat refine qJ ?_))
   refine ⟨hyd,by omega,by omega,?_⟩
   intro cap j q1 q2 q3
   rw [icells_map,prg_cellsG]
   refine SOps_addrow (cds:=icds) (b:=1001) (D:=19) (E:=17) (B:=18) (tr:=17) (tg:=11) (R:=R) (l:=g[R.length]) (j:=j) (cap:=cap) (y:=y) (x:=x) [0,4] hpin (by decide) (by decide) (by decide) (by decide) (by decide) (by decide) rfl (by show AV.prg 17 (AV.prg 12 y.dv) = y; rw [hyv,p12.1,p17.1]) (by decide) hg ?_ (by omega) (by decide) (by rfl) hg.any ?_
   ·rw [ho1]
    refine ObjLe_fam fun n => ?_
    by_cases e17:n = 17
    ·subst e17; left; simp [upd_app]
    by_cases e19:n = 19
    ·subst e19; left; simp [upd_app]
    right; simp [upd_app,e17,e19,o0_app]
   intro c4 j4 v1 v2 v3
   refine SOps_ops ?_
   simp only [go_sem,keepE]
   (repeat ((first | refine Va ?_ | refine Vb ?_ | refine Vc ?_ | refine Vd ?_ | refine Ve ?_ | refine Vf ?_); (try simp only [go_sem,hP,hw2]); (repeat refine qJ ?_)))
   have hrl2:(R ++ [(⟨g[R.length],j,cap⟩ : IRow)]).length = R.length + 1:=by simp
   refine ⟨(R ++ [⟨g[R.length],j,cap⟩],.vw 1 19 0 (R.length + 1) c4,.box (refs 1001 1 0 (R ++ [⟨g[R.length],j,cap⟩]) ++ List.replicate j4 .non)),⟨by simp only [hrl2]; omega,?_,?_⟩,by simp only [hrl2]; omega,?_⟩
   ·simp only [hrl2]
    unfold gi at hrl ⊢
    rw [List.map_append,hrl,List.take_succ_eq_append_getElem hk]; rfl
   ·rw [← hrl2]
    exact GrowG.some (by simp) (by rw [hrl2]; exact v1) v2 (by rw [hrl2]; omega)
   ·simp only [hrl2]
    refine Sub_of ?_ (ObjLe.rfl' _)
    exact EnvLe_au
  ·have hk:R.length = g.length:=by simp at h; omega
   rw [hk,List.take_length] at hrl
   obtain ⟨cap,j,c1,c2,c3,rfl,rfl⟩ : ∃ cap j,R.length ≤ cap ∧ cap ≤ maxLen ∧ cap ≤ R.length + j ∧ y = .vw 1 19 0 R.length cap ∧ x = .box (refs 1001 1 0 R ++ List.replicate j .non):=by
    rcases hg with ⟨rfl,_,_⟩ | ⟨_,h⟩
    ·simp at hk; omega
    ·exact h
   refine WV_exit ?_
   simp only [thenQ,inQ,reduceIte,beq_self_eq_true]
   rw [ho1]
   refine WV_grown (t:=3) [0] (by decide) hpin rfl rfl ?_
   simp only [go_sem,keepE]
   (repeat ((first | refine Va ?_ | refine Vb ?_ | refine Vc ?_ | refine Vd ?_ | refine Ve ?_ | refine Vf ?_); (try simp only [go_sem,hP]); (repeat refine qJ ?_)))
   refine WV_ret ?_
   simp only [thenQ,inQ,RetQN]
   refine retG_ok (R:=R) (j:=j) (q:=True) (vs:=[.vw 1 1000 0 R.length cap]) (r:=.vw 1 1000 0 R.length cap) (by omega) ?_ trivial ?_ ?_
   ·simp only [resAll,resA]
    simp only [go_sem]
   ·simp only [tupA]
    exact lend_grid
   ·exact ⟨R,j,cap,hrl,c1,c2,rfl,rfl⟩
set_option maxRecDepth 20000 in
set_option maxHeartbeats 8000000 in
theorem restored66 {g:List (List Int)} (h:GOk g) (hw:0 < wid g):FSpec Tryd.prog 66 [.c (gridC g)] (.c (gridC (restG g.length (wid g) g))):=by
 have hmax:maxLen = 9223372036854775807:=rfl
 have hl:=h.len
 have hwd:=h.wd
 have hpos:=h.pos
 have hcp:=copied88 h hw
 refine FSpec_ofP c66 (Nat.le_refl _) (by decide) fun C hP hN hC hpin hL => ?_; rw [init_st]
 simp only [ir66]
 refine WV_seq_ ?_
 (refine WV_op ?_; simp only [go_sem,hP]; (repeat refine qJ ?_))
 refine WV_seq_ ?_
 (refine WV_split 1 ?_; simp only [List.take_succ_cons,List.take_zero,List.take_nil,List.drop_succ_cons,List.drop_zero,List.drop_nil]; simp only [go_sem,hP]; (repeat refine qJ ?_))
 rw [← hP] at hcp
 refine SOps_newG (cds:=icds) hcp hpin rfl rfl rfl rfl (fun n hn => ?_) (fun n hn => ?_) (fun r os hp => .inr ?_)
 ·obtain ⟨k,rfl⟩ : ∃ k,n = k + 1000:=⟨n - 1000,by omega⟩
  simp only [prgE_upd',prgE_e0,AV.prg]
 ·exact ⟨prgO_o0 _,rfl⟩
 obtain ⟨R,j,cap,hR,c1,c2,rfl,rfl⟩:=hp
 refine ⟨R,j,_,rfl,back_vw,?_⟩
 (refine SOps_ops ?_; simp only [go_sem,hP]; (repeat refine qJ ?_))
 have hRl:R.length = g.length:=by rw [← hR,gi_len]
 rw [← hR] at h hw
 have hgw:=h.gow
 have hw32:=h.wd
 have h0:=gi_wid (R:=R) (by omega)
 rw [gi_len] at hgw
 have hres:restG g.length (wid g) g = restG R.length (wid (gi R)) (gi R):=by rw [← hR,gi_len]
 rw [hres]
 generalize wid (gi R) = w at hgw hw hw32
 refine WV_seq_ (WV_block ?_)
 refine WV_loopS (fun S:List IRow => ⟨upd e0 3 (.vw 1 1000 0 R.length cap),gown icds 1 S j o0⟩) (fun S => S.length = R.length ∧ GOw R.length w (gi S) ∧ restG R.length w (gi S) = restG R.length w (gi R)) (fun S => nlost (gi S)) R ⟨rfl,hgw,rfl⟩ ?_ ?_
 ·exact Sub_of (by exact EnvLe_au) (ObLe_gown (by exact ObjLe_au))
 ·rintro S ⟨s1,s2,s3⟩
  obtain ⟨g1,g2,g3⟩:=s2.gok (by omega) (by omega) hw32
  have hst:=step89 g1 (j:=j) (cap:=cap)
  rw [s1] at hst
  refine WV_seq_ (WV_seq_ ?_)
  (refine WV_op ?_; simp only [go_sem,hP]; (repeat refine qJ ?_))
  refine AS_grid hst rfl rfl rfl (by simp only [List.map_cons,List.map_nil,List.append_nil]; simp only [go_sem,AV.lendL,lend_grid,AV.lend]) ?_
  rintro r l' ⟨S',⟨t1,t2⟩,rfl⟩
  rw [g2,s1] at t2
  cases hsg:stepG R.length w (gi S) with
  | some g' =>
   rw [hsg] at t2
   obtain ⟨rfl,t3⟩:=t2
   obtain ⟨_,_,_,_,_,_,_,_,u1,u2⟩:=stepG_some s2 hsg
   refine ⟨S',t1,rfl,rfl,?_⟩
   simp only [go_sem]
   (refine WV_cond rfl (fun h => ?_) (fun h => ?_))
   ·(repeat ((first | refine Va ?_ | refine Vb ?_ | refine Vc ?_ | refine Vd ?_ | refine Ve ?_ | refine Vf ?_); (try simp only [go_sem,hP]); (repeat refine qJ ?_)))
    refine ⟨S',⟨t1.trans s1,by rw [t3]; exact u1,by rw [t3,← s3,restG_step s2 hsg]⟩,by rw [t3]; omega,?_⟩
    exact Sub_of (by exact EnvLe_au) (ObLe_gown (by exact ObjLe_au))
   ·simp at h
  | none =>
   rw [hsg] at t2
   obtain ⟨rfl,t2⟩:=t2
   subst t2
   refine ⟨_,rfl,rfl,rfl,?_⟩
   simp only [go_sem]
   (refine WV_cond rfl (fun h => ?_) (fun h => ?_))
   ·simp at h
   ·refine WV_exit ?_
    simp only [thenQ,inQ,reduceIte,beq_self_eq_true]
    rw [← s3,restG_end hsg]
    rw [← s1]
    refine WV_keep [3] ?_
    simp only [go_sem]
    refine WV_frzGridG icds_one (fun n ds hn => ?_) (fun n ds hn => frzO_o0 _ _) ?_
    ·have hn3:¬ (1000:Nat) = n:=by omega
     simp only [go_sem,AV.frz]
     simp only [hn3,if_false]
    simp only [frzE_upd,frzE_e0,frz_gridG]
    (repeat ((first | refine Va ?_ | refine Vb ?_ | refine Vc ?_ | refine Vd ?_ | refine Ve ?_ | refine Vf ?_); (try simp only [go_sem,hP]); (repeat refine qJ ?_)))
    (refine WV_ret ?_; simp only [thenQ,inQ,RetQ,RetOk,resAll,resA]; simp only [go_sem,tupA,AV.port,AV.portL,exists_eq_left'])
    refine AVle.of ?_
    unfold gridC gi rowC icds
    rw [List.map_map]; rfl
end Go.Proofs.YtlmfdmlochpfcaaDoor

namespace Go.Proofs.YtlmfdmlochpfcaaDoor
open Go Go.V
theorem okB_iff {b:UInt8}:okB b = true ↔ BOk b:=by
 refine ⟨okB_ok,fun h => ?_⟩
 unfold BOk at h
 unfold okB valB
 simp only [Bool.or_eq_true,decide_eq_true_eq]
 by_cases h63:b.toNat = 63
 ·exact .inl h63
 ·right
  rw [if_neg (by omega)]
  split <;> omega
theorem valR_iff {b:UInt8}:(valR b).2 = true ↔ BOk b:=by
 constructor
 ·intro h
  unfold valR at h
  unfold BOk
  split at h
  ·cases h
  ·omega
 ·intro h
  rw [vq_R h]
theorem segB_nl (b:UInt8):∀ (s:List UInt8),∀ l ∈ segB b s,b ∉ l
 | [],l,hl => by
  simp only [segB,List.mem_singleton] at hl
  subst hl; simp
 | y :: s,l,hl => by
  have ih:=segB_nl b s
  unfold segB at hl
  split at hl
  ·rcases List.mem_cons.1 hl with rfl | hl
   ·simp
   ·exact ih l hl
  ·rename_i hyb
   split at hl
   ·rename_i h t he
    rw [he] at ih
    rcases List.mem_cons.1 hl with rfl | hl
    ·intro hm
     rcases List.mem_cons.1 hm with rfl | hm
     ·simp at hyb
     ·exact ih h (by simp) hm
    ·exact ih l (by simp [hl])
   ·simp only [List.mem_singleton] at hl
    subst hl
    intro hm
    simp only [List.mem_singleton] at hm
    subst hm; simp at hyb
theorem textG_cons (l:List UInt8) (t:List (List UInt8)):textG (l :: t) = l ++ 10 :: textG t:=by simp [textG]
theorem seg_text:∀ (s:List UInt8),textG (segB 10 s) = s ++ [10]
 | [] => rfl
 | y :: s => by
  have ih:=seg_text s
  unfold segB
  split
  ·rename_i h
   have hy:y = 10:=by simpa using h
   subst hy
   rw [textG_cons,ih]; rfl
  ·split
   ·rename_i h t he
    rw [he,textG_cons] at ih
    rw [textG_cons,List.cons_append,ih]; rfl
   ·rename_i he
    exact (segB_ne _ _ he).elim
theorem ends_split {s:List UInt8} {b:UInt8} (h:endsB s b = true):s = s.dropLast ++ [b]:=by
 unfold endsB at h
 have h1:s.getLast? = some b:=by simpa using h
 have hne:s ≠ []:=by rintro rfl; cases h1
 rw [List.getLast?_eq_some_getLast hne,Option.some.injEq] at h1
 rw [← h1,List.dropLast_concat_getLast]
theorem seg_text' {s:List UInt8} (h:endsB s 10 = true):textG (segB 10 s.dropLast) = s:=by
 rw [seg_text]
 exact (ends_split h).symm
theorem segB_append (b:UInt8):∀ (l t:List UInt8),b ∉ l → segB b (l ++ b :: t) = l :: segB b t
 | [],t,_ => by simp [segB]
 | y :: l,t,h => by
  have hy:y ≠ b:=fun e => h (by simp [e])
  have ih:=segB_append b l t fun e => h (by simp [e])
  have e:segB b (y :: (l ++ b :: t)) = match segB b (l ++ b :: t) with | h :: t => (y :: h) :: t | [] => [[y]]:=by
   rw [segB,if_neg hy]; rfl
  rw [List.cons_append,e,ih]
theorem segB_last (b:UInt8):∀ (l:List UInt8),b ∉ l → segB b l = [l]
 | [],_ => rfl
 | y :: l,h => by
  have hy:y ≠ b:=fun e => h (by simp [e])
  have ih:=segB_last b l fun e => h (by simp [e])
  unfold segB
  rw [if_neg (by simpa using hy),ih]
theorem text_seg:∀ (rows:List (List UInt8)),rows ≠ [] → (∀ l ∈ rows,(10:UInt8) ∉ l) → endsB (textG rows) 10 = true ∧ segB 10 (textG rows).dropLast = rows
 | [],h,_ => (h rfl).elim
 | [l],_,h => by
  have e:textG [l] = l ++ [10]:=by simp [textG]
  rw [e]
  refine ⟨by simp [endsB],?_⟩
  rw [List.dropLast_concat]
  exact segB_last 10 l (h l (by simp))
 | l :: m :: t,_,h => by
  obtain ⟨h1,h2⟩:=text_seg (m :: t) (by simp) fun x hx => h x (by simp [hx])
  have hne:textG (m :: t) ≠ []:=by rw [textG_cons]; simp
  have e:textG (l :: m :: t) = l ++ 10 :: textG (m :: t):=textG_cons l (m :: t)
  rw [e]
  constructor
  ·have h3:=ends_split h1
   unfold endsB
   rw [h3,← List.cons_append,← List.append_assoc,List.getLast?_concat]
   simp
  ·have e2:(l ++ 10 :: textG (m :: t)).dropLast = l ++ 10 :: (textG (m :: t)).dropLast:=by
    rw [List.dropLast_append_of_ne_nil (by simp),List.dropLast_cons_of_ne_nil hne]
   rw [e2,segB_append 10 l _ (h l (by simp)),h2]
theorem textG_length (rows:List (List UInt8)) (w:Nat) (h:∀ l ∈ rows,l.length = w):(textG rows).length = rows.length * (w + 1):=by
 induction rows with
 | nil => simp [textG]
 | cons l t ih =>
  rw [textG_cons,List.length_append,List.length_cons,ih (fun x hx => h x (by simp [hx])),h l (by simp),List.length_cons,Nat.succ_mul]
  omega
theorem BOk.ne10 {b:UInt8} (h:BOk b):b ≠ 10:=by
 rintro rfl
 unfold BOk at h
 simp at h
theorem SOk.nl {rows:List (List UInt8)} {w:Nat} (h:SOk rows w):∀ l ∈ rows,(10:UInt8) ∉ l:=fun l hl hm => (h.byte l hl 10 hm).ne10 rfl
theorem allOk_of {w:Nat}:∀ (k:Nat) (t:List (List UInt8)),(∀ l ∈ t,2 ≤ l.length ∧ l.length ≤ 32 ∧ l.length = w ∧ ∀ b ∈ l,BOk b) → k + t.length ≤ 41 → allOk w k t = true
 | k,[],_,_ => rfl
 | k,l :: t,h,hk => by
  simp only [List.length_cons] at hk
  simp only [allOk,Bool.and_eq_true]
  refine ⟨?_,allOk_of (k + 1) t (fun x hx => h x (by simp [hx])) (by omega)⟩
  obtain ⟨h1,h2,h3,h4⟩:=h l (by simp)
  unfold okSeg
  simp only [Bool.and_eq_true,decide_eq_true_eq]
  exact ⟨⟨⟨⟨h1,h2⟩,h3⟩,by omega⟩,List.all_eq_true.2 fun b hb => okB_iff.2 (h4 b hb)⟩
theorem parse_is {s:List UInt8} {rows:List (List UInt8)} (h:parseP s = some rows):textG rows = s ∧ SOk rows (rows.headD []).length:=by
 refine ⟨?_,parse_ok h⟩
 unfold parseP at h
 split at h
 ·rename_i he
  split at h
  ·simp only [Option.some.injEq] at h
   subst h
   exact seg_text' he
  ·cases h
 ·cases h
def stp (p:List (List Int) × List Int) (c:UInt8):List (List Int) × List Int:=if c = 10 then (p.1 ++ [p.2],[]) else (p.1,p.2 ++ [(valR c).1])
def stR (s:List UInt8):List (List Int) × List Int:=s.foldl stp ([],[])
theorem stR_snoc {s:List UInt8} {k:Nat} (h:k < s.length):stR (s.take (k + 1)) = stp (stR (s.take k)) s[k]:=by
 unfold stR
 rw [List.take_succ_eq_append_getElem h,List.foldl_append]; rfl
def rowR (l:List UInt8):List Int:=l.map fun b => (valR b).1
theorem fold_line (l:List UInt8) (h:(10:UInt8) ∉ l):∀ p:List (List Int) × List Int,l.foldl stp p = (p.1,p.2 ++ rowR l):=by
 induction l with
 | nil => intro p; simp [rowR]
 | cons y l ih =>
  intro p
  have hy:y ≠ 10:=fun e => h (by simp [e])
  rw [List.foldl_cons,ih (fun e => h (by simp [e]))]
  unfold stp
  rw [if_neg hy]
  simp [rowR]
theorem fold_rows (rows:List (List UInt8)) (h:∀ l ∈ rows,(10:UInt8) ∉ l):∀ g:List (List Int),(textG rows).foldl stp (g,[]) = (g ++ rows.map rowR,[]):=by
 induction rows with
 | nil => intro g; simp [textG]
 | cons l t ih =>
  intro g
  rw [textG_cons,List.foldl_append,fold_line l (h l (by simp)),List.foldl_cons]
  have e:stp (g,([]:List Int) ++ rowR l) 10 = (g ++ [rowR l],[]):=by unfold stp; rw [if_pos rfl]; simp
  rw [e,ih (fun x hx => h x (by simp [hx]))]
  simp
theorem stR_end {s:List UInt8} (h:endsB s 10 = true):stR s = ((segB 10 s.dropLast).map rowR,[]):=by
 have:=fold_rows (segB 10 s.dropLast) (segB_nl 10 _) []
 rw [seg_text' h] at this
 simpa [stR] using this
theorem rowR_vq {l:List UInt8} (h:∀ b ∈ l,BOk b):rowR l = l.map vq:=List.map_congr_left fun b hb => by rw [vq_R (h b hb)]
end Go.Proofs.YtlmfdmlochpfcaaDoor

namespace Go.Proofs.YtlmfdmlochpfcaaDoor
open Go Go.V
abbrev o61_0:List Ins:=[⟨some 2,.mv (.k (.c (.raw (.slice none 0 0)))),none,true⟩,
 ⟨some 3,.mv (.k (.c (.bool false))),none,true⟩]
abbrev o61_1:List Ins:=[⟨some 10,.mv (.t 0),none,true⟩,
 ⟨some 11,.prim .slen [(.t 10)],none,true⟩,
 ⟨some 12,.bin .eql (.t 11) (.k (.c (.int .i64 0))),none,true⟩,
 ⟨some 13,.mv (.t 12),none,true⟩,
 ⟨some 14,.mv (.t 0),(some (13,false)),true⟩,
 ⟨some 15,.prim .slen [(.t 14)],(some (13,false)),true⟩,
 ⟨some 16,.bin .gtr (.t 15) (.k (.c (.int .i64 1353))),(some (13,false)),true⟩,
 ⟨some 17,.pick (.t 13) (.k (.c (.bool true))) (.t 16),none,true⟩,
 ⟨some 18,.mv (.t 17),none,true⟩,
 ⟨some 19,.mv (.t 0),(some (18,false)),true⟩,
 ⟨some 20,.mv (.t 0),(some (18,false)),true⟩,
 ⟨some 21,.prim .slen [(.t 20)],(some (18,false)),true⟩,
 ⟨some 22,.bin .sub (.t 21) (.k (.c (.int .i64 1))),(some (18,false)),true⟩,
 ⟨some 23,.prim .sidx [(.t 19),(.t 22)],(some (18,false)),true⟩,
 ⟨some 24,.bin .neq (.t 23) (.k (.c (.int .u8 10))),(some (18,false)),true⟩,
 ⟨some 25,.pick (.t 18) (.k (.c (.bool true))) (.t 24),none,true⟩]
abbrev o61_2:List Ins:=[⟨some 2,.mv (.k (.c (.raw (.slice none 0 0)))),none,true⟩,
 ⟨some 3,.mv (.k (.c (.bool false))),none,true⟩]
abbrev v61_3:VC:=(.seq (.ops o61_2) .ret)
abbrev v61_4:VC:=(.cond (.t 25) v61_3 .skip)
abbrev o61_5:List Ins:=[⟨some 4,.mv (.k (.c (.raw (.slice none 0 0)))),none,true⟩]
abbrev o61_6:List Ins:=[⟨some 5,.mv (.k (.c (.raw (.slice none 0 0)))),none,true⟩]
abbrev o61_7:List Ins:=[⟨some 6,.mv (.k (.c (.int .i64 0))),none,true⟩]
abbrev o61_8:List Ins:=[⟨some 26,.mv (.t 6),none,true⟩,
 ⟨some 27,.mv (.t 0),none,true⟩,
 ⟨some 28,.prim .slen [(.t 27)],none,true⟩,
 ⟨some 29,.bin .lss (.t 26) (.t 28),none,true⟩]
abbrev v61_9:VC:=(.cond (.t 29) .skip (.exit 0))
abbrev o61_10:List Ins:=[⟨some 32,.mv (.t 0),none,true⟩,
 ⟨some 33,.mv (.t 6),none,true⟩,
 ⟨some 34,.prim .sidx [(.t 32),(.t 33)],none,true⟩,
 ⟨some 35,.bin .eql (.t 34) (.k (.c (.int .u8 10))),none,true⟩]
abbrev o61_11:List Ins:=[⟨some 36,.mv (.t 4),none,true⟩,
 ⟨some 37,.mv (.t 5),none,true⟩,
 ⟨some 38,.bsl 50 1 [(.t 37)],none,true⟩,
 ⟨some 39,.app 50 1 24 (.t 36) (.t 38),none,true⟩,
 ⟨some 4,.mv (.t 39),none,true⟩,
 ⟨some 5,.mv (.k (.c (.raw (.slice none 0 0)))),none,true⟩]
abbrev v61_12:VC:=(.seq (.ops o61_11) (.exit 1))
abbrev v61_13:VC:=(.cond (.t 35) v61_12 .skip)
abbrev o61_14:List Ins:=[⟨some 41,.mv (.t 0),none,true⟩,
 ⟨some 42,.mv (.t 6),none,true⟩,
 ⟨some 43,.prim .sidx [(.t 41),(.t 42)],none,true⟩,
 ⟨some 44,.call (.k (.fn 22 [])) [(.t 43)],none,true⟩,
 ⟨some 40,.mv (.t 44),none,true⟩,
 ⟨some 45,.ext (.t 40) 0,none,true⟩,
 ⟨some 46,.ext (.t 40) 1,none,true⟩,
 ⟨some 7,.mv (.t 45),none,true⟩,
 ⟨some 8,.mv (.t 46),none,true⟩]
abbrev o61_15:List Ins:=[⟨some 47,.mv (.t 8),none,true⟩,
 ⟨some 48,.un .not (.t 47),none,true⟩]
abbrev o61_16:List Ins:=[⟨some 2,.mv (.k (.c (.raw (.slice none 0 0)))),none,true⟩,
 ⟨some 3,.mv (.k (.c (.bool false))),none,true⟩]
abbrev v61_17:VC:=(.seq (.ops o61_16) .ret)
abbrev v61_18:VC:=(.cond (.t 48) v61_17 .skip)
abbrev o61_19:List Ins:=[⟨some 49,.mv (.t 5),none,true⟩,
 ⟨some 50,.mv (.t 7),none,true⟩,
 ⟨some 51,.bsl 3 1 [(.t 50)],none,true⟩,
 ⟨some 52,.app 3 1 8 (.t 49) (.t 51),none,true⟩,
 ⟨some 5,.mv (.t 52),none,true⟩]
abbrev v61_20:VC:=(.seq (.seq (.ops o61_15) v61_18) (.ops o61_19))
abbrev v61_21:VC:=(.seq (.ops o61_14) v61_20)
abbrev v61_22:VC:=(.seq (.seq (.ops o61_10) v61_13) v61_21)
abbrev o61_23:List Ins:=[⟨some 30,.mv (.t 6),none,true⟩,
 ⟨some 31,.bin .add (.t 30) (.k (.c (.int .i64 1))),none,true⟩,
 ⟨some 6,.mv (.t 31),none,true⟩]
abbrev v61_24:VC:=(.seq (.block 1 v61_22) (.ops o61_23))
abbrev v61_25:VC:=(.seq (.seq (.ops o61_8) v61_9) v61_24)
-- K61_1: changed and kept: [6,4,5]
abbrev K61_1:List Nat:=[0]
abbrev v61_26:VC:=(.loop v61_25)
abbrev v61_27:VC:=(.block 0 v61_26)
abbrev o61_28:List Ins:=[⟨some 9,.mv (.k (.c (.int .i64 0))),none,true⟩]
abbrev o61_29:List Ins:=[⟨some 53,.mv (.t 9),none,true⟩,
 ⟨some 54,.mv (.t 4),none,true⟩,
 ⟨some 55,.len (.t 54),none,true⟩,
 ⟨some 56,.bin .lss (.t 53) (.t 55),none,true⟩]
abbrev v61_30:VC:=(.cond (.t 56) .skip (.exit 2))
abbrev o61_31:List Ins:=[⟨some 59,.mv (.t 4),none,false⟩,
 ⟨some 60,.mv (.t 9),none,false⟩,
 ⟨some 61,.ia 1 (.t 59) (.t 60),none,false⟩,
 ⟨some 62,.ld true 1 (.t 61),none,false⟩,
 ⟨some 63,.len (.t 62),none,false⟩,
 ⟨some 64,.mv (.t 4),none,false⟩,
 ⟨some 65,.ia 1 (.t 64) (.k (.c (.int .i64 0))),none,false⟩,
 ⟨some 66,.ld true 1 (.t 65),none,false⟩,
 ⟨some 67,.len (.t 66),none,false⟩,
 ⟨some 68,.bin .neq (.t 63) (.t 67),none,true⟩]
abbrev o61_32:List Ins:=[⟨some 2,.mv (.k (.c (.raw (.slice none 0 0)))),none,true⟩,
 ⟨some 3,.mv (.k (.c (.bool false))),none,true⟩]
abbrev v61_33:VC:=(.seq (.ops o61_32) .ret)
abbrev v61_34:VC:=(.cond (.t 68) v61_33 .skip)
abbrev v61_35:VC:=(.seq (.dops o61_31) v61_34)
abbrev o61_36:List Ins:=[⟨some 57,.mv (.t 9),none,true⟩,
 ⟨some 58,.bin .add (.t 57) (.k (.c (.int .i64 1))),none,true⟩,
 ⟨some 9,.mv (.t 58),none,true⟩]
abbrev v61_37:VC:=(.seq (.block 3 v61_35) (.ops o61_36))
abbrev v61_38:VC:=(.seq (.seq (.ops o61_29) v61_30) v61_37)
-- K61_2: changed and kept: [9]
abbrev K61_2:List Nat:=[4]
abbrev v61_39:VC:=(.loop v61_38)
abbrev v61_40:VC:=(.block 2 v61_39)
abbrev o61_41:List Ins:=[⟨some 69,.mv (.t 4),none,true⟩,
 ⟨some 70,.mv (.t 4),none,true⟩,
 ⟨some 71,.len (.t 70),none,true⟩,
 ⟨some 72,.bin .leq (.t 71) (.k (.c (.int .i64 41))),none,true⟩,
 ⟨some 73,.mv (.t 72),none,true⟩,
 ⟨some 74,.mv (.t 4),(some (73,true)),true⟩,
 ⟨some 75,.ia 1 (.t 74) (.k (.c (.int .i64 0))),(some (73,true)),true⟩,
 ⟨some 76,.ld true 1 (.t 75),(some (73,true)),true⟩,
 ⟨some 77,.len (.t 76),(some (73,true)),true⟩,
 ⟨some 78,.call (.k (.fn 67 [])) [(.t 77),(.k (.c (.int .i64 2))),(.k (.c (.int .i64 32)))],(some (73,true)),true⟩,
 ⟨some 79,.pick (.t 73) (.t 78) (.k (.c (.bool false))),none,true⟩,
 ⟨some 2,.mv (.t 69),none,true⟩,
 ⟨some 3,.mv (.t 79),none,true⟩]
abbrev v61_42:VC:=(.seq (.ops o61_41) .ret)
abbrev v61_43:VC:=(.seq (.seq (.ops o61_28) v61_40) v61_42)
abbrev v61_44:VC:=(.seq (.seq (.ops o61_7) v61_27) v61_43)
abbrev v61_45:VC:=(.seq (.ops o61_6) v61_44)
abbrev v61_46:VC:=(.seq (.ops o61_5) v61_45)
abbrev v61_47:VC:=(.seq (.seq (.ops o61_1) v61_4) v61_46)
def ir61:FC:=⟨1,80,[.t 2,.t 3],(.seq (.ops o61_0) v61_47)⟩
theorem c61:compM Tryd.prog [] 61 = some ir61:=by kernel_rfl
attribute [local go_sem] Nat.reduceEqDiff Nat.reduceAdd Nat.reduceMul reduceIte Nat.reduceLeDiff Nat.reduceLT Nat.reduceBEq reduceCtorEq
def badByte (s:List UInt8):Bool:=s.any fun c => !(c == 10 || (valR c).2)
def eqLen (g:List (List Int)):Bool:=g.all fun l => decide (l.length = wid g)
def retR (s:List UInt8):List (List Int) × Bool :=
 if s.length = 0 ∨ 1353 < s.length ∨ endsB s 10 = false then ([],false)
 else if badByte s then ([],false)
 else if eqLen (stR s).1 then ((stR s).1,decide ((stR s).1.length ≤ 41) && (decide (2 ≤ wid (stR s).1) && decide (wid (stR s).1 ≤ 32)))
 else ([],false)
theorem bad_take {s:List UInt8} {k:Nat} (h:k < s.length) (hb:s[k] ≠ 10) (hv:(valR s[k]).2 = false):badByte s = true:=by
 unfold badByte
 rw [List.any_eq_true]
 exact ⟨s[k],List.getElem_mem h,by simp [hb,hv]⟩
theorem bad_not {s:List UInt8} (h:∀ k (hk:k < s.length),s[k] = 10 ∨ (valR s[k]).2 = true):badByte s = false:=by
 unfold badByte
 rw [Bool.eq_false_iff]
 intro hc
 rw [List.any_eq_true] at hc
 obtain ⟨c,hc,hn⟩:=hc
 obtain ⟨k,hk,rfl⟩:=List.getElem_of_mem hc
 rcases h k hk with h | h <;> simp [h] at hn
theorem stR_ne {s:List UInt8} (h:endsB s 10 = true):0 < (stR s).1.length:=by
 rw [stR_end h]
 simp only [List.length_map]
 have:=segB_ne 10 s.dropLast
 exact List.length_pos_iff.2 this
theorem stR_len:∀ (s:List UInt8),(stR s).1.length ≤ s.length ∧ (stR s).2.length ≤ s.length:=by
 intro s
 have key:∀ (k:Nat),k ≤ s.length → (stR (s.take k)).1.length ≤ k ∧ (stR (s.take k)).2.length ≤ k:=by
  intro k
  induction k with
  | zero => intro _; simp [stR]
  | succ k ih =>
   intro hk
   have:=ih (by omega)
   rw [stR_snoc (by omega)]
   unfold stp
   split
   ·simp; omega
   ·simp; omega
 have:=key s.length (Nat.le_refl _)
 rwa [List.take_length] at this
def rw1 (l:List Int):List CD:=[rowC l]
def nw1 (n:Int):List CD:=[.int .i64 n]
theorem rw1_one (g:List (List Int)):((g.map rw1).all fun e => e.length == 1) = true:=by
 rw [List.all_eq_true]; intro e he; obtain ⟨n,_,rfl⟩:=List.mem_map.1 he; rfl
theorem nw1_one (g:List Int):((g.map nw1).all fun e => e.length == 1) = true:=by
 rw [List.all_eq_true]; intro e he; obtain ⟨n,_,rfl⟩:=List.mem_map.1 he; rfl
theorem last_at {s:List UInt8} (h:0 < s.length):(endsB s 10 = true ↔ s[s.length - 1] = 10):=by
 unfold endsB
 rw [List.getLast?_eq_getElem?,List.getElem?_eq_getElem (by omega)]
 simp
theorem beq10 (b:UInt8):((b.toNat:Int) == 10) = decide (b = 10):=by
 rw [Bool.eq_iff_iff]
 simp only [beq_iff_eq,decide_eq_true_eq]
 constructor
 ·intro h; exact UInt8.toNat_inj.1 (by show b.toNat = 10; omega)
 ·rintro rfl; rfl
set_option maxRecDepth 20000 in
set_option maxHeartbeats 8000000 in
theorem parse61D (s:List UInt8) (hs:s.length ≤ 100000):FSpec Tryd.prog 61 [sv s] (.tup [.c (gridC (retR s).1),bv (retR s).2]):=by
 have hmax:maxLen = 9223372036854775807:=rfl
 refine FSpec_ofP c61 (Nat.le_refl _) (by decide) fun C hP hN hC hpin hL => ?_; rw [init_st]
 simp only [ir61]
 refine WV_seq_ ?_
 (refine WV_op ?_; simp only [go_sem,hP]; (repeat refine qJ ?_))
 refine WV_seq_ (WV_seq_ ?_)
 by_cases h0:s.length = 0
 ·have hr:retR s = ([],false):=by unfold retR; rw [if_pos (.inl h0)]
  have hs0:s = []:=List.eq_nil_of_length_eq_zero h0
  subst hs0
  rw [hr]
  (refine WV_op ?_; simp only [go_sem,hP,List.length_nil]; (repeat refine qJ ?_))
  (refine WV_cond rfl (fun h => ?_) (fun h => ?_))
  ·(repeat ((first | refine Va ?_ | refine Vb ?_ | refine Vc ?_ | refine Vd ?_ | refine Ve ?_ | refine Vf ?_); (try simp only [go_sem,hP]); (repeat refine qJ ?_)))
   (refine WV_ret ?_; simp only [thenQ,inQ,RetQ,RetOk,resAll,resA]; simp only [go_sem,tupA,AV.port,AV.portL,exists_eq_left'])
   exact AVle.tup ⟨_,_,rfl,AVle.nil 1,_,_,rfl,AVle.refl _,rfl⟩
  ·simp at h
 by_cases h1:1353 < s.length
 ·have hr:retR s = ([],false):=by unfold retR; rw [if_pos (.inr (.inl h1))]
  have hw0:=w64 (n:=(s.length:Int) - 1) (by omega) (by omega)
  have hln:((s.length:Int) - 1).toNat = s.length - 1:=by omega
  rw [hr]
  (refine WV_op ?_; simp only [go_sem,hP,hw0,hln,str_at (show s.length - 1 < s.length by omega)]; (repeat refine qJ ?_))
  (refine WV_cond rfl (fun h => ?_) (fun h => ?_))
  ·(repeat ((first | refine Va ?_ | refine Vb ?_ | refine Vc ?_ | refine Vd ?_ | refine Ve ?_ | refine Vf ?_); (try simp only [go_sem,hP]); (repeat refine qJ ?_)))
   (refine WV_ret ?_; simp only [thenQ,inQ,RetQ,RetOk,resAll,resA]; simp only [go_sem,tupA,AV.port,AV.portL,exists_eq_left'])
   exact AVle.tup ⟨_,_,rfl,AVle.nil 1,_,_,rfl,AVle.refl _,rfl⟩
  ·simp at h; omega
 have hw0:=w64 (n:=(s.length:Int) - 1) (by omega) (by omega)
 have hln:((s.length:Int) - 1).toNat = s.length - 1:=by omega
 have hlast:=last_at (s:=s) (by omega)
 have h10:=beq10 (s[s.length - 1]'(by omega))
 by_cases h2:endsB s 10 = true
 ·have h2':=hlast.1 h2
  have hr:retR s = if badByte s then ([],false) else if eqLen (stR s).1 then ((stR s).1,decide ((stR s).1.length ≤ 41) && (decide (2 ≤ wid (stR s).1) && decide (wid (stR s).1 ≤ 32))) else ([],false):=by
   unfold retR
   rw [if_neg (by rintro (h | h | h); exact h0 h; exact h1 h; rw [h2] at h; cases h)]
  rw [h2'] at h10
  (refine WV_op ?_; simp only [go_sem,hP,hw0,hln,str_at (show s.length - 1 < s.length by omega),h2']; (repeat refine qJ ?_))
  (refine WV_cond rfl (fun h => ?_) (fun h => ?_))
  ·exfalso
   have hs0:s ≠ []:=fun e => h0 (by rw [e]; rfl)
   simp [hs0] at h; omega
  (refine WV_skip ?_; simp only [go_sem])
  refine WV_keep [0] ?_
  simp only [go_sem]
  (repeat ((first | refine Va ?_ | refine Vb ?_ | refine Vc ?_ | refine Vd ?_ | refine Ve ?_ | refine Vf ?_); (try simp only [go_sem,hP]); (repeat refine qJ ?_)))
  refine WV_nilslot 4 39 50 1 (by decide) (by decide) rfl rfl ?_
  simp only [go_sem]
  refine WV_nilslot 5 52 3 1 (by decide) (by decide) rfl rfl ?_
  simp only [go_sem]
  refine WV_loopK K61_1 [39,52] (fun i:Nat => i ≤ s.length ∧ ∀ k (hk:k < s.length),k < i → s[k] = 10 ∨ (valR s[k]).2 = true) (fun i => s.length - i) (fun i => [(6,iv i),(4,.gr 39),(5,.gr 52)]) (fun i => [(39,.grow 50 1 ((stR (s.take i)).1.map rw1)),(52,.grow 3 1 ((stR (s.take i)).2.map nw1))]) 0 ⟨Nat.zero_le _,fun k _ hk => by omega⟩ ?_ ?_
  ·(refine Sub_of (by simp only [go_sem]; ((repeat' (first | exact EnvLe_e0 _ _ | refine EnvLe_upd ?_ ?_)) <;> ((try simp only [upd_app,e0_app,o0_app,Nat.reduceEqDiff,reduceIte]); first | exact AWk.refl _ _ | exact AWk.int (by omega) | exact AWk.int (by rw [w64 (by omega) (by omega)]; omega) | exact AWk.grow rfl | exact AWk.nil _ | exact AWk.of (by simp [stR])))) (by simp only [go_sem]; exact ObjLe_au))
  ·intro i ⟨hi0,hno⟩
   simp only [go_sem]
   (repeat ((first | refine Va ?_ | refine Vb ?_ | refine Vc ?_ | refine Vd ?_ | refine Ve ?_ | refine Vf ?_); (try simp only [go_sem,hP]); (repeat refine qJ ?_)))
   (refine WV_cond rfl (fun h => ?_) (fun h => ?_))
   ·have hi:i < s.length:=by simpa using h
    have hw2:=w64 (n:=(i:Int) + 1) (by omega) (by omega)
    have hsn:=stR_snoc hi
    have hl1:=stR_len (s.take i)
    have htl:(s.take i).length = i:=by rw [List.length_take]; omega
    rw [htl] at hl1
    (repeat ((first | refine Va ?_ | refine Vb ?_ | refine Vc ?_ | refine Vd ?_ | refine Ve ?_ | refine Vf ?_); (try simp only [go_sem,hP,Int.toNat_natCast,Int.ofNat_lt,hi,Int.natCast_nonneg,str_at hi,beq10]); (repeat refine qJ ?_)))
    generalize stR (s.take i) = st at hsn hl1
    obtain ⟨g,row⟩:=st
    simp only at hl1 ⊢
    have n1:=rw1_one g
    have n2:=nw1_one row
    by_cases hc:s[i] = 10
    ·unfold stp at hsn
     rw [if_pos hc] at hsn
     have hl52:∀ own:Nat → Ob,AWk (upd own 52 (.grow 3 1 (row.map nw1))) (.gr 52) (.c (rowC row)):=fun own => .inr (.inr (.inl ⟨52,3,1,_,rfl,by rw [upd_app,if_pos rfl]; rfl,rfl⟩))
     (refine WV_cond rfl (fun h => ?_) (fun h => ?_))
     ·refine WV_seq_ ?_
      refine WV_sub (σ':=⟨upd (upd (upd (upd e0 0 (.c (.str s))) 6 (iv i)) 4 (.gr 39)) 5 (.c (rowC row)),upd o0 39 (.grow 50 1 (g.map rw1))⟩) (Sub_of ?_ ?_) ?_
      ·refine EnvLe_upd (hl52 _) ?_
       exact EnvLe_au
      ·exact ObjLe_au
      (refine WV_op ?_; simp only [go_sem,hP,rowC,n1,List.length_map]; (repeat refine qJ ?_))
      (refine WV_exit ?_; simp only [go_sem])
      refine WV_nilslot 5 52 3 1 (by decide) (by decide) rfl rfl ?_
      simp only [go_sem]
      (repeat ((first | refine Va ?_ | refine Vb ?_ | refine Vc ?_ | refine Vd ?_ | refine Ve ?_ | refine Vf ?_); (try simp only [go_sem,hP,hw2]); (repeat refine qJ ?_)))
      refine ⟨i + 1,⟨by omega,fun k hk hki => ?_⟩,by omega,?_⟩
      ·by_cases hk2:k = i
       ·subst hk2; exact .inl hc
       ·exact hno k hk (by omega)
      ·rw [hsn]
       simp only [List.map_append,List.map_cons,List.map_nil]
       exact Sub_au
     ·simp [hc] at h
    ·unfold stp at hsn
     rw [if_neg hc] at hsn
     (refine WV_cond rfl (fun h => ?_) (fun h => ?_))
     ·simp [hc] at h
     ·(refine WV_skip ?_; simp only [go_sem])
      refine WV_seq_ ?_
      (refine WV_op ?_; simp only [go_sem,hP,Int.toNat_natCast,Int.ofNat_lt,hi,Int.natCast_nonneg,str_at hi]; (repeat refine qJ ?_))
      (refine AS_pu (value22 s[i]) ?_; simp only [go_sem,hP]; (repeat refine qJ ?_); (repeat ((first | refine Va ?_ | refine Vb ?_ | refine Vc ?_ | refine Vd ?_ | refine Ve ?_ | refine Vf ?_); (try simp only [go_sem,hP]); (repeat refine qJ ?_))))
      by_cases hv:(valR s[i]).2 = true
      ·rw [hv]
       (refine WV_cond rfl (fun h => ?_) (fun h => ?_))
       ·simp at h
       (repeat ((first | refine Va ?_ | refine Vb ?_ | refine Vc ?_ | refine Vd ?_ | refine Ve ?_ | refine Vf ?_); (try simp only [go_sem,hP,n2,hw2,List.length_map]); (repeat refine qJ ?_)))
       refine ⟨i + 1,⟨by omega,fun k hk hki => ?_⟩,by omega,?_⟩
       ·by_cases hk2:k = i
        ·subst hk2; exact .inr hv
        ·exact hno k hk (by omega)
       ·rw [hsn]
        simp only [List.map_append,List.map_cons,List.map_nil]
        (refine Sub_of (by simp only [go_sem]; ((repeat' (first | exact EnvLe_e0 _ _ | refine EnvLe_upd ?_ ?_)) <;> ((try simp only [upd_app,e0_app,o0_app,Nat.reduceEqDiff,reduceIte]); first | exact AWk.refl _ _ | exact AWk.int (by omega) | exact AWk.int (by rw [w64 (by omega) (by omega)]; omega) | exact AWk.grow rfl | exact AWk.nil _ | exact AWk.of (by simp [nw1])))) (by simp only [go_sem]; exact ObjLe_au))
      ·have hbad:=bad_take hi hc (by simpa using hv)
       have hr2:retR s = ([],false):=by rw [hr,if_pos hbad]
       rw [hr2]
       rw [show (valR s[i]).2 = false from by simpa using hv]
       (refine WV_cond rfl (fun h => ?_) (fun h => ?_))
       ·(repeat ((first | refine Va ?_ | refine Vb ?_ | refine Vc ?_ | refine Vd ?_ | refine Ve ?_ | refine Vf ?_); (try simp only [go_sem,hP]); (repeat refine qJ ?_)))
        (refine WV_ret ?_; simp only [thenQ,inQ,RetQ,RetOk,resAll,resA]; simp only [go_sem,tupA,AV.port,AV.portL,exists_eq_left'])
        exact AVle.tup ⟨_,_,rfl,AVle.nil 1,_,_,rfl,AVle.refl _,rfl⟩
       ·simp at h
   ·have hi:i = s.length:=by simp at h; omega
    subst hi
    rw [List.take_length]
    have hr2:=hr
    rw [if_neg (by rw [bad_not fun k hk => hno k hk hk]; simp)] at hr2
    have hl1:=(stR_len s).1
    have hp1:=stR_ne h2
    generalize (stR s).1 = g at hr2 hl1 hp1 ⊢
    refine WV_exit ?_
    simp only [thenQ,inQ,reduceIte,beq_self_eq_true]
    refine WV_sub (σ':=⟨upd e0 4 (.c (gridC g)),o0⟩) (Sub_of ?_ ?_) ?_
    ·refine EnvLe_upd ?_ (EnvLe_e0 _ _)
     exact .inr (.inr (.inl ⟨39,50,1,_,rfl,rfl,rfl⟩))
    ·exact ObjLe_o0 _
    (repeat ((first | refine Va ?_ | refine Vb ?_ | refine Vc ?_ | refine Vd ?_ | refine Ve ?_ | refine Vf ?_); (try simp only [go_sem,hP]); (repeat refine qJ ?_)))
    have hw00:=wid_at hp1
    refine WV_loopK K61_2 [] (fun k:Nat => k ≤ g.length ∧ ∀ m (hm:m < g.length),m < k → g[m].length = wid g) (fun k => g.length - k) (fun k => [(9,iv k)]) (fun _ => []) 0 ⟨Nat.zero_le _,fun m _ h => by omega⟩ ?_ ?_
    ·exact Sub_au
    ·intro k ⟨hk0,hke⟩
     simp only [go_sem]
     (repeat ((first | refine Va ?_ | refine Vb ?_ | refine Vc ?_ | refine Vd ?_ | refine Ve ?_ | refine Vf ?_); (try simp only [go_sem,hP,gridC,List.length_map]); (repeat refine qJ ?_)))
     (refine WV_cond rfl (fun h => ?_) (fun h => ?_))
     ·have hk:k < g.length:=by simpa using h
      have hw2:=w64 (n:=(k:Int) + 1) (by omega) (by omega)
      (refine WV_skip ?_; simp only [go_sem])
      refine WV_seq_ (WV_block (WV_seq_ ?_))
      (refine WV_op ?_; simp only [go_sem,hP,gridC,rowC,map_getD hk,map_getD hp1,List.length_map,Int.toNat_natCast,Int.toNat_zero,Int.ofNat_lt,hk,hp1,Int.natCast_nonneg,hw00]; (repeat refine qJ ?_))
      by_cases he:g[k].length = wid g
      ·(refine WV_cond rfl (fun h => ?_) (fun h => ?_))
       ·simp [he] at h
       ·(repeat ((first | refine Va ?_ | refine Vb ?_ | refine Vc ?_ | refine Vd ?_ | refine Ve ?_ | refine Vf ?_); (try simp only [go_sem,hP,hw2]); (repeat refine qJ ?_)))
        refine ⟨k + 1,⟨by omega,fun m hm hmk => ?_⟩,by omega,?_⟩
        ·by_cases e2:m = k
         ·subst e2; exact he
         ·exact hke m hm (by omega)
        ·(refine Sub_of (by simp only [go_sem]; ((repeat' (first | exact EnvLe_e0 _ _ | refine EnvLe_upd ?_ ?_)) <;> ((try simp only [upd_app,e0_app,o0_app,Nat.reduceEqDiff,reduceIte]); first | exact AWk.refl _ _ | exact AWk.int (by omega) | exact AWk.int (by rw [w64 (by omega) (by omega)]; omega) | exact AWk.grow rfl | exact AWk.nil _ | exact AWk.of (by simp [gridC])))) (by simp only [go_sem]; exact ObjLe_au))
      ·have hne:eqLen g = false:=by
        unfold eqLen
        rw [Bool.eq_false_iff]
        intro hc
        exact he (by simpa using List.all_eq_true.1 hc g[k] (List.getElem_mem hk))
       rw [hne,if_neg (by simp)] at hr2
       rw [hr2]
       (refine WV_cond rfl (fun h => ?_) (fun h => ?_))
       ·(repeat ((first | refine Va ?_ | refine Vb ?_ | refine Vc ?_ | refine Vd ?_ | refine Ve ?_ | refine Vf ?_); (try simp only [go_sem,hP]); (repeat refine qJ ?_)))
        (refine WV_ret ?_; simp only [thenQ,inQ,RetQ,RetOk,resAll,resA]; simp only [go_sem,tupA,AV.port,AV.portL,exists_eq_left'])
        exact AVle.tup ⟨_,_,rfl,AVle.nil 1,_,_,rfl,AVle.refl _,rfl⟩
       ·simp at h; omega
     ·have hk:k = g.length:=by simp at h; omega
      subst hk
      have heq:eqLen g = true:=by
       unfold eqLen
       rw [List.all_eq_true]
       intro l hl
       obtain ⟨m,hm,rfl⟩:=List.getElem_of_mem hl
       simpa using hke m hm hm
      rw [heq,if_pos rfl] at hr2
      rw [hr2]
      refine WV_exit ?_
      simp only [thenQ,inQ,reduceIte,beq_self_eq_true]
      have hwi:=within67 (wid g) 2 32
      refine WV_seq_ ?_
      (refine WV_op ?_; simp only [go_sem,hP,gridC,rowC,map_getD hp1,List.length_map,Int.toNat_zero,Int.ofNat_lt,hp1,Int.natCast_nonneg,hw00]; (repeat refine qJ ?_))
      (refine AG_pu (fun hG => hwi) ?_; simp only [go_sem,hP]; (repeat refine qJ ?_); (repeat ((first | refine Va ?_ | refine Vb ?_ | refine Vc ?_ | refine Vd ?_ | refine Ve ?_ | refine Vf ?_); (try simp only [go_sem,hP]); (repeat refine qJ ?_))))
      (refine WV_ret ?_; simp only [thenQ,inQ,RetQ,RetOk,resAll,resA]; simp only [go_sem,tupA,AV.port,AV.portL,exists_eq_left'])
      have hcast:decide ((g.length:Int) ≤ 41) = decide (g.length ≤ 41):=by rw [Bool.eq_iff_iff]; simp; omega
      have hc2:decide ((2:Int) ≤ (wid g:Int)) = decide (2 ≤ wid g):=by rw [Bool.eq_iff_iff]; simp; omega
      have hc3:decide ((wid g:Int) ≤ 32) = decide (wid g ≤ 32):=by rw [Bool.eq_iff_iff]; simp; omega
      rw [hcast,hc2,hc3]
      exact AVle.refl _
 ·have hr:retR s = ([],false):=by unfold retR; rw [if_pos (.inr (.inr (by simpa using h2)))]
  have h2':s[s.length - 1]'(by omega) ≠ 10:=fun h => h2 (hlast.2 h)
  rw [hr]
  (refine WV_op ?_; simp only [go_sem,hP,hw0,hln,str_at (show s.length - 1 < s.length by omega),bne,h10]; (repeat refine qJ ?_))
  (refine WV_cond rfl (fun h => ?_) (fun h => ?_))
  ·(repeat ((first | refine Va ?_ | refine Vb ?_ | refine Vc ?_ | refine Vd ?_ | refine Ve ?_ | refine Vf ?_); (try simp only [go_sem,hP]); (repeat refine qJ ?_)))
   (refine WV_ret ?_; simp only [thenQ,inQ,RetQ,RetOk,resAll,resA]; simp only [go_sem,tupA,AV.port,AV.portL,exists_eq_left'])
   exact AVle.tup ⟨_,_,rfl,AVle.nil 1,_,_,rfl,AVle.refl _,rfl⟩
  ·exfalso
   simp at h
   first | exact h2' h.2.2 | exact h2' h.2
end Go.Proofs.YtlmfdmlochpfcaaDoor

namespace Go.Proofs.YtlmfdmlochpfcaaDoor
open Go Go.V
attribute [local go_sem] Nat.reduceEqDiff Nat.reduceAdd Nat.reduceMul reduceIte Nat.reduceLeDiff Nat.reduceLT Nat.reduceBEq reduceCtorEq
theorem text_mem:∀ {rows:List (List UInt8)} {c:UInt8},c ∈ textG rows → c = 10 ∨ ∃ l ∈ rows,c ∈ l
 | [],c,h => by simp [textG] at h
 | l :: t,c,h => by
  rw [textG_cons,List.mem_append,List.mem_cons] at h
  rcases h with h | h | h
  ·exact .inr ⟨l,by simp,h⟩
  ·exact .inl h
  ·rcases text_mem h with h | ⟨m,hm,h⟩
   ·exact .inl h
   ·exact .inr ⟨m,by simp [hm],h⟩
theorem rowsR_vals {rows:List (List UInt8)} (h:∀ l ∈ rows,∀ b ∈ l,BOk b):rows.map rowR = valsG rows:=List.map_congr_left fun l hl => rowR_vq (h l hl)
theorem vals_wid {rows:List (List UInt8)} {w:Nat} (h:SOk rows w):wid (valsG rows) = w:=by
 have hp:=h.pos
 unfold wid valsG
 rw [map_getD (d:=[]) hp,List.length_map]
 exact h.row _ (List.getElem_mem hp)
theorem vals_len (rows:List (List UInt8)):(valsG rows).length = rows.length:=by simp [valsG]
theorem vals_gok {rows:List (List UInt8)} {w:Nat} (h:SOk rows w):GOk (valsG rows):=by
 have:=(vals_gow h).gok h.pos h.len h.w32
 exact this.1
theorem stR_rows {rows:List (List UInt8)} {w:Nat} (h:SOk rows w):stR (textG rows) = (valsG rows,[]):=by
 have hne:rows ≠ []:=by rintro rfl; exact absurd h.pos (by simp)
 obtain ⟨h1,h2⟩:=text_seg rows hne h.nl
 rw [stR_end h1,h2,rowsR_vals h.byte]
theorem retR_some {s:List UInt8} {rows:List (List UInt8)} (h:parseP s = some rows):retR s = (valsG rows,true):=by
 obtain ⟨rfl,hok⟩:=parse_is h
 generalize (rows.headD []).length = w at hok
 have hne:rows ≠ []:=by rintro rfl; exact absurd hok.pos (by simp)
 obtain ⟨h1,h2⟩:=text_seg rows hne hok.nl
 have hl:=textG_length rows w hok.row
 have hb:rows.length * (w + 1) ≤ 41 * 33:=Nat.mul_le_mul hok.len (by have:=hok.w32; omega)
 have hb2:1 * 1 ≤ rows.length * (w + 1):=Nat.mul_le_mul hok.pos (by omega)
 unfold retR
 rw [if_neg (by rw [h1]; rintro (h | h | h); omega; omega; cases h),stR_rows hok]
 rw [if_neg]
 ·have he:eqLen (valsG rows) = true:=by
   unfold eqLen
   rw [List.all_eq_true]
   intro l hl
   rw [vals_wid hok]
   simp only [valsG,List.mem_map] at hl
   obtain ⟨x,hx,rfl⟩:=hl
   simpa using hok.row x hx
  rw [if_pos he,vals_wid hok,vals_len]
  have h3:=hok.len
  have h4:=hok.w2
  have h5:=hok.w32
  simp [h3,h4,h5]
 ·rw [bad_not]
  ·simp
  ·intro k hk
   rcases text_mem (List.getElem_mem hk) with h | ⟨l,hl,hc⟩
   ·exact .inl h
   ·exact .inr (valR_iff.2 (hok.byte l hl _ hc))
theorem seg_sub {s:List UInt8} (h:endsB s 10 = true) {l:List UInt8} (hl:l ∈ segB 10 s.dropLast) {b:UInt8} (hb:b ∈ l):b ∈ s:=by
 rw [← seg_text' h]
 unfold textG
 rw [List.mem_flatMap]
 exact ⟨l,hl,by simp [hb]⟩
theorem retR_none {s:List UInt8} (h:parseP s = none):(retR s).2 = false:=by
 rw [Bool.eq_false_iff]
 intro hc
 unfold retR at hc
 split at hc
 ·cases hc
 ·rename_i h0
  have h10:endsB s 10 = true:=by
   cases he:endsB s 10
   ·exact (h0 (.inr (.inr he))).elim
   ·rfl
  split at hc
  ·cases hc
  ·rename_i hbad
   split at hc
   ·rename_i heq
    simp only [Bool.and_eq_true,decide_eq_true_eq] at hc
    rw [stR_end h10] at hc heq
    simp only [List.length_map] at hc
    obtain ⟨c1,c2,c3⟩:=hc
    have hbytes:∀ l ∈ segB 10 s.dropLast,∀ b ∈ l,BOk b:=by
     intro l hl b hb
     have hbs:=seg_sub h10 hl hb
     have hn:b ≠ 10:=fun e => segB_nl 10 _ l hl (e ▸ hb)
     refine valR_iff.1 ?_
     cases hv:(valR b).2
     ·exfalso
      apply hbad
      unfold badByte
      rw [List.any_eq_true]
      exact ⟨b,hbs,by simp [hn,hv]⟩
     ·rfl
    have hlens:∀ l ∈ segB 10 s.dropLast,l.length = wid ((segB 10 s.dropLast).map rowR):=by
     intro l hl
     have:=List.all_eq_true.1 heq (rowR l) (List.mem_map_of_mem hl)
     simpa [rowR] using this
    have hhead:((segB 10 s.dropLast).headD []).length = wid ((segB 10 s.dropLast).map rowR):=by
     cases hsg:segB 10 s.dropLast with
     | nil => exact (segB_ne _ _ hsg).elim
     | cons x t => rw [hsg] at hlens; exact hlens x (by simp)
    have hal:=allOk_of (w:=wid ((segB 10 s.dropLast).map rowR)) 0 (segB 10 s.dropLast) (fun l hl => ⟨by rw [hlens l hl]; exact c2,by rw [hlens l hl]; exact c3,hlens l hl,hbytes l hl⟩) (by omega)
    unfold parseP at h
    rw [if_pos h10,hhead,if_pos hal] at h
    cases h
   ·cases hc
end Go.Proofs.YtlmfdmlochpfcaaDoor

namespace Go.Proofs.YtlmfdmlochpfcaaDoor
open Go Go.V
namespace W
abbrev o61_0:List Ins:=[⟨some 2,.mv (.k (.c (.raw (.slice none 0 0)))),none,true⟩,
 ⟨some 3,.mv (.k (.c (.bool false))),none,true⟩]
abbrev o61_1:List Ins:=[⟨some 10,.mv (.t 0),none,true⟩,
 ⟨some 11,.prim .slen [(.t 10)],none,true⟩,
 ⟨some 12,.bin .eql (.t 11) (.k (.c (.int .i64 0))),none,true⟩,
 ⟨some 13,.mv (.t 12),none,true⟩,
 ⟨some 14,.mv (.t 0),(some (13,false)),true⟩,
 ⟨some 15,.prim .slen [(.t 14)],(some (13,false)),true⟩,
 ⟨some 16,.bin .gtr (.t 15) (.k (.c (.int .i64 1353))),(some (13,false)),true⟩,
 ⟨some 17,.pick (.t 13) (.k (.c (.bool true))) (.t 16),none,true⟩,
 ⟨some 18,.mv (.t 17),none,true⟩,
 ⟨some 19,.mv (.t 0),(some (18,false)),true⟩,
 ⟨some 20,.mv (.t 0),(some (18,false)),true⟩,
 ⟨some 21,.prim .slen [(.t 20)],(some (18,false)),true⟩,
 ⟨some 22,.bin .sub (.t 21) (.k (.c (.int .i64 1))),(some (18,false)),true⟩,
 ⟨some 23,.prim .sidx [(.t 19),(.t 22)],(some (18,false)),true⟩,
 ⟨some 24,.bin .neq (.t 23) (.k (.c (.int .u8 10))),(some (18,false)),true⟩,
 ⟨some 25,.pick (.t 18) (.k (.c (.bool true))) (.t 24),none,true⟩]
abbrev o61_2:List Ins:=[⟨some 2,.mv (.k (.c (.raw (.slice none 0 0)))),none,true⟩,
 ⟨some 3,.mv (.k (.c (.bool false))),none,true⟩]
abbrev v61_3:VC:=(.seq (.ops o61_2) .ret)
abbrev v61_4:VC:=(.cond (.t 25) v61_3 .skip)
abbrev o61_5:List Ins:=[⟨some 4,.mv (.k (.c (.raw (.slice none 0 0)))),none,true⟩]
abbrev o61_6:List Ins:=[⟨some 5,.mv (.k (.c (.raw (.slice none 0 0)))),none,true⟩]
abbrev o61_7:List Ins:=[⟨some 6,.mv (.k (.c (.int .i64 0))),none,true⟩]
abbrev o61_8:List Ins:=[⟨some 26,.mv (.t 6),none,true⟩,
 ⟨some 27,.mv (.t 0),none,true⟩,
 ⟨some 28,.prim .slen [(.t 27)],none,true⟩,
 ⟨some 29,.bin .lss (.t 26) (.t 28),none,true⟩]
abbrev v61_9:VC:=(.cond (.t 29) .skip (.exit 0))
abbrev o61_10:List Ins:=[⟨some 32,.mv (.t 0),none,true⟩,
 ⟨some 33,.mv (.t 6),none,true⟩,
 ⟨some 34,.prim .sidx [(.t 32),(.t 33)],none,true⟩,
 ⟨some 35,.bin .eql (.t 34) (.k (.c (.int .u8 10))),none,true⟩]
abbrev o61_11:List Ins:=[⟨some 36,.mv (.t 4),none,true⟩,
 ⟨some 37,.mv (.t 5),none,true⟩,
 ⟨some 38,.bslv 50 1 [(.t 37)],none,true⟩,
 ⟨some 39,.appv 50 1 24 (.t 36) (.t 38),none,true⟩,
 ⟨some 4,.mv (.t 39),none,true⟩,
 ⟨some 5,.mv (.k (.c (.raw (.slice none 0 0)))),none,true⟩]
abbrev v61_12:VC:=(.seq (.ops o61_11) (.exit 1))
abbrev v61_13:VC:=(.cond (.t 35) v61_12 .skip)
abbrev o61_14:List Ins:=[⟨some 41,.mv (.t 0),none,true⟩,
 ⟨some 42,.mv (.t 6),none,true⟩,
 ⟨some 43,.prim .sidx [(.t 41),(.t 42)],none,true⟩,
 ⟨some 44,.call (.k (.fn 22 [])) [(.t 43)],none,true⟩,
 ⟨some 40,.mv (.t 44),none,true⟩,
 ⟨some 45,.ext (.t 40) 0,none,true⟩,
 ⟨some 46,.ext (.t 40) 1,none,true⟩,
 ⟨some 7,.mv (.t 45),none,true⟩,
 ⟨some 8,.mv (.t 46),none,true⟩]
abbrev o61_15:List Ins:=[⟨some 47,.mv (.t 8),none,true⟩,
 ⟨some 48,.un .not (.t 47),none,true⟩]
abbrev o61_16:List Ins:=[⟨some 2,.mv (.k (.c (.raw (.slice none 0 0)))),none,true⟩,
 ⟨some 3,.mv (.k (.c (.bool false))),none,true⟩]
abbrev v61_17:VC:=(.seq (.ops o61_16) .ret)
abbrev v61_18:VC:=(.cond (.t 48) v61_17 .skip)
abbrev o61_19:List Ins:=[⟨some 49,.mv (.t 5),none,true⟩,
 ⟨some 50,.mv (.t 7),none,true⟩,
 ⟨some 51,.bsl 3 1 [(.t 50)],none,true⟩,
 ⟨some 52,.appv 3 1 8 (.t 49) (.t 51),none,true⟩,
 ⟨some 5,.mv (.t 52),none,true⟩]
abbrev v61_20:VC:=(.seq (.seq (.ops o61_15) v61_18) (.ops o61_19))
abbrev v61_21:VC:=(.seq (.ops o61_14) v61_20)
abbrev v61_22:VC:=(.seq (.seq (.ops o61_10) v61_13) v61_21)
abbrev o61_23:List Ins:=[⟨some 30,.mv (.t 6),none,true⟩,
 ⟨some 31,.bin .add (.t 30) (.k (.c (.int .i64 1))),none,true⟩,
 ⟨some 6,.mv (.t 31),none,true⟩]
abbrev v61_24:VC:=(.seq (.block 1 v61_22) (.ops o61_23))
abbrev v61_25:VC:=(.seq (.seq (.ops o61_8) v61_9) v61_24)
-- K61_1: changed and kept: [6,4,5]
abbrev K61_1:List Nat:=[0]
abbrev v61_26:VC:=(.loop v61_25)
abbrev v61_27:VC:=(.block 0 v61_26)
abbrev o61_28:List Ins:=[⟨some 9,.mv (.k (.c (.int .i64 0))),none,true⟩]
abbrev o61_29:List Ins:=[⟨some 53,.mv (.t 9),none,true⟩,
 ⟨some 54,.mv (.t 4),none,true⟩,
 ⟨some 55,.len (.t 54),none,true⟩,
 ⟨some 56,.bin .lss (.t 53) (.t 55),none,true⟩]
abbrev v61_30:VC:=(.cond (.t 56) .skip (.exit 2))
abbrev o61_31:List Ins:=[⟨some 59,.mv (.t 4),none,false⟩,
 ⟨some 60,.mv (.t 9),none,false⟩,
 ⟨some 61,.ia 1 (.t 59) (.t 60),none,false⟩,
 ⟨some 62,.ld true 1 (.t 61),none,false⟩,
 ⟨some 63,.len (.t 62),none,false⟩,
 ⟨some 64,.mv (.t 4),none,false⟩,
 ⟨some 65,.ia 1 (.t 64) (.k (.c (.int .i64 0))),none,false⟩,
 ⟨some 66,.ld true 1 (.t 65),none,false⟩,
 ⟨some 67,.len (.t 66),none,false⟩,
 ⟨some 68,.bin .neq (.t 63) (.t 67),none,true⟩]
abbrev o61_32:List Ins:=[⟨some 2,.mv (.k (.c (.raw (.slice none 0 0)))),none,true⟩,
 ⟨some 3,.mv (.k (.c (.bool false))),none,true⟩]
abbrev v61_33:VC:=(.seq (.ops o61_32) .ret)
abbrev v61_34:VC:=(.cond (.t 68) v61_33 .skip)
abbrev v61_35:VC:=(.seq (.dops o61_31) v61_34)
abbrev o61_36:List Ins:=[⟨some 57,.mv (.t 9),none,true⟩,
 ⟨some 58,.bin .add (.t 57) (.k (.c (.int .i64 1))),none,true⟩,
 ⟨some 9,.mv (.t 58),none,true⟩]
abbrev v61_37:VC:=(.seq (.block 3 v61_35) (.ops o61_36))
abbrev v61_38:VC:=(.seq (.seq (.ops o61_29) v61_30) v61_37)
-- K61_2: changed and kept: [9]
abbrev K61_2:List Nat:=[4]
abbrev v61_39:VC:=(.loop v61_38)
abbrev v61_40:VC:=(.block 2 v61_39)
abbrev o61_41:List Ins:=[⟨some 69,.mv (.t 4),none,true⟩,
 ⟨some 70,.mv (.t 4),none,true⟩,
 ⟨some 71,.len (.t 70),none,true⟩,
 ⟨some 72,.bin .leq (.t 71) (.k (.c (.int .i64 41))),none,true⟩,
 ⟨some 73,.mv (.t 72),none,true⟩,
 ⟨some 74,.mv (.t 4),(some (73,true)),true⟩,
 ⟨some 75,.ia 1 (.t 74) (.k (.c (.int .i64 0))),(some (73,true)),true⟩,
 ⟨some 76,.ld true 1 (.t 75),(some (73,true)),true⟩,
 ⟨some 77,.len (.t 76),(some (73,true)),true⟩,
 ⟨some 78,.call (.k (.fn 67 [])) [(.t 77),(.k (.c (.int .i64 2))),(.k (.c (.int .i64 32)))],(some (73,true)),true⟩,
 ⟨some 79,.pick (.t 73) (.t 78) (.k (.c (.bool false))),none,true⟩,
 ⟨some 2,.mv (.t 69),none,true⟩,
 ⟨some 3,.mv (.t 79),none,true⟩]
abbrev v61_42:VC:=(.seq (.ops o61_41) .ret)
abbrev v61_43:VC:=(.seq (.seq (.ops o61_28) v61_40) v61_42)
abbrev v61_44:VC:=(.seq (.seq (.ops o61_7) v61_27) v61_43)
abbrev v61_45:VC:=(.seq (.ops o61_6) v61_44)
abbrev v61_46:VC:=(.seq (.ops o61_5) v61_45)
abbrev v61_47:VC:=(.seq (.seq (.ops o61_1) v61_4) v61_46)
def ir61:FC:=⟨1,80,[.t 2,.t 3],(.seq (.ops o61_0) v61_47)⟩
theorem c61:compM Tryd.prog [100038,100039,100052] 61 = some ir61:=by kernel_rfl
end W
attribute [local go_sem] Nat.reduceEqDiff Nat.reduceAdd Nat.reduceMul reduceIte Nat.reduceLeDiff Nat.reduceLT Nat.reduceBEq reduceCtorEq
end Go.Proofs.YtlmfdmlochpfcaaDoor

namespace Go.Proofs.YtlmfdmlochpfcaaDoor
open Go Go.V
abbrev o38_0:List Ins:=[⟨some 2,.mv (.k (.c (.raw (.slice none 0 0)))),none,true⟩,
 ⟨some 3,.mv (.k (.c (.int .i64 0))),none,true⟩]
abbrev o38_1:List Ins:=[⟨some 7,.mv (.t 0),none,true⟩,
 ⟨some 8,.call (.k (.fn 61 [])) [(.t 7)],none,true⟩,
 ⟨some 6,.mv (.t 8),none,true⟩,
 ⟨some 9,.ext (.t 6) 0,none,true⟩,
 ⟨some 10,.ext (.t 6) 1,none,true⟩,
 ⟨some 4,.mv (.t 9),none,true⟩,
 ⟨some 5,.mv (.t 10),none,true⟩]
abbrev o38_2:List Ins:=[⟨some 11,.mv (.t 5),none,true⟩,
 ⟨some 12,.un .not (.t 11),none,true⟩]
abbrev o38_3:List Ins:=[⟨some 2,.mv (.k (.c (.raw (.slice none 0 0)))),none,true⟩,
 ⟨some 3,.mv (.k (.c (.int .i64 140))),none,true⟩]
abbrev v38_4:VC:=(.seq (.ops o38_3) .ret)
abbrev v38_5:VC:=(.cond (.t 12) v38_4 .skip)
abbrev o38_6:List Ins:=[⟨some 13,.mv (.t 4),none,true⟩,
 ⟨some 14,.call (.k (.fn 66 [])) [(.t 13)],none,true⟩,
 ⟨some 15,.call (.k (.fn 62 [])) [(.t 14)],none,true⟩,
 ⟨some 2,.mv (.t 15),none,true⟩,
 ⟨some 3,.mv (.k (.c (.int .i64 0))),none,true⟩]
abbrev v38_7:VC:=(.seq (.ops o38_6) .ret)
abbrev v38_8:VC:=(.seq (.seq (.ops o38_2) v38_5) v38_7)
abbrev v38_9:VC:=(.seq (.ops o38_1) v38_8)
def ir38:FC:=⟨1,16,[.t 2,.t 3],(.seq (.ops o38_0) v38_9)⟩
theorem c38:compM Tryd.prog [] 38 = some ir38:=by kernel_rfl
attribute [local go_sem] Nat.reduceEqDiff Nat.reduceAdd Nat.reduceMul reduceIte Nat.reduceLeDiff Nat.reduceLT Nat.reduceBEq reduceCtorEq
theorem SOk.hd {rows:List (List UInt8)} {w:Nat} (h:SOk rows w):(rows.headD []).length = w:=by
 cases rows with
 | nil => exact absurd h.pos (by simp)
 | cons l t => exact h.row l (by simp)
theorem sheet_is {s:List UInt8} {rows:List (List UInt8)} (h:parseP s = some rows):GOk (valsG rows) ∧ 0 < wid (valsG rows) ∧ restG (valsG rows).length (wid (valsG rows)) (valsG rows) = sheetG rows ∧ GOk (sheetG rows) ∧ (sheetG rows).length = rows.length ∧ GOw rows.length (rows.headD []).length (sheetG rows) ∧ 2 ≤ (rows.headD []).length ∧ (rows.headD []).length ≤ 32 ∧ rows.length ≤ 41 ∧ wid (sheetG rows) = (rows.headD []).length:=by
 have hok:=(parse_is h).2
 have h1:=vals_gok hok
 have h2:=vals_wid hok
 have h3:=hok.w2
 have h4:=sheet_gow hok rfl
 have h5:=h4.gok hok.pos hok.len hok.w32
 refine ⟨h1,by omega,?_,h5.1,h5.2.2,h4,h3,hok.w32,hok.len,h5.2.1⟩
 unfold sheetG
 rw [vals_len,h2]
def leftR (s:List UInt8):List (Nat × Nat) × Int:=match parseP s with
 | none => ([],140)
 | some rows => (marksG (sheetG rows) rows.length,0)
theorem left38 (s:List UInt8) (hs:s.length ≤ 100000):FSpec Tryd.prog 38 [sv s] (.tup [.c (marksC (leftR s).1),iv (leftR s).2]):=by
 have hmax:maxLen = 9223372036854775807:=rfl
 have hp:=parse61D s hs
 refine FSpec_ofP c38 (Nat.le_refl _) (by decide) fun C hP hN hC hpin hL => ?_; rw [init_st]
 simp only [ir38]
 (repeat ((first | refine Va ?_ | refine Vb ?_ | refine Vc ?_ | refine Vd ?_ | refine Ve ?_ | refine Vf ?_); (try simp only [go_sem,hP]); (repeat refine qJ ?_)))
 (refine AS_pu (hp) ?_; simp only [go_sem,hP]; (repeat refine qJ ?_); (repeat ((first | refine Va ?_ | refine Vb ?_ | refine Vc ?_ | refine Vd ?_ | refine Ve ?_ | refine Vf ?_); (try simp only [go_sem,hP]); (repeat refine qJ ?_))))
 cases hq:parseP s with
 | none =>
  have hr:leftR s = ([],140):=by unfold leftR; rw [hq]
  rw [hr,retR_none hq]
  (refine WV_cond rfl (fun h => ?_) (fun h => ?_))
  ·(repeat ((first | refine Va ?_ | refine Vb ?_ | refine Vc ?_ | refine Vd ?_ | refine Ve ?_ | refine Vf ?_); (try simp only [go_sem,hP]); (repeat refine qJ ?_)))
   (refine WV_ret ?_; simp only [thenQ,inQ,RetQ,RetOk,resAll,resA]; simp only [go_sem,tupA,AV.port,AV.portL,exists_eq_left'])
   exact AVle.tup ⟨_,_,rfl,AVle.nil 2,_,_,rfl,AVle.refl _,rfl⟩
  ·simp at h
 | some rows =>
  obtain ⟨g1,g2,g3,g4,g5,g6,g7,g8,g9,g10⟩:=sheet_is hq
  have hr:leftR s = (marksG (sheetG rows) rows.length,0):=by unfold leftR; rw [hq]
  have hre:=restored66 g1 g2
  rw [g3] at hre
  have hmk:=marks62 g4
  rw [g5] at hmk
  rw [hr,retR_some hq]
  (refine WV_cond rfl (fun h => ?_) (fun h => ?_))
  ·simp at h
  (repeat ((first | refine Va ?_ | refine Vb ?_ | refine Vc ?_ | refine Vd ?_ | refine Ve ?_ | refine Vf ?_); (try simp only [go_sem,hP]); (repeat refine qJ ?_)))
  (refine AS_pu (hre) ?_; simp only [go_sem,hP]; (repeat refine qJ ?_); (repeat ((first | refine Va ?_ | refine Vb ?_ | refine Vc ?_ | refine Vd ?_ | refine Ve ?_ | refine Vf ?_); (try simp only [go_sem,hP]); (repeat refine qJ ?_))))
  (refine AS_pu (hmk) ?_; simp only [go_sem,hP]; (repeat refine qJ ?_); (repeat ((first | refine Va ?_ | refine Vb ?_ | refine Vc ?_ | refine Vd ?_ | refine Ve ?_ | refine Vf ?_); (try simp only [go_sem,hP]); (repeat refine qJ ?_))))
  (refine WV_ret ?_; simp only [thenQ,inQ,RetQ,RetOk,resAll,resA]; simp only [go_sem,tupA,AV.port,AV.portL,exists_eq_left'])
  exact AVle.refl _
end Go.Proofs.YtlmfdmlochpfcaaDoor

namespace Go.Proofs.YtlmfdmlochpfcaaDoor
open Go Go.V
attribute [local go_sem] Nat.reduceEqDiff Nat.reduceAdd Nat.reduceMul reduceIte Nat.reduceLeDiff Nat.reduceLT Nat.reduceBEq reduceCtorEq
end Go.Proofs.YtlmfdmlochpfcaaDoor

namespace Go.Proofs.YtlmfdmlochpfcaaDoor
open Go Go.V
def Lost (n w:Nat) (g:List (List Int)) (p:Nat × Nat):Prop:=p.1 < n ∧ p.2 < w ∧ valAt g p = -1
def Clos (S:Nat × Nat → Prop):Prop:=∀ p,S p → (∃ q,S q ∧ q ≠ p ∧ q.1 = p.1) ∧ (∃ q,S q ∧ q ≠ p ∧ q.2 = p.2)
theorem posL_mem {n w i:Nat} {b:Bool} {p:Nat × Nat}:p ∈ posL n w i b ↔ if b then p.1 = i ∧ p.2 < w else p.2 = i ∧ p.1 < n:=by
 unfold posL
 cases b
 ·simp only [Bool.false_eq_true,if_false,List.mem_map,List.mem_range]
  constructor
  ·rintro ⟨k,hk,rfl⟩; exact ⟨rfl,hk⟩
  ·rintro ⟨rfl,h⟩; exact ⟨p.1,h,rfl⟩
 ·simp only [if_true,List.mem_map,List.mem_range]
  constructor
  ·rintro ⟨k,hk,rfl⟩; exact ⟨rfl,hk⟩
  ·rintro ⟨rfl,h⟩; exact ⟨p.2,h,rfl⟩
theorem posL_row_mem {n w i:Nat} {p:Nat × Nat}:p ∈ posL n w i true ↔ p.1 = i ∧ p.2 < w:=by rw [posL_mem]; simp
theorem posL_col_mem {n w i:Nat} {p:Nat × Nat}:p ∈ posL n w i false ↔ p.2 = i ∧ p.1 < n:=by rw [posL_mem]; simp
theorem allP_mem {n w:Nat} {l:List (Nat × Nat)}:l ∈ allP n w ↔ (∃ i,i < n ∧ l = posL n w i true) ∨ (∃ k,k < w ∧ l = posL n w k false):=by
 simp only [allP,List.mem_append,List.mem_map,List.mem_range]
 constructor
 ·rintro (⟨i,h,rfl⟩ | ⟨i,h,rfl⟩)
  ·exact .inl ⟨i,h,rfl⟩
  ·exact .inr ⟨i,h,rfl⟩
 ·rintro (⟨i,h,rfl⟩ | ⟨i,h,rfl⟩)
  ·exact .inl ⟨i,h,rfl⟩
  ·exact .inr ⟨i,h,rfl⟩
theorem lostL_mem {g:List (List Int)} {l:List (Nat × Nat)} {p:Nat × Nat}:p ∈ lostL g l ↔ p ∈ l ∧ valAt g p = -1:=by simp [lostL]
theorem posL_nodup (n w i:Nat) (b:Bool):(posL n w i b).Nodup:=by
 unfold posL
 cases b
 ·simp only [Bool.false_eq_true,if_false]
  exact List.pairwise_map.2 (List.nodup_range.imp fun h e => h (by simpa using e))
 ·simp only [if_true]
  exact List.pairwise_map.2 (List.nodup_range.imp fun h e => h (by simpa using e))
theorem step_clos {n w:Nat} {g g':List (List Int)} (h:GOw n w g) (hs:stepG n w g = some g') {S:Nat × Nat → Prop} (hc:Clos S) (hS:∀ p,S p → Lost n w g p):∀ p,S p → Lost n w g' p:=by
 obtain ⟨l,p,hl,_,hlo,hpl,hv,rfl,_,_⟩:=stepG_some h hs
 intro q hq
 obtain ⟨h1,h2,h3⟩:=hS q hq
 refine ⟨h1,h2,?_⟩
 rw [valAt_set]
 split
 ·rename_i he
  obtain ⟨rfl,_,_⟩:=he
  exfalso
  obtain ⟨⟨a,ha,hne,hr⟩,⟨b,hb,hne2,hr2⟩⟩:=hc p hq
  have key:∀ a,S a → a ∈ l → a = p:=fun a ha hal => by
   have:a ∈ lostL g l:=lostL_mem.2 ⟨hal,(hS a ha).2.2⟩
   rw [hlo] at this; simpa using this
  rcases allP_mem.1 hl with ⟨i,hi,rfl⟩ | ⟨k,hk,rfl⟩
  ·have:=posL_row_mem.1 hpl
   exact hne (key a ha (posL_row_mem.2 ⟨hr.trans this.1,(hS a ha).2.1⟩))
  ·have:=posL_col_mem.1 hpl
   exact hne2 (key b hb (posL_col_mem.2 ⟨hr2.trans this.1,(hS b hb).1⟩))
 ·exact h3
theorem two_lost {g:List (List Int)} {l:List (Nat × Nat)} (hnd:l.Nodup) {p:Nat × Nat} (hp:p ∈ l) (hv:valAt g p = -1) (h1:(lostL g l).length ≠ 1):∃ q,q ∈ l ∧ valAt g q = -1 ∧ q ≠ p:=by
 refine Classical.byContradiction fun hq => h1 ?_
 have hnd2:(lostL g l).Nodup:=hnd.filter _
 have hall:∀ q ∈ lostL g l,q = p:=fun q hq' => by
  obtain ⟨a,b⟩:=lostL_mem.1 hq'
  exact Classical.byContradiction fun hne => hq ⟨q,a,b,hne⟩
 have hmem:p ∈ lostL g l:=lostL_mem.2 ⟨hp,hv⟩
 generalize lostL g l = L at hnd2 hall hmem
 match L,hnd2,hall,hmem with
 | [a],_,_,_ => rfl
 | a :: b :: t,hnd2,hall,_ =>
  have h1:=hall a (by simp)
  have h2:=hall b (by simp)
  rw [h1,h2] at hnd2
  simp at hnd2
theorem end_clos {n w:Nat} {g:List (List Int)} (hs:stepG n w g = none):Clos (Lost n w g):=by
 have hn:∀ l ∈ allP n w,(lostL g l).length ≠ 1:=by
  unfold stepG at hs
  split at hs
  ·cases hs
  ·rename_i hf
   intro l hl h1
   have:=List.find?_eq_none.1 hf l hl
   simp [oneL,h1] at this
 rintro p ⟨h1,h2,h3⟩
 constructor
 ·obtain ⟨q,q1,q2,q3⟩:=two_lost (posL_nodup n w p.1 true) (posL_row_mem.2 ⟨rfl,h2⟩) h3 (hn _ (allP_mem.2 (.inl ⟨p.1,h1,rfl⟩)))
  have:=posL_row_mem.1 q1
  exact ⟨q,⟨by omega,this.2,q2⟩,q3,this.1⟩
 ·obtain ⟨q,q1,q2,q3⟩:=two_lost (posL_nodup n w p.2 false) (posL_col_mem.2 ⟨rfl,h1⟩) h3 (hn _ (allP_mem.2 (.inr ⟨p.2,h2,rfl⟩)))
  have:=posL_col_mem.1 q1
  exact ⟨q,⟨this.2,by omega,q2⟩,q3,this.1⟩
theorem restG_ind {n w:Nat} {M:List (List Int) → Prop} (hM:∀ g g',GOw n w g → M g → stepG n w g = some g' → M g'):∀ (k:Nat) (g:List (List Int)),nlost g = k → GOw n w g → M g → M (restG n w g) ∧ stepG n w (restG n w g) = none
 | 0,g,hk,h,hm => by
  cases hs:stepG n w g with
  | none => rw [restG_end hs]; exact ⟨hm,hs⟩
  | some g' => obtain ⟨_,_,_,_,_,_,_,_,_,hn⟩:=stepG_some h hs; omega
 | k + 1,g,hk,h,hm => by
  cases hs:stepG n w g with
  | none => rw [restG_end hs]; exact ⟨hm,hs⟩
  | some g' =>
   obtain ⟨_,_,_,_,_,_,_,_,hg,hn⟩:=stepG_some h hs
   rw [restG_step h hs]
   exact restG_ind hM k g' (by omega) hg (hM g g' h hm hs)
theorem restG_fin {n w:Nat} {g:List (List Int)} (h:GOw n w g):stepG n w (restG n w g) = none:=(restG_ind (M:=fun _ => True) (fun _ _ _ _ _ => trivial) _ g rfl h trivial).2
theorem step_less {n w:Nat} {g g':List (List Int)} (h:GOw n w g) (hs:stepG n w g = some g') {p:Nat × Nat} (hp:Lost n w g' p):Lost n w g p:=by
 obtain ⟨l,q,hl,_,hlo,hpl,hv,rfl,_,_⟩:=stepG_some h hs
 obtain ⟨h1,h2,h3⟩:=hp
 refine ⟨h1,h2,?_⟩
 rw [valAt_set] at h3
 split at h3
 ·have:=lack_rng g l; omega
 ·exact h3
theorem rest_core {n w:Nat} {g:List (List Int)} (h:GOw n w g) (p:Nat × Nat):Lost n w (restG n w g) p ↔ ∃ S,Clos S ∧ (∀ q,S q → Lost n w g q) ∧ S p:=by
 constructor
 ·intro hp
  refine ⟨Lost n w (restG n w g),end_clos (restG_fin h),?_,hp⟩
  exact (restG_ind (M:=fun g' => ∀ q,Lost n w g' q → Lost n w g q) (fun a b ha hm hs q hq => hm q (step_less ha hs hq)) _ g rfl h (fun _ h => h)).1
 ·rintro ⟨S,hc,hS,hp⟩
  exact (restG_ind (M:=fun g' => ∀ q,S q → Lost n w g' q) (fun a b ha hm hs => step_clos ha hs hc hm) _ g rfl h hS).1 p hp
end Go.Proofs.YtlmfdmlochpfcaaDoor

namespace Go.Proofs.YtlmfdmlochpfcaaDoor
open Go Go.V
def inc (m:Nat × Nat) (v:Int):Prop:=v = m.1 ∨ v = -1 - m.2
inductive Fst:List (Nat × Nat) → Prop
 | nil:Fst []
 | snoc {F:List (Nat × Nat)} {m:Nat × Nat}:Fst F → ¬ Conn F m.1 (-1 - m.2) → Fst (F ++ [m])
def Leaf (S:Nat × Nat → Prop) (v:Int):Prop:=∃ m,S m ∧ inc m v ∧ ∀ m',S m' → inc m' v → m' = m
theorem inc_conn {F:List (Nat × Nat)} {m:Nat × Nat} (hm:m ∈ F) {u v:Int} (hu:inc m u) (hv:inc m v):Conn F u v:=by
 have he:=Conn.edge hm
 rcases hu with rfl | rfl <;> rcases hv with rfl | rfl
 ·exact .refl _
 ·exact he
 ·exact he.symm
 ·exact .refl _
theorem forest_leaves {F:List (Nat × Nat)} (hF:Fst F):∀ (S:Nat × Nat → Prop),(∀ m,S m → m ∈ F) → (∃ m,S m) → ∃ u v,u ≠ v ∧ Leaf S u ∧ Leaf S v:=by
 induction hF with
 | nil => intro S hS ⟨m,hm⟩; exact absurd (hS m hm) (by simp)
 | @snoc F e hF hne ih =>
  intro S hS hex
  by_cases he:S e
  ·by_cases heF:e ∈ F
   ·exact (hne (.edge heF)).elim
   -- one end
   have side:∀ r c:Int,inc e r → inc e c → (∀ v,inc e v → v = r ∨ v = c) → ¬ Conn F r c → ∃ u,Leaf S u ∧ Conn F u r:=by
    intro r c hr hc hrc hnc
    by_cases hex2:∃ m,S m ∧ m ≠ e ∧ ∃ v,inc m v ∧ Conn F v r
    ·obtain ⟨u,v,huv,hu,hv⟩:=ih (fun m => S m ∧ m ≠ e ∧ ∃ v,inc m v ∧ Conn F v r) (fun m hm => by
      have:=hS m hm.1
      simp only [List.mem_append,List.mem_singleton] at this
      exact this.resolve_right hm.2.1) hex2
     have up:∀ x,x ≠ r → Leaf (fun m => S m ∧ m ≠ e ∧ ∃ v,inc m v ∧ Conn F v r) x → Leaf S x ∧ Conn F x r:=by
      intro x hxr hl
      obtain ⟨m,⟨hm,hme,v,hiv,hvr⟩,hmx,huni⟩:=hl
      have hmF:m ∈ F:=by
       have:=hS m hm
       simp only [List.mem_append,List.mem_singleton] at this
       exact this.resolve_right hme
      have hx:Conn F x r:=(inc_conn hmF hmx hiv).trans hvr
      refine ⟨⟨m,hm,hmx,fun m' hm' hi' => ?_⟩,hx⟩
      by_cases h':m' = e
      ·subst h'
       rcases hrc x hi' with h | h
       ·exact (hxr h).elim
       ·subst h; exact (hnc hx.symm).elim
      ·exact huni m' ⟨hm',h',x,hi',hx⟩ hi'
     by_cases hur:u = r
     ·exact ⟨v,up v (fun h => huv (hur.trans h.symm)) hv⟩
     ·exact ⟨u,up u hur hu⟩
    ·refine ⟨r,⟨e,he,hr,fun m' hm' hi' => ?_⟩,.refl _⟩
     refine Classical.byContradiction fun h' => hex2 ⟨m',hm',h',r,hi',.refl _⟩
   obtain ⟨u,hu,hu2⟩:=side e.1 (-1 - e.2) (.inl rfl) (.inr rfl) (fun v h => h) hne
   obtain ⟨v,hv,hv2⟩:=side (-1 - e.2) e.1 (.inr rfl) (.inl rfl) (fun v h => h.symm) (fun h => hne h.symm)
   exact ⟨u,v,fun h => by subst h; exact hne (hu2.symm.trans hv2),hu,hv⟩
  ·refine ih S (fun m hm => ?_) hex
   have:=hS m hm
   simp only [List.mem_append,List.mem_singleton] at this
   refine this.resolve_right fun h => ?_
   subst h; exact he hm
theorem forest_clos {F:List (Nat × Nat)} (hF:Fst F) {S:Nat × Nat → Prop} (hc:Clos S) (hS:∀ m,S m → m ∈ F):∀ p,¬ S p:=by
 intro p hp
 obtain ⟨u,v,_,⟨m,hm,hi,huni⟩,_⟩:=forest_leaves hF S hS ⟨p,hp⟩
 obtain ⟨⟨q,hq,n1,e1⟩,⟨r,hr,n2,e2⟩⟩:=hc m hm
 rcases hi with rfl | rfl
 ·exact n1 (huni q hq (.inl (by rw [e1])))
 ·exact n2 (huni r hr (.inr (by rw [e2])))
open Classical in
noncomputable def treeK (ms:List (Nat × Nat)):Nat → List (Nat × Nat)
 | 0 => []
 | k + 1 => treeK ms k ++ (match ms[k]? with | some m => if Conn (ms.take k) m.1 (-1 - m.2) then [] else [m] | none => [])
theorem take_snoc' {α:Type} {l:List α} {k:Nat} {a:α} (h:l[k]? = some a):l.take (k + 1) = l.take k ++ [a]:=by
 rw [List.take_add_one,h]; rfl
theorem tree_conn (ms:List (Nat × Nat)):∀ k x y,Conn (ms.take k) x y ↔ Conn (treeK ms k) x y
 | 0,x,y => by simp only [List.take_zero,treeK]
 | k + 1,x,y => by
  have ih:=tree_conn ms k
  cases hm:ms[k]? with
  | none => simp only [treeK,hm,List.append_nil,List.take_add_one,Option.toList]; exact ih x y
  | some m =>
   simp only [treeK,hm]
   rw [take_snoc' hm]
   by_cases hc:Conn (ms.take k) m.1 (-1 - m.2)
   ·rw [if_pos hc,List.append_nil,← ih]
    constructor
    ·intro h
     rcases h.snoc with h | ⟨h1,h2⟩ | ⟨h1,h2⟩
     ·exact h
     ·exact h1.trans (hc.trans h2.symm)
     ·exact h1.trans (hc.symm.trans h2.symm)
    ·exact Conn.mono fun m hm => by simp [hm]
   ·rw [if_neg hc]
    constructor
    ·intro h
     rcases h.snoc with h | ⟨h1,h2⟩ | ⟨h1,h2⟩
     ·exact ((ih x y).1 h).mono fun m hm => by simp [hm]
     ·have e:Conn (treeK ms k ++ [m]) m.1 (-1 - m.2):=.edge (by simp)
      exact (((ih _ _).1 h1).mono fun m hm => by simp [hm]).trans (e.trans (((ih _ _).1 h2).mono fun m hm => by simp [hm]).symm)
     ·have e:Conn (treeK ms k ++ [m]) m.1 (-1 - m.2):=.edge (by simp)
      exact (((ih _ _).1 h1).mono fun m hm => by simp [hm]).trans (e.symm.trans (((ih _ _).1 h2).mono fun m hm => by simp [hm]).symm)
    ·intro h
     rcases h.snoc with h | ⟨h1,h2⟩ | ⟨h1,h2⟩
     ·exact ((ih x y).2 h).mono fun m hm => by simp [hm]
     ·have e:Conn (ms.take k ++ [m]) m.1 (-1 - m.2):=.edge (by simp)
      exact (((ih _ _).2 h1).mono fun m hm => by simp [hm]).trans (e.trans (((ih _ _).2 h2).mono fun m hm => by simp [hm]).symm)
     ·have e:Conn (ms.take k ++ [m]) m.1 (-1 - m.2):=.edge (by simp)
      exact (((ih _ _).2 h1).mono fun m hm => by simp [hm]).trans (e.symm.trans (((ih _ _).2 h2).mono fun m hm => by simp [hm]).symm)
theorem tree_fst (ms:List (Nat × Nat)):∀ k,Fst (treeK ms k)
 | 0 => .nil
 | k + 1 => by
  have ih:=tree_fst ms k
  simp only [treeK]
  split
  ·split
   ·rw [List.append_nil]; exact ih
   ·rename_i hc
    exact .snoc ih fun h => hc ((tree_conn ms k _ _).2 h)
  ·rw [List.append_nil]; exact ih
theorem tree_or_circ (ms:List (Nat × Nat)):∀ k,∀ m ∈ ms.take k,m ∈ treeK ms k ∨ m ∈ circK ms k
 | 0,m,h => by simp at h
 | k + 1,m,h => by
  have ih:=tree_or_circ ms k
  cases hk:ms[k]? with
  | none =>
   simp only [List.take_add_one,hk,Option.toList,List.append_nil] at h
   simp only [treeK,circK,hk,List.append_nil]; exact ih m h
  | some x =>
   rw [take_snoc' hk,List.mem_append,List.mem_singleton] at h
   simp only [treeK,circK,hk,List.mem_append]
   rcases h with h | rfl
   ·rcases ih m h with h | h
    ·exact .inl (.inl h)
    ·exact .inr (.inl h)
   ·by_cases hc:Conn (ms.take k) m.1 (-1 - m.2)
    ·right; right; rw [if_pos hc]; simp
    ·left; right; rw [if_neg hc]; simp
theorem circ_sub (ms:List (Nat × Nat)):∀ k,∀ m ∈ circK ms k,m ∈ ms.take k
 | 0,m,h => by simp [circK] at h
 | k + 1,m,h => by
  have ih:=circ_sub ms k
  simp only [circK,List.mem_append] at h
  rcases h with h | h
  ·exact (List.take_subset_take_left ms (Nat.le_succ k)) (ih m h)
  ·split at h
   ·rename_i x hx
    split at h
    ·simp only [List.mem_singleton] at h
     subst h
     rw [take_snoc' hx]; simp
    ·cases h
   ·cases h
end Go.Proofs.YtlmfdmlochpfcaaDoor

namespace Go.Proofs.YtlmfdmlochpfcaaDoor
open Go Go.V
theorem marks_iff {n:Nat} {g:List (List Int)}:(marksG g n).length = 0 ↔ ∀ i k,i < n → k < wid g → valAt g (i,k) ≠ -1:=by
 rw [List.length_eq_zero_iff,List.eq_nil_iff_forall_not_mem]
 unfold marksG
 constructor
 ·intro h i k hi hk hv
  refine h (i,k) ?_
  rw [List.mem_flatMap]
  exact ⟨i,List.mem_range.2 hi,lostL_mem.2 ⟨posL_row_mem.2 ⟨rfl,hk⟩,hv⟩⟩
 ·intro h p hp
  rw [List.mem_flatMap] at hp
  obtain ⟨i,hi,hp⟩:=hp
  obtain ⟨h1,h2⟩:=lostL_mem.1 hp
  have h1:=posL_row_mem.1 h1
  have:=h i p.2 (List.mem_range.1 hi) h1.2
  rw [← h1.1] at this
  exact this h2
end Go.Proofs.YtlmfdmlochpfcaaDoor

namespace Go.Proofs.YtlmfdmlochpfcaaDoor
open Go Go.V
abbrev o21_0:List Ins:=[⟨some 4,.mv (.k (.c (.bool false))),none,true⟩]
abbrev o21_1:List Ins:=[⟨some 6,.mv (.t 0),none,true⟩,
 ⟨some 7,.len (.t 6),none,true⟩,
 ⟨some 8,.mv (.t 1),none,true⟩,
 ⟨some 9,.len (.t 8),none,true⟩,
 ⟨some 10,.bin .neq (.t 7) (.t 9),none,true⟩]
abbrev o21_2:List Ins:=[⟨some 4,.mv (.k (.c (.bool false))),none,true⟩]
abbrev v21_3:VC:=(.seq (.ops o21_2) .ret)
abbrev v21_4:VC:=(.cond (.t 10) v21_3 .skip)
abbrev o21_5:List Ins:=[⟨some 5,.mv (.k (.c (.int .i64 0))),none,true⟩]
abbrev o21_6:List Ins:=[⟨some 11,.mv (.t 5),none,true⟩,
 ⟨some 12,.mv (.t 0),none,true⟩,
 ⟨some 13,.len (.t 12),none,true⟩,
 ⟨some 14,.bin .lss (.t 11) (.t 13),none,true⟩]
abbrev v21_7:VC:=(.cond (.t 14) .skip (.exit 0))
abbrev o21_8:List Ins:=[⟨some 17,.mv (.t 0),none,false⟩,
 ⟨some 18,.mv (.t 5),none,false⟩,
 ⟨some 19,.ia 1 (.t 17) (.t 18),none,false⟩,
 ⟨some 20,.ld true 1 (.t 19),none,false⟩,
 ⟨some 21,.mv (.t 1),none,false⟩,
 ⟨some 22,.mv (.t 5),none,false⟩,
 ⟨some 23,.ia 1 (.t 21) (.t 22),none,false⟩,
 ⟨some 24,.ld true 1 (.t 23),none,false⟩,
 ⟨some 25,.prim (.sbin .neq) [(.t 20),(.t 24)],none,true⟩]
abbrev o21_9:List Ins:=[⟨some 4,.mv (.k (.c (.bool false))),none,true⟩]
abbrev v21_10:VC:=(.seq (.ops o21_9) .ret)
abbrev v21_11:VC:=(.cond (.t 25) v21_10 .skip)
abbrev v21_12:VC:=(.seq (.dops o21_8) v21_11)
abbrev o21_13:List Ins:=[⟨some 15,.mv (.t 5),none,true⟩,
 ⟨some 16,.bin .add (.t 15) (.k (.c (.int .i64 1))),none,true⟩,
 ⟨some 5,.mv (.t 16),none,true⟩]
abbrev v21_14:VC:=(.seq (.block 1 v21_12) (.ops o21_13))
abbrev v21_15:VC:=(.seq (.seq (.ops o21_6) v21_7) v21_14)
-- K21_1: changed and kept: [5]
abbrev K21_1:List Nat:=[0,1]
abbrev v21_16:VC:=(.loop v21_15)
abbrev v21_17:VC:=(.block 0 v21_16)
abbrev o21_18:List Ins:=[⟨some 4,.mv (.k (.c (.bool true))),none,true⟩]
abbrev v21_19:VC:=(.seq (.ops o21_18) .ret)
abbrev v21_20:VC:=(.seq (.seq (.ops o21_5) v21_17) v21_19)
abbrev v21_21:VC:=(.seq (.seq (.ops o21_1) v21_4) v21_20)
def ir21:FC:=⟨2,26,[.t 4],(.seq (.ops o21_0) v21_21)⟩
abbrev o16_0:List Ins:=[⟨some 0,.mv (.k (.c (.bool false))),none,true⟩]
abbrev o16_1:List Ins:=[⟨some 13,.bsl 9 1 [(.k (.c (.str [97,98]))),(.k (.c (.str [99])))],none,true⟩,
 ⟨some 14,.call (.k (.fn 24 [])) [(.t 13)],none,true⟩,
 ⟨some 12,.mv (.t 14),none,true⟩,
 ⟨some 15,.ext (.t 12) 0,none,true⟩,
 ⟨some 16,.ext (.t 12) 1,none,true⟩,
 ⟨some 1,.mv (.t 15),none,true⟩,
 ⟨some 2,.mv (.t 16),none,true⟩]
abbrev o16_2:List Ins:=[⟨some 18,.call (.k (.fn 18 [])) [(.k (.c (.str [97,63,63,95,10,99,124,32,64,10,91,65,63,33,10])))],none,true⟩,
 ⟨some 17,.mv (.t 18),none,true⟩,
 ⟨some 19,.ext (.t 17) 0,none,true⟩,
 ⟨some 20,.ext (.t 17) 1,none,true⟩,
 ⟨some 3,.mv (.t 19),none,true⟩,
 ⟨some 4,.mv (.t 20),none,true⟩]
abbrev o16_3:List Ins:=[⟨some 22,.call (.k (.fn 20 [])) [(.k (.c (.str [97,98,124,95,10,99,124,32,64,10,91,65,35,33,10])))],none,true⟩,
 ⟨some 21,.mv (.t 22),none,true⟩,
 ⟨some 23,.ext (.t 21) 0,none,true⟩,
 ⟨some 24,.ext (.t 21) 1,none,true⟩,
 ⟨some 5,.mv (.t 23),none,true⟩,
 ⟨some 6,.mv (.t 24),none,true⟩]
abbrev o16_4:List Ins:=[⟨some 26,.call (.k (.fn 31 [])) [(.k (.c (.str [63,63,124,95,10,63,63,32,64,10,91,65,35,33,10])))],none,true⟩,
 ⟨some 25,.mv (.t 26),none,true⟩,
 ⟨some 27,.ext (.t 25) 0,none,true⟩,
 ⟨some 28,.ext (.t 25) 1,none,true⟩,
 ⟨some 7,.mv (.t 27),none,true⟩,
 ⟨some 8,.mv (.t 28),none,true⟩]
abbrev o16_5:List Ins:=[⟨some 30,.call (.k (.fn 23 [])) [(.k (.c (.str [97,98,124,95,10,100,124,32,64,10,91,65,35,33,10])))],none,true⟩,
 ⟨some 29,.mv (.t 30),none,true⟩,
 ⟨some 31,.ext (.t 29) 0,none,true⟩,
 ⟨some 32,.ext (.t 29) 1,none,true⟩,
 ⟨some 33,.ext (.t 29) 2,none,true⟩,
 ⟨some 9,.alloc [(.c (.int .i64 0)),(.c (.int .i64 0))],none,true⟩,
 ⟨none,.st 2 (.t 9) (.t 31),none,true⟩,
 ⟨some 10,.mv (.t 32),none,true⟩,
 ⟨some 11,.mv (.t 33),none,true⟩]
abbrev o16_6:List Ins:=[⟨some 34,.mv (.t 2),none,true⟩,
 ⟨some 35,.bin .eql (.t 34) (.k (.c (.int .i64 0))),none,true⟩,
 ⟨some 36,.mv (.t 35),none,true⟩,
 ⟨some 37,.mv (.t 4),(some (36,true)),true⟩,
 ⟨some 38,.bin .eql (.t 37) (.k (.c (.int .i64 0))),(some (36,true)),true⟩,
 ⟨some 39,.pick (.t 36) (.t 38) (.k (.c (.bool false))),none,true⟩,
 ⟨some 40,.mv (.t 39),none,true⟩,
 ⟨some 41,.mv (.t 6),(some (40,true)),true⟩,
 ⟨some 42,.bin .eql (.t 41) (.k (.c (.int .i64 0))),(some (40,true)),true⟩,
 ⟨some 43,.pick (.t 40) (.t 42) (.k (.c (.bool false))),none,true⟩,
 ⟨some 44,.mv (.t 43),none,true⟩,
 ⟨some 45,.mv (.t 8),(some (44,true)),true⟩,
 ⟨some 46,.bin .eql (.t 45) (.k (.c (.int .i64 0))),(some (44,true)),true⟩,
 ⟨some 47,.pick (.t 44) (.t 46) (.k (.c (.bool false))),none,true⟩,
 ⟨some 48,.mv (.t 47),none,true⟩,
 ⟨some 49,.mv (.t 11),(some (48,true)),true⟩,
 ⟨some 50,.bin .eql (.t 49) (.k (.c (.int .i64 0))),(some (48,true)),true⟩,
 ⟨some 51,.pick (.t 48) (.t 50) (.k (.c (.bool false))),none,true⟩,
 ⟨some 52,.mv (.t 51),none,true⟩,
 ⟨some 53,.mv (.t 1),(some (52,true)),true⟩,
 ⟨some 54,.prim (.sbin .eql) [(.t 53),(.k (.c (.str [97,98,124,95,10,99,124,32,64,10,91,65,35,33,10])))],(some (52,true)),true⟩,
 ⟨some 55,.pick (.t 52) (.t 54) (.k (.c (.bool false))),none,true⟩,
 ⟨some 56,.mv (.t 55),none,true⟩,
 ⟨some 57,.mv (.t 3),(some (56,true)),true⟩,
 ⟨some 58,.prim (.sbin .eql) [(.t 57),(.k (.c (.str [97,98,124,95,10,99,124,32,64,10,91,65,35,33,10])))],(some (56,true)),true⟩,
 ⟨some 59,.pick (.t 56) (.t 58) (.k (.c (.bool false))),none,true⟩,
 ⟨some 60,.mv (.t 59),none,true⟩,
 ⟨some 61,.mv (.t 5),(some (60,true)),true⟩,
 ⟨some 62,.bsl 9 1 [(.k (.c (.str [97,98]))),(.k (.c (.str [99])))],(some (60,true)),true⟩,
 ⟨some 63,.call (.k (.fn 21 [])) [(.t 61),(.t 62)],(some (60,true)),true⟩,
 ⟨some 64,.pick (.t 60) (.t 63) (.k (.c (.bool false))),none,true⟩,
 ⟨some 65,.mv (.t 64),none,true⟩,
 ⟨some 66,.mv (.t 7),(some (65,true)),true⟩,
 ⟨some 67,.bin .eql (.t 66) (.k (.c (.int .i64 1))),(some (65,true)),true⟩,
 ⟨some 68,.pick (.t 65) (.t 67) (.k (.c (.bool false))),none,true⟩,
 ⟨some 69,.mv (.t 68),none,true⟩,
 ⟨some 70,.ld false 2 (.t 9),(some (69,true)),true⟩,
 ⟨some 71,.bld [(.c (.int .i64 0)),(.c (.int .i64 0))] [(0,1,(.k (.c (.int .i64 1))))],(some (69,true)),true⟩,
 ⟨some 72,.seq false [(0,true),(1,true)] (.t 70) (.t 71),(some (69,true)),true⟩,
 ⟨some 73,.pick (.t 69) (.t 72) (.k (.c (.bool false))),none,true⟩,
 ⟨some 74,.mv (.t 73),none,true⟩,
 ⟨some 75,.mv (.t 10),(some (74,true)),true⟩,
 ⟨some 76,.prim (.sbin .eql) [(.t 75),(.k (.c (.str [97,98,124,95,10,99,124,32,64,10,91,65,35,33,10])))],(some (74,true)),true⟩,
 ⟨some 77,.pick (.t 74) (.t 76) (.k (.c (.bool false))),none,true⟩,
 ⟨some 0,.mv (.t 77),none,true⟩]
abbrev v16_7:VC:=(.seq (.ops o16_6) .ret)
abbrev v16_8:VC:=(.seq (.ops o16_5) v16_7)
abbrev v16_9:VC:=(.seq (.ops o16_4) v16_8)
abbrev v16_10:VC:=(.seq (.ops o16_3) v16_9)
abbrev v16_11:VC:=(.seq (.ops o16_2) v16_10)
abbrev v16_12:VC:=(.seq (.ops o16_1) v16_11)
def ir16:FC:=⟨0,78,[.t 0],(.seq (.ops o16_0) v16_12)⟩
theorem c21:compM Tryd.prog [] 21 = some ir21:=by kernel_rfl
theorem c16:compM Tryd.prog [] 16 = some ir16:=by kernel_rfl
attribute [local go_sem] Nat.reduceEqDiff Nat.reduceAdd Nat.reduceMul reduceIte Nat.reduceLeDiff Nat.reduceLT Nat.reduceBEq reduceCtorEq
theorem same21 (a b:List (List UInt8)) (ha:a.length ≤ 1000000):FSpec Tryd.prog 21 [.c (strsV a),.c (strsV b)] (bv (a == b)):=by
 have hmax:maxLen = 9223372036854775807:=rfl
 refine FSpec_of c21 (Nat.le_refl _) (by decide) fun C hP hN hC hL => ?_; rw [init_st]
 simp only [ir21,strsV]
 (repeat ((first | refine Va ?_ | refine Vb ?_ | refine Vc ?_ | refine Vd ?_ | refine Ve ?_ | refine Vf ?_); (try simp only [go_sem,hP,List.length_map]); (repeat refine qJ ?_)))
 by_cases hl:a.length = b.length
 ·(refine WV_cond rfl (fun h => ?_) (fun h => ?_))
  ·simp [hl] at h
  (repeat ((first | refine Va ?_ | refine Vb ?_ | refine Vc ?_ | refine Vd ?_ | refine Ve ?_ | refine Vf ?_); (try simp only [go_sem,hP]); (repeat refine qJ ?_)))
  refine WV_loopK K21_1 [] (fun k:Nat => k ≤ a.length ∧ ∀ m (hm:m < a.length) (hm2:m < b.length),m < k → a[m] = b[m]) (fun k => a.length - k) (fun k => [(5,iv k)]) (fun _ => []) 0 ⟨Nat.zero_le _,fun m _ _ h => by omega⟩ ?_ ?_
  ·exact Sub_au
  ·intro k ⟨hk0,hke⟩
   simp only [go_sem]
   (repeat ((first | refine Va ?_ | refine Vb ?_ | refine Vc ?_ | refine Vd ?_ | refine Ve ?_ | refine Vf ?_); (try simp only [go_sem,hP,List.length_map]); (repeat refine qJ ?_)))
   (refine WV_cond rfl (fun h => ?_) (fun h => ?_))
   ·have hk:k < a.length:=by simpa using h
    have hkb:k < b.length:=by omega
    have hw2:=w64 (n:=(k:Int) + 1) (by omega) (by omega)
    (refine WV_skip ?_; simp only [go_sem])
    refine WV_seq_ (WV_block (WV_seq_ ?_))
    (refine WV_op ?_; simp only [go_sem,hP,map_getD hk,map_getD hkb,List.length_map,Int.toNat_natCast,Int.ofNat_lt,hk,hkb,Int.natCast_nonneg]; (repeat refine qJ ?_))
    by_cases he:a[k] = b[k]
    ·(refine WV_cond rfl (fun h => ?_) (fun h => ?_))
     ·simp [he] at h
     ·(repeat ((first | refine Va ?_ | refine Vb ?_ | refine Vc ?_ | refine Vd ?_ | refine Ve ?_ | refine Vf ?_); (try simp only [go_sem,hP,hw2]); (repeat refine qJ ?_)))
      refine ⟨k + 1,⟨by omega,fun m hm hm2 hmk => ?_⟩,by omega,?_⟩
      ·by_cases e2:m = k
       ·subst e2; exact he
       ·exact hke m hm hm2 (by omega)
      ·exact Sub_au
    ·have hne:(a == b) = false:=by
      rw [beq_eq_false_iff_ne]
      rintro rfl
      exact he rfl
     rw [hne]
     (refine WV_cond rfl (fun h => ?_) (fun h => ?_))
     ·(repeat ((first | refine Va ?_ | refine Vb ?_ | refine Vc ?_ | refine Vd ?_ | refine Ve ?_ | refine Vf ?_); (try simp only [go_sem,hP]); (repeat refine qJ ?_)))
      (refine WV_ret ?_; simp only [thenQ,inQ,RetQ,RetOk,resAll,resA]; simp only [go_sem,tupA,AV.port,AV.portL,exists_eq_left']; (first | exact AVle.of rfl | refine AVle.of ?_ | skip))
     ·simp [he] at h
   ·have hk:k = a.length:=by simp at h; omega
    subst hk
    have heq:(a == b) = true:=by
     rw [beq_iff_eq]
     exact List.ext_getElem hl fun m h1 h2 => hke m h1 h2 h1
    rw [heq]
    (repeat ((first | refine Va ?_ | refine Vb ?_ | refine Vc ?_ | refine Vd ?_ | refine Ve ?_ | refine Vf ?_); (try simp only [go_sem,hP]); (repeat refine qJ ?_)))
    (refine WV_ret ?_; simp only [thenQ,inQ,RetQ,RetOk,resAll,resA]; simp only [go_sem,tupA,AV.port,AV.portL,exists_eq_left']; (first | exact AVle.of rfl | refine AVle.of ?_ | skip))
 ·have hne:(a == b) = false:=by
   rw [beq_eq_false_iff_ne]
   rintro rfl
   exact hl rfl
  rw [hne]
  (refine WV_cond rfl (fun h => ?_) (fun h => ?_))
  ·(repeat ((first | refine Va ?_ | refine Vb ?_ | refine Vc ?_ | refine Vd ?_ | refine Ve ?_ | refine Vf ?_); (try simp only [go_sem,hP]); (repeat refine qJ ?_)))
   (refine WV_ret ?_; simp only [thenQ,inQ,RetQ,RetOk,resAll,resA]; simp only [go_sem,tupA,AV.port,AV.portL,exists_eq_left']; (first | exact AVle.of rfl | refine AVle.of ?_ | skip))
  ·simp at h; omega
def ex1:List UInt8:=[97,98,124,95,10,99,124,32,64,10,91,65,35,33,10]
theorem ex_write:writeG [[97,98],[99]] = (ex1,0):=by kernel_rfl
theorem ex_mend:mendG [97,63,63,95,10,99,124,32,64,10,91,65,63,33,10] = (ex1,0):=by kernel_rfl
theorem ex_read:readG ex1 = ([[97,98],[99]],0):=by kernel_rfl
theorem ex_left:leftG [63,63,124,95,10,63,63,32,64,10,91,65,35,33,10] = ([(0,0),(0,1),(1,0),(1,1)],0):=by kernel_rfl
theorem ex_wrong:wrongG [97,98,124,95,10,100,124,32,64,10,91,65,35,33,10] = ((1,0),ex1,0):=by kernel_rfl
theorem Conn.inv {ms:List (Nat × Nat)} (f:Int → Bool) (h:∀ m ∈ ms,f m.1 = f (-1 - m.2)) {x y:Int} (hc:Conn ms x y):f x = f y:=by
 induction hc with
 | refl x => rfl
 | edge hm => exact h _ hm
 | symm _ ih => exact ih.symm
 | trans _ _ ih1 ih2 => exact ih1.trans ih2
theorem ex_circ:(circ [(0,0),(0,1),(1,0),(1,1)]).length = 1:=by
 have h0:¬ Conn ([(0,0),(0,1),(1,0),(1,1)].take 0) ((0:Nat):Int) (-1 - ((0:Nat):Int)):=fun h => by
  have:=h.inv (fun x => decide (x = 0)) (by decide)
  revert this; decide
 have h1:¬ Conn ([(0,0),(0,1),(1,0),(1,1)].take 1) ((0:Nat):Int) (-1 - ((1:Nat):Int)):=fun h => by
  have:=h.inv (fun x => decide (x = 0 ∨ x = -1)) (by decide)
  revert this; decide
 have h2:¬ Conn ([(0,0),(0,1),(1,0),(1,1)].take 2) ((1:Nat):Int) (-1 - ((0:Nat):Int)):=fun h => by
  have:=h.inv (fun x => decide (x = 1)) (by decide)
  revert this; decide
 have h3:Conn ([(0,0),(0,1),(1,0),(1,1)].take 3) ((1:Nat):Int) (-1 - ((1:Nat):Int)):=by
  have e0:Conn ([(0,0),(0,1),(1,0),(1,1)].take 3) ((0:Nat):Int) (-1 - ((0:Nat):Int)):=.edge (m:=(0,0)) (by simp)
  have e1:Conn ([(0,0),(0,1),(1,0),(1,1)].take 3) ((0:Nat):Int) (-1 - ((1:Nat):Int)):=.edge (m:=(0,1)) (by simp)
  have e2:Conn ([(0,0),(0,1),(1,0),(1,1)].take 3) ((1:Nat):Int) (-1 - ((0:Nat):Int)):=.edge (m:=(1,0)) (by simp)
  exact e2.trans (e0.symm.trans e1)
 unfold circ
 show (circK _ 4).length = 1
 rw [circK_snoc (k:=3) (m:=(1,1)) rfl,circK_snoc (k:=2) (m:=(1,0)) rfl,circK_snoc (k:=1) (m:=(0,1)) rfl,circK_snoc (k:=0) (m:=(0,0)) rfl,if_pos h3,if_neg h2,if_neg h1,if_neg h0]
 rfl
set_option maxRecDepth 20000 in
set_option maxHeartbeats 8000000 in
theorem works16:FSpec Tryd.prog 16 [] (bv true):=by
 have hmax:maxLen = 9223372036854775807:=rfl
 have h1:=write24 [[97,98],[99]] (by simp) (by simp)
 have h2:=mend18 [97,63,63,95,10,99,124,32,64,10,91,65,63,33,10] (by simp)
 have h3:=read20 ex1 (by decide)
 have h4:=fewest31 [63,63,124,95,10,63,63,32,64,10,91,65,35,33,10] (by simp)
 have h5:=wrong23 [97,98,124,95,10,100,124,32,64,10,91,65,35,33,10] (by simp)
 have h6:=same21 [[97,98],[99]] [[97,98],[99]] (by simp)
 rw [ex_write] at h1
 rw [ex_mend] at h2
 rw [ex_read] at h3
 rw [ex_left,ex_circ] at h4
 rw [ex_wrong] at h5
 have h6':FSpec Tryd.prog 21 [.c (.sl 1 [[.str [97,98]],[.str [99]]]),.c (.sl 1 [[.str [97,98]],[.str [99]]])] (bv true):=h6
 have h1':FSpec Tryd.prog 24 [.c (.sl 1 [[.str [97,98]],[.str [99]]])] (.tup [.c (.str ex1),iv 0]):=h1
 unfold ex1 at h1' h2 h3 h5
 clear h1 h6
 refine FSpec_of c16 (Nat.le_refl _) (by decide) fun C hP hN hC hL => ?_; rw [init_st]
 simp only [ir16]
 (repeat ((first | refine Va ?_ | refine Vb ?_ | refine Vc ?_ | refine Vd ?_ | refine Ve ?_ | refine Vf ?_); (try simp only [go_sem,hP]); (repeat refine qJ ?_)))
 (refine AS_pu (h1') ?_; simp only [go_sem,hP]; (repeat refine qJ ?_); (repeat ((first | refine Va ?_ | refine Vb ?_ | refine Vc ?_ | refine Vd ?_ | refine Ve ?_ | refine Vf ?_); (try simp only [go_sem,hP]); (repeat refine qJ ?_))))
 (refine AS_pu (h2) ?_; simp only [go_sem,hP]; (repeat refine qJ ?_); (repeat ((first | refine Va ?_ | refine Vb ?_ | refine Vc ?_ | refine Vd ?_ | refine Ve ?_ | refine Vf ?_); (try simp only [go_sem,hP]); (repeat refine qJ ?_))))
 (refine AS_pu (h3) ?_; simp only [go_sem,hP]; (repeat refine qJ ?_); (repeat ((first | refine Va ?_ | refine Vb ?_ | refine Vc ?_ | refine Vd ?_ | refine Ve ?_ | refine Vf ?_); (try simp only [go_sem,hP]); (repeat refine qJ ?_))))
 (refine AS_pu (h4) ?_; simp only [go_sem,hP]; (repeat refine qJ ?_); (repeat ((first | refine Va ?_ | refine Vb ?_ | refine Vc ?_ | refine Vd ?_ | refine Ve ?_ | refine Vf ?_); (try simp only [go_sem,hP]); (repeat refine qJ ?_))))
 (refine AS_pu (h5) ?_; simp only [go_sem,hP,beq_self_eq_true,Bool.and_self,Bool.true_and,true_implies,Bool.true_eq_false,false_implies,and_true]; (repeat refine qJ ?_); (repeat ((first | refine Va ?_ | refine Vb ?_ | refine Vc ?_ | refine Vd ?_ | refine Ve ?_ | refine Vf ?_); (try simp only [go_sem,hP,beq_self_eq_true,Bool.and_self,Bool.true_and,true_implies,Bool.true_eq_false,false_implies,and_true]); (repeat refine qJ ?_))))
 (refine AG_pu (fun hG => h6') ?_; simp only [go_sem,hP,beq_self_eq_true,Bool.and_self,Bool.true_and,true_implies,Bool.true_eq_false,false_implies,and_true]; (repeat refine qJ ?_); (repeat ((first | refine Va ?_ | refine Vb ?_ | refine Vc ?_ | refine Vd ?_ | refine Ve ?_ | refine Vf ?_); (try simp only [go_sem,hP,beq_self_eq_true,Bool.and_self,Bool.true_and,true_implies,Bool.true_eq_false,false_implies,and_true]); (repeat refine qJ ?_))))
 (refine WV_ret ?_; simp only [thenQ,inQ,RetQ,RetOk,resAll,resA]; simp only [go_sem,tupA,AV.port,AV.portL,exists_eq_left'])
 exact AVle.of rfl
end Go.Proofs.YtlmfdmlochpfcaaDoor

namespace Go.Proofs.YtlmfdmlochpfcaaDoor
open Go Go.V
theorem nd_len:∀ (l l':List Nat),l.Nodup → (∀ x ∈ l,x ∈ l') → l.length ≤ l'.length
 | [],_,_,_ => Nat.zero_le _
 | a :: l,l',hn,hs => by
  have hn:=List.nodup_cons.1 hn
  have ha:a ∈ l':=hs a (by simp)
  have:=nd_len l (l'.erase a) hn.2 fun x hx => (List.mem_erase_of_ne (fun h:x = a => hn.1 (by rw [← h]; exact hx))).2 (hs x (by simp [hx]))
  rw [List.length_erase_of_mem ha] at this
  have hp:=List.length_pos_of_mem ha
  simp only [List.length_cons]
  omega
theorem nd_less {l:List Nat} (hn:l.Nodup) {a:Nat} (ha:a ∈ l):(l.filter fun x => x != a).length + 1 = l.length:=by
 have h1:(l.filter fun x => x != a).length ≤ (l.erase a).length:=nd_len _ _ (hn.filter _) fun x hx => by
  obtain ⟨h1,h2⟩:=List.mem_filter.1 hx
  exact (List.mem_erase_of_ne (by simpa using h2)).2 h1
 have h2:l.length ≤ (a :: l.filter fun x => x != a).length:=nd_len _ _ hn fun x hx => by
  by_cases h:x = a
  ·rw [h]; simp
  ·exact List.mem_cons_of_mem _ (List.mem_filter.2 ⟨hx,by simpa using h⟩)
 rw [List.length_erase_of_mem ha] at h1
 have hp:=List.length_pos_of_mem ha
 simp only [List.length_cons] at h2
 omega
structure Rep (E:Nat → Nat → Prop) (N:Nat) (f:Nat → Nat):Prop where
 lt:∀ x,x < N → f x < N
 idem:∀ x,x < N → f (f x) = f x
 con:∀ x y,x < N → y < N → (f x = f y ↔ E x y)
def fixL (N:Nat) (f:Nat → Nat):List Nat:=(List.range N).filter fun x => f x == x
theorem fixL_mem {N:Nat} {f:Nat → Nat} {x:Nat}:x ∈ fixL N f ↔ x < N ∧ f x = x:=by simp [fixL]
theorem fixL_nodup (N:Nat) (f:Nat → Nat):(fixL N f).Nodup:=List.nodup_range.filter _
theorem rep_le {E:Nat → Nat → Prop} {N:Nat} {f g:Nat → Nat} (hf:Rep E N f) (hg:Rep E N g):(fixL N f).length ≤ (fixL N g).length:=by
 rw [← List.length_map (f:=g)]
 refine nd_len _ _ ?_ fun x hx => ?_
 ·refine List.pairwise_map.2 ((fixL_nodup N f).imp_of_mem fun {a b} ha hb hab he => hab ?_)
  obtain ⟨a1,a2⟩:=fixL_mem.1 ha
  obtain ⟨b1,b2⟩:=fixL_mem.1 hb
  have:=(hf.con a b a1 b1).2 ((hg.con a b a1 b1).1 he)
  rw [a2,b2] at this
  exact this
 ·obtain ⟨a,ha,rfl⟩:=List.mem_map.1 hx
  obtain ⟨a1,_⟩:=fixL_mem.1 ha
  exact fixL_mem.2 ⟨hg.lt a a1,hg.idem a a1⟩
theorem rep_count {E:Nat → Nat → Prop} {N:Nat} {f g:Nat → Nat} (hf:Rep E N f) (hg:Rep E N g):(fixL N f).length = (fixL N g).length:=Nat.le_antisymm (rep_le hf hg) (rep_le hg hf)
theorem rep_join {E E':Nat → Nat → Prop} {N p q:Nat} {f:Nat → Nat} (hf:Rep E N f) (hp:p < N) (hq:q < N) (hne:¬ E p q)
  (hE:∀ x y,x < N → y < N → (E' x y ↔ E x y ∨ (E x p ∧ E y q) ∨ (E x q ∧ E y p))):∃ g,Rep E' N g ∧ (fixL N g).length + 1 = (fixL N f).length:=by
 have hpq:f p ≠ f q:=fun h => hne ((hf.con p q hp hq).1 h)
 refine ⟨fun x => if f x = f p then f q else f x,⟨fun x hx => ?_,fun x hx => ?_,fun x y hx hy => ?_⟩,?_⟩
 ·split
  ·exact hf.lt q hq
  ·exact hf.lt x hx
 ·by_cases h:f x = f p
  ·rw [if_pos h,hf.idem q hq,if_neg (fun h => hpq h.symm)]
  ·rw [if_neg h,hf.idem x hx,if_neg h]
 ·rw [hE x y hx hy,← hf.con x y hx hy,← hf.con x p hx hp,← hf.con y q hy hq,← hf.con x q hx hq,← hf.con y p hy hp]
  by_cases h1:f x = f p <;> by_cases h2:f y = f p
  ·simp only [if_pos h1,if_pos h2,true_iff]; exact .inl (h1.trans h2.symm)
  ·simp only [if_pos h1,if_neg h2]
   constructor
   ·intro h; exact .inr (.inl ⟨h1,h.symm⟩)
   ·rintro (h | ⟨_,h⟩ | ⟨_,h⟩)
    ·exact (h2 (h ▸ h1)).elim
    ·exact h.symm
    ·exact (h2 h).elim
  ·simp only [if_neg h1,if_pos h2]
   constructor
   ·intro h; exact .inr (.inr ⟨h,h2⟩)
   ·rintro (h | ⟨h,_⟩ | ⟨h,_⟩)
    ·exact (h1 (h.trans h2)).elim
    ·exact (h1 h).elim
    ·exact h
  ·simp only [if_neg h1,if_neg h2]
   constructor
   ·exact .inl
   ·rintro (h | ⟨h,_⟩ | ⟨_,h⟩)
    ·exact h
    ·exact (h1 h).elim
    ·exact (h2 h).elim
 ·have ha:f p ∈ fixL N f:=fixL_mem.2 ⟨hf.lt p hp,hf.idem p hp⟩
  rw [← nd_less (fixL_nodup N f) ha]
  congr 1
  unfold fixL
  rw [List.filter_filter]
  congr 1
  refine List.filter_congr fun x hx => ?_
  have hx:=List.mem_range.1 hx
  rw [Bool.eq_iff_iff]
  simp only [beq_iff_eq,Bool.and_eq_true,bne_iff_ne,ne_eq]
  by_cases h1:f x = f p
  ·rw [if_pos h1]
   constructor
   ·intro h; exact (hpq (by rw [← h1,← h,hf.idem q hq])).elim
   ·rintro ⟨h,h'⟩; exact (h (h'.symm.trans h1)).elim
  ·rw [if_neg h1]
   constructor
   ·intro h; refine ⟨fun h' => h1 ?_,h⟩
    rw [h',hf.idem p hp]
   ·exact fun h => h.2
def pt (x:Nat):Int:=if x < 41 then x else -1 - ((x - 41:Nat):Int)
theorem pt_row {x:Nat} (h:x < 41):pt x = x:=by unfold pt; rw [if_pos h]
theorem pt_col (x:Nat):pt (41 + x) = -1 - (x:Int):=by unfold pt; rw [if_neg (by omega)]; congr 2; omega
theorem pt_inj {x y:Nat} (h:pt x = pt y):x = y:=by
 unfold pt at h
 split at h <;> split at h <;> omega
theorem Conn.invT {T:Type} {ms:List (Nat × Nat)} (f:Int → T) (h:∀ m ∈ ms,f m.1 = f (-1 - m.2)) {x y:Int} (hc:Conn ms x y):f x = f y:=by
 induction hc with
 | refl x => rfl
 | edge hm => exact h _ hm
 | symm _ ih => exact ih.symm
 | trans _ _ ih1 ih2 => exact ih1.trans ih2
def InB (ms:List (Nat × Nat)):Prop:=∀ m ∈ ms,m.1 < 41 ∧ m.2 < 99
theorem fix_id (N:Nat):(fixL N fun x => x).length = N:=by
 have:fixL N (fun x => x) = List.range N:=by unfold fixL; rw [List.filter_eq_self]; simp
 rw [this,List.length_range]
theorem circ_count {ms:List (Nat × Nat)} (h:InB ms):∀ k,k ≤ ms.length → ∃ f,Rep (fun x y => Conn (ms.take k) (pt x) (pt y)) 140 f ∧ (fixL 140 f).length + k = 140 + (circK ms k).length
 | 0,_ => by
  refine ⟨fun x => x,⟨fun x hx => hx,fun x _ => rfl,fun x y _ _ => ⟨fun h => h ▸ .refl _,fun h => pt_inj (h.invT id fun m hm => by simp at hm)⟩⟩,?_⟩
  rw [fix_id]; simp [circK]
 | k + 1,hk => by
  obtain ⟨f,hf,hc⟩:=circ_count h k (by omega)
  have hk2:k < ms.length:=by omega
  have hin:=h _ (List.getElem_mem hk2)
  have hts:=List.take_succ_eq_append_getElem hk2
  rw [circK_snoc (List.getElem?_eq_getElem hk2),hts]
  generalize ms[k] = m at hin hts
  have e1:=pt_row hin.1
  have e2:=pt_col m.2
  have hmono:∀ {x y},Conn (ms.take k) x y → Conn (ms.take k ++ [m]) x y:=fun hc => hc.mono fun _ hm => List.mem_append_left _ hm
  have hedge:Conn (ms.take k ++ [m]) m.1 (-1 - m.2):=.edge (by simp)
  by_cases hm:Conn (ms.take k) m.1 (-1 - m.2)
  ·rw [if_pos hm]
   refine ⟨f,⟨hf.lt,hf.idem,fun x y hx hy => ?_⟩,by simp only [List.length_append,List.length_cons,List.length_nil]; omega⟩
   rw [hf.con x y hx hy]
   refine ⟨hmono,fun h => ?_⟩
   rcases h.snoc with h | ⟨h1,h2⟩ | ⟨h1,h2⟩
   ·exact h
   ·exact h1.trans (hm.trans h2.symm)
   ·exact h1.trans (hm.symm.trans h2.symm)
  ·rw [if_neg hm]
   obtain ⟨g,hg,hl⟩:=rep_join (E':=fun x y => Conn (ms.take k ++ [m]) (pt x) (pt y)) hf (p:=m.1) (q:=41 + m.2) (by omega) (by omega) (by rw [e1,e2]; exact hm) fun x y hx hy => by
    rw [e1,e2]
    refine ⟨fun h => h.snoc,?_⟩
    rintro (h | ⟨h1,h2⟩ | ⟨h1,h2⟩)
    ·exact hmono h
    ·exact (hmono h1).trans (hedge.trans (hmono h2).symm)
    ·exact (hmono h1).trans (hedge.symm.trans (hmono h2).symm)
   exact ⟨g,hg,by simp only [List.append_nil]; omega⟩
def touch (ms:List (Nat × Nat)) (x:Nat):Prop:=∃ m ∈ ms,x = m.1 ∨ x = 41 + m.2
structure Lab (ms:List (Nat × Nat)) (L:List Int):Prop where
 len:L.length = 140
 non:∀ x,x < 140 → ¬ touch ms x → L.getD x 0 = 0
 some:∀ x,x < 140 → touch ms x → ∃ y:Nat,y < 140 ∧ L.getD x 0 = 1 + (y:Int) ∧ Conn ms (pt x) (pt y)
def repL (L:List Int) (x:Nat):Nat:=if L.getD x 0 = 0 then x else (L.getD x 0 - 1).toNat
def atL (L:List Int) (u:Int):Int:=if 0 ≤ u then L.getD u.toNat 0 else L.getD (41 + (-1 - u).toNat) 0
theorem atL_pt (L:List Int) (x:Nat):atL L (pt x) = L.getD x 0:=by
 unfold atL pt
 by_cases h:x < 41
 ·rw [if_pos h,if_pos (by omega),Int.toNat_natCast]
 ·rw [if_neg h,if_neg (by omega)]
  congr 1; omega
theorem touch_no {ms:List (Nat × Nat)} (h:InB ms) {x y:Nat} (hx:¬ touch ms x) (hc:Conn ms (pt x) (pt y)):x = y:=by
 have:=hc.invT (fun u => u = pt x) fun m hm => by
  have:=h m hm
  refine propext ⟨fun e => ?_,fun e => ?_⟩
  ·rw [← pt_row this.1] at e
   exact (hx ⟨m,hm,.inl (pt_inj e).symm⟩).elim
  ·rw [← pt_col] at e
   exact (hx ⟨m,hm,.inr (pt_inj e).symm⟩).elim
 exact (pt_inj (this.mp rfl)).symm
theorem lab_rep {ms:List (Nat × Nat)} (h:InB ms) {L:List Int} (hL:Lab ms L) (he:∀ m ∈ ms,L.getD m.1 0 = L.getD (41 + m.2) 0):Rep (fun x y => Conn ms (pt x) (pt y)) 140 (repL L):=by
 have hcl:∀ x y,Conn ms (pt x) (pt y) → L.getD x 0 = L.getD y 0:=fun x y hc => by
  have:=hc.invT (atL L) fun m hm => by
   have hi:=h m hm
   rw [← pt_row hi.1,← pt_col,atL_pt,atL_pt]
   exact he m hm
  rwa [atL_pt,atL_pt] at this
 have key:∀ x,x < 140 → (touch ms x ∧ L.getD x 0 ≠ 0 ∧ repL L x < 140 ∧ L.getD x 0 = 1 + (repL L x:Int) ∧ Conn ms (pt x) (pt (repL L x))) ∨ (¬ touch ms x ∧ L.getD x 0 = 0 ∧ repL L x = x):=fun x hx => by
  by_cases ht:touch ms x
  ·obtain ⟨y,y1,y2,y3⟩:=hL.some x hx ht
   have:repL L x = y:=by unfold repL; rw [if_neg (by omega)]; omega
   rw [this]
   exact .inl ⟨ht,by omega,y1,y2,y3⟩
  ·have h0:=hL.non x hx ht
   exact .inr ⟨ht,h0,by unfold repL; rw [if_pos h0]⟩
 refine ⟨fun x hx => ?_,fun x hx => ?_,fun x y hx hy => ?_⟩
 ·rcases key x hx with ⟨_,_,h1,_⟩ | ⟨_,_,h1⟩
  ·exact h1
  ·omega
 ·rcases key x hx with ⟨_,h0,h1,h2,h3⟩ | ⟨_,_,h1⟩
  ·have:=hcl _ _ h3
   rcases key _ h1 with ⟨_,_,_,k2,_⟩ | ⟨_,k0,_⟩
   ·omega
   ·omega
  ·rw [h1,h1]
 ·rcases key x hx with ⟨x1,x2,x3,x4,x5⟩ | ⟨x1,x2,x3⟩ <;> rcases key y hy with ⟨y1,y2,y3,y4,y5⟩ | ⟨y1,y2,y3⟩
  ·constructor
   ·intro e; rw [e] at x5; exact x5.trans y5.symm
   ·intro hc; have:=hcl x y hc; omega
  ·constructor
   ·intro e
    have:=hcl _ _ x5
    rw [e,y3] at this
    omega
   ·intro hc
    have:=hcl x y hc
    omega
  ·constructor
   ·intro e
    have:=hcl _ _ y5
    rw [← e,x3] at this
    omega
   ·intro hc
    have:=hcl x y hc
    omega
  ·rw [x3,y3]
   constructor
   ·rintro rfl; exact .refl _
   ·exact touch_no h x1
theorem flt1 {f:Nat → Bool} {k:Nat} (h:f k = true):([k].filter f).length = 1:=by rw [List.filter_cons,if_pos h]; rfl
theorem flt0 {f:Nat → Bool} {k:Nat} (h:f k = false):([k].filter f).length = 0:=by rw [List.filter_cons,if_neg (by rw [h]; decide)]; rfl
def linesL (L:List Int) (k:Nat):Nat:=((List.range k).filter fun i => decide (L.getD i 0 > 0)).length
def groupsL (L:List Int) (k:Nat):Nat:=((List.range k).filter fun i => L.getD i 0 == 1 + (i:Int)).length
theorem linesL_succ (L:List Int) (k:Nat):linesL L (k + 1) = linesL L k + (if L.getD k 0 > 0 then 1 else 0):=by
 unfold linesL
 rw [List.range_succ,List.filter_append,List.length_append]
 by_cases h:L.getD k 0 > 0
 ·rw [if_pos h,flt1 (decide_eq_true h)]
 ·rw [if_neg h,flt0 (decide_eq_false h)]
theorem groupsL_succ (L:List Int) (k:Nat):groupsL L (k + 1) = groupsL L k + (if L.getD k 0 = 1 + (k:Int) then 1 else 0):=by
 unfold groupsL
 rw [List.range_succ,List.filter_append,List.length_append]
 by_cases h:L.getD k 0 = 1 + (k:Int)
 ·rw [if_pos h,flt1 (by rw [h]; exact beq_self_eq_true _)]
 ·rw [if_neg h,flt0 (by rw [beq_eq_false_iff_ne]; exact h)]
theorem fix_lab {L:List Int} (h0:∀ x,x < 140 → 0 ≤ L.getD x 0):∀ k,k ≤ 140 → (fixL k (repL L)).length + linesL L k = k + groupsL L k
 | 0,_ => rfl
 | k + 1,hk => by
  have ih:=fix_lab h0 k (by omega)
  rw [linesL_succ,groupsL_succ]
  have hs:(fixL (k + 1) (repL L)).length = (fixL k (repL L)).length + (if repL L k = k then 1 else 0):=by
   unfold fixL
   rw [List.range_succ,List.filter_append,List.length_append]
   by_cases h:repL L k = k
   ·rw [if_pos h,flt1 (by rw [h]; exact beq_self_eq_true _)]
   ·rw [if_neg h,flt0 (by rw [beq_eq_false_iff_ne]; exact h)]
  rw [hs]
  have hn:=h0 k (by omega)
  rw [show repL L k = if L.getD k 0 = 0 then k else (L.getD k 0 - 1).toNat from rfl]
  generalize L.getD k 0 = v at hn
  by_cases hz:v = 0
  ·subst hz
   rw [if_pos rfl,if_pos rfl,if_neg (by decide),if_neg (by omega)]; omega
  ·rw [if_neg hz,if_pos (by omega:v > 0)]
   by_cases hv:v = 1 + (k:Int)
   ·rw [if_pos hv,if_pos (by omega)]; omega
   ·rw [if_neg hv,if_neg (by omega)]; omega
theorem circ_lab {ms:List (Nat × Nat)} (h:InB ms) {L:List Int} (hL:Lab ms L) (he:∀ m ∈ ms,L.getD m.1 0 = L.getD (41 + m.2) 0):(circ ms).length + linesL L 140 = ms.length + groupsL L 140:=by
 obtain ⟨f,hf,hc⟩:=circ_count h ms.length (Nat.le_refl _)
 rw [List.take_length] at hf
 have:=rep_count hf (lab_rep h hL he)
 have h2:=fix_lab (L:=L) (fun x hx => by
  by_cases ht:touch ms x
  ·obtain ⟨y,_,y2,_⟩:=hL.some x hx ht; omega
  ·rw [hL.non x hx ht]; exact Int.le_refl _) 140 (Nat.le_refl _)
 unfold circ
 omega
theorem setD (l:List Int) (i:Nat) (v:Int) (k:Nat) (hi:i < l.length):(l.set i v).getD k 0 = if k = i then v else l.getD k 0:=by
 rw [List.getD_eq_getElem?_getD,List.getElem?_set]
 by_cases h:i = k
 ·subst h; rw [if_pos rfl,if_pos hi,if_pos rfl]; rfl
 ·rw [if_neg h,if_neg (fun e => h e.symm),List.getD_eq_getElem?_getD]
def lab0 (ms:List (Nat × Nat)):List Int:=ms.foldl (fun L m => (L.set m.1 (1 + (m.1:Int))).set (41 + m.2) (42 + (m.2:Int))) (List.replicate 140 0)
theorem lab0_snoc (ms:List (Nat × Nat)) (m:Nat × Nat):lab0 (ms ++ [m]) = ((lab0 ms).set m.1 (1 + (m.1:Int))).set (41 + m.2) (42 + (m.2:Int)):=by
 unfold lab0; rw [List.foldl_append]; rfl
theorem lab0_len (ms:List (Nat × Nat)):(lab0 ms).length = 140:=by
 unfold lab0
 suffices ∀ L:List Int,L.length = 140 → (ms.foldl (fun L m => (L.set m.1 (1 + (m.1:Int))).set (41 + m.2) (42 + (m.2:Int))) L).length = 140 from this _ (by simp)
 intro L hL
 induction ms generalizing L with
 | nil => exact hL
 | cons m ms ih => exact ih _ (by simp [hL])
theorem lab0_at {ms:List (Nat × Nat)} (h:InB ms):∀ k,k ≤ ms.length → ∀ x,x < 140 → (touch (ms.take k) x → (lab0 (ms.take k)).getD x 0 = 1 + (x:Int)) ∧ (¬ touch (ms.take k) x → (lab0 (ms.take k)).getD x 0 = 0)
 | 0,_,x,hx => by
  refine ⟨fun ⟨m,hm,_⟩ => by simp at hm,fun _ => ?_⟩
  simp only [List.take_zero,lab0,List.foldl_nil]
  rw [List.getD_eq_getElem?_getD,List.getElem?_replicate,if_pos hx]; rfl
 | k + 1,hk,x,hx => by
  have hk2:k < ms.length:=by omega
  obtain ⟨i1,i2⟩:=lab0_at h k (by omega) x hx
  have hin:=h _ (List.getElem_mem hk2)
  rw [List.take_succ_eq_append_getElem hk2,lab0_snoc]
  generalize ms[k] = m at hin
  have hl:=lab0_len (ms.take k)
  rw [setD _ _ _ _ (by rw [List.length_set,hl]; omega),setD _ _ _ _ (by rw [hl]; omega)]
  have ht:touch (ms.take k ++ [m]) x ↔ touch (ms.take k) x ∨ x = m.1 ∨ x = 41 + m.2:=by
   unfold touch
   constructor
   ·rintro ⟨a,ha,hx⟩
    rcases List.mem_append.1 ha with ha | ha
    ·exact .inl ⟨a,ha,hx⟩
    ·simp only [List.mem_singleton] at ha; subst ha; exact .inr hx
   ·rintro (⟨a,ha,hx⟩ | hx)
    ·exact ⟨a,List.mem_append_left _ ha,hx⟩
    ·exact ⟨m,by simp,hx⟩
  rw [ht]
  by_cases h1:x = 41 + m.2
  ·rw [if_pos h1]; exact ⟨fun _ => by omega,fun hn => (hn (.inr (.inr h1))).elim⟩
  ·rw [if_neg h1]
   by_cases h2:x = m.1
   ·rw [if_pos h2]; exact ⟨fun _ => by omega,fun hn => (hn (.inr (.inl h2))).elim⟩
   ·rw [if_neg h2]
    refine ⟨fun h => i1 (h.resolve_right fun h => h.elim h2 h1),fun hn => i2 fun h => hn (.inl h)⟩
theorem lab0_ok {ms:List (Nat × Nat)} (h:InB ms):Lab ms (lab0 ms):=by
 have:=lab0_at h ms.length (Nat.le_refl _)
 rw [List.take_length] at this
 exact ⟨lab0_len ms,fun x hx ht => (this x hx).2 ht,fun x hx ht => ⟨x,hx,(this x hx).1 ht,.refl _⟩⟩
theorem touch_row {ms:List (Nat × Nat)} {m:Nat × Nat} (hm:m ∈ ms):touch ms m.1:=⟨m,hm,.inl rfl⟩
theorem touch_col {ms:List (Nat × Nat)} {m:Nat × Nat} (hm:m ∈ ms):touch ms (41 + m.2):=⟨m,hm,.inr rfl⟩
def sumK (f:Nat → Int):Nat → Int
 | 0 => 0
 | k + 1 => sumK f k + f k
def sumZ (L:List Int):Int:=sumK (fun i => L.getD i 0) 140
theorem sumK_set2 (f:Nat → Int) (i j:Nat) (v:Int) (hij:i ≠ j):∀ k,sumK (fun x => if x = j then v else if x = i then v else f x) k = sumK f k + (if i < k then v - f i else 0) + (if j < k then v - f j else 0)
 | 0 => by simp [sumK]
 | k + 1 => by
  simp only [sumK]
  rw [sumK_set2 f i j v hij k]
  by_cases h1:k = j
  ·subst h1
   rw [if_pos rfl,if_neg (Nat.lt_irrefl k),if_pos (Nat.lt_succ_self k)]
   by_cases h2:i < k
   ·rw [if_pos h2,if_pos (by omega)]; omega
   ·rw [if_neg h2,if_neg (by omega)]; omega
  ·rw [if_neg h1]
   by_cases h2:k = i
   ·subst h2
    rw [if_pos rfl,if_neg (Nat.lt_irrefl k),if_pos (Nat.lt_succ_self k)]
    by_cases h3:j < k
    ·rw [if_pos h3,if_pos (by omega)]; omega
    ·rw [if_neg h3,if_neg (by omega)]; omega
   ·rw [if_neg h2]
    by_cases h3:j < k <;> by_cases h4:i < k
    ·rw [if_pos h3,if_pos h4,if_pos (show i < k + 1 by omega),if_pos (show j < k + 1 by omega)]; omega
    ·rw [if_pos h3,if_neg h4,if_neg (show ¬ i < k + 1 by omega),if_pos (show j < k + 1 by omega)]; omega
    ·rw [if_neg h3,if_pos h4,if_pos (show i < k + 1 by omega),if_neg (show ¬ j < k + 1 by omega)]; omega
    ·rw [if_neg h3,if_neg h4,if_neg (show ¬ i < k + 1 by omega),if_neg (show ¬ j < k + 1 by omega)]; omega
theorem lab_step {ms:List (Nat × Nat)} (h:InB ms) {L:List Int} (hL:Lab ms L) {m:Nat × Nat} (hm:m ∈ ms) (hne:L.getD m.1 0 ≠ L.getD (41 + m.2) 0) :
  Lab ms ((L.set m.1 (min (L.getD m.1 0) (L.getD (41 + m.2) 0))).set (41 + m.2) (min (L.getD m.1 0) (L.getD (41 + m.2) 0))) ∧ sumZ ((L.set m.1 (min (L.getD m.1 0) (L.getD (41 + m.2) 0))).set (41 + m.2) (min (L.getD m.1 0) (L.getD (41 + m.2) 0))) < sumZ L:=by
 obtain ⟨r1,r2⟩:=h m hm
 obtain ⟨a,a1,a2,a3⟩:=hL.some m.1 (by omega) (touch_row hm)
 obtain ⟨b,b1,b2,b3⟩:=hL.some (41 + m.2) (by omega) (touch_col hm)
 have hed:Conn ms (pt m.1) (pt (41 + m.2)):=by rw [pt_row r1,pt_col]; exact .edge hm
 have hl:=hL.len
 have hg:∀ x,((L.set m.1 (min (L.getD m.1 0) (L.getD (41 + m.2) 0))).set (41 + m.2) (min (L.getD m.1 0) (L.getD (41 + m.2) 0))).getD x 0 = if x = 41 + m.2 then min (L.getD m.1 0) (L.getD (41 + m.2) 0) else if x = m.1 then min (L.getD m.1 0) (L.getD (41 + m.2) 0) else L.getD x 0:=fun x => by
  rw [setD _ _ _ _ (by rw [List.length_set,hl]; omega),setD _ _ _ _ (by omega)]
 have hmin:∃ c:Nat,c < 140 ∧ min (L.getD m.1 0) (L.getD (41 + m.2) 0) = 1 + (c:Int) ∧ Conn ms (pt m.1) (pt c):=by
  rcases Int.le_total (L.getD m.1 0) (L.getD (41 + m.2) 0) with hle | hle
  ·exact ⟨a,a1,by rw [Int.min_eq_left hle,a2],a3⟩
  ·exact ⟨b,b1,by rw [Int.min_eq_right hle,b2],hed.trans b3⟩
 obtain ⟨c,c1,c2,c3⟩:=hmin
 refine ⟨⟨by simp [hl],fun x hx ht => ?_,fun x hx ht => ?_⟩,?_⟩
 ·rw [hg,if_neg (fun e => ht (by rw [e]; exact touch_col hm)),if_neg (fun e => ht (by rw [e]; exact touch_row hm))]
  exact hL.non x hx ht
 ·rw [hg]
  by_cases e1:x = 41 + m.2
  ·rw [if_pos e1]
   exact ⟨c,c1,c2,by rw [e1]; exact hed.symm.trans c3⟩
  ·rw [if_neg e1]
   by_cases e2:x = m.1
   ·rw [if_pos e2]
    exact ⟨c,c1,c2,by rw [e2]; exact c3⟩
   ·rw [if_neg e2]
    exact hL.some x hx ht
 ·unfold sumZ
  rw [show (fun i => ((L.set m.1 (min (L.getD m.1 0) (L.getD (41 + m.2) 0))).set (41 + m.2) (min (L.getD m.1 0) (L.getD (41 + m.2) 0))).getD i 0) = fun x => if x = 41 + m.2 then min (L.getD m.1 0) (L.getD (41 + m.2) 0) else if x = m.1 then min (L.getD m.1 0) (L.getD (41 + m.2) 0) else L.getD x 0 from funext hg]
  rw [sumK_set2 _ _ _ _ (by omega),if_pos (by omega),if_pos (by omega)]
  omega
theorem sumK_nn {f:Nat → Int}:∀ {k:Nat},(∀ i,i < k → 0 ≤ f i) → 0 ≤ sumK f k
 | 0,_ => Int.le_refl _
 | k + 1,h => by
  have h1:=sumK_nn (k:=k) fun i hi => h i (by omega)
  have h2:=h k (by omega)
  simp only [sumK]
  omega
theorem lab_nn {ms:List (Nat × Nat)} {L:List Int} (hL:Lab ms L) (x:Nat):0 ≤ L.getD x 0 ∧ L.getD x 0 ≤ 140:=by
 by_cases hx:x < 140
 ·by_cases ht:touch ms x
  ·obtain ⟨y,y1,y2,_⟩:=hL.some x hx ht; omega
  ·rw [hL.non x hx ht]; omega
 ·rw [List.getD_eq_getElem?_getD,List.getElem?_eq_none (by rw [hL.len]; omega)]; exact ⟨by decide,by decide⟩
theorem lab_sum {ms:List (Nat × Nat)} {L:List Int} (hL:Lab ms L):0 ≤ sumZ L:=sumK_nn fun i _ => (lab_nn hL i).1
end Go.Proofs.YtlmfdmlochpfcaaDoor

namespace Go.Proofs.YtlmfdmlochpfcaaDoor
open Go Go.V
abbrev o35_0:List Ins:=[⟨some 4,.mv (.k (.c (.bool false))),none,true⟩]
abbrev o35_1:List Ins:=[⟨some 6,.mv (.t 0),none,true⟩,
 ⟨some 7,.len (.t 6),none,true⟩,
 ⟨some 8,.mv (.t 1),none,true⟩,
 ⟨some 9,.len (.t 8),none,true⟩,
 ⟨some 10,.bin .neq (.t 7) (.t 9),none,true⟩]
abbrev o35_2:List Ins:=[⟨some 4,.mv (.k (.c (.bool false))),none,true⟩]
abbrev v35_3:VC:=(.seq (.ops o35_2) .ret)
abbrev v35_4:VC:=(.cond (.t 10) v35_3 .skip)
abbrev o35_5:List Ins:=[⟨some 5,.mv (.k (.c (.int .i64 0))),none,true⟩]
abbrev o35_6:List Ins:=[⟨some 11,.mv (.t 5),none,true⟩,
 ⟨some 12,.mv (.t 0),none,true⟩,
 ⟨some 13,.len (.t 12),none,true⟩,
 ⟨some 14,.bin .lss (.t 11) (.t 13),none,true⟩]
abbrev v35_7:VC:=(.cond (.t 14) .skip (.exit 0))
abbrev o35_8:List Ins:=[⟨some 17,.mv (.t 0),none,false⟩,
 ⟨some 18,.mv (.t 5),none,false⟩,
 ⟨some 19,.ia 2 (.t 17) (.t 18),none,false⟩,
 ⟨some 20,.ld false 2 (.t 19),none,false⟩,
 ⟨some 21,.mv (.t 1),none,false⟩,
 ⟨some 22,.mv (.t 5),none,false⟩,
 ⟨some 23,.ia 2 (.t 21) (.t 22),none,false⟩,
 ⟨some 24,.ld false 2 (.t 23),none,false⟩,
 ⟨some 25,.seq true [(0,true),(1,true)] (.t 20) (.t 24),none,true⟩]
abbrev o35_9:List Ins:=[⟨some 4,.mv (.k (.c (.bool false))),none,true⟩]
abbrev v35_10:VC:=(.seq (.ops o35_9) .ret)
abbrev v35_11:VC:=(.cond (.t 25) v35_10 .skip)
abbrev v35_12:VC:=(.seq (.dops o35_8) v35_11)
abbrev o35_13:List Ins:=[⟨some 15,.mv (.t 5),none,true⟩,
 ⟨some 16,.bin .add (.t 15) (.k (.c (.int .i64 1))),none,true⟩,
 ⟨some 5,.mv (.t 16),none,true⟩]
abbrev v35_14:VC:=(.seq (.block 1 v35_12) (.ops o35_13))
abbrev v35_15:VC:=(.seq (.seq (.ops o35_6) v35_7) v35_14)
-- K35_1: changed and kept: [5]
abbrev K35_1:List Nat:=[0,1]
abbrev v35_16:VC:=(.loop v35_15)
abbrev v35_17:VC:=(.block 0 v35_16)
abbrev o35_18:List Ins:=[⟨some 4,.mv (.k (.c (.bool true))),none,true⟩]
abbrev v35_19:VC:=(.seq (.ops o35_18) .ret)
abbrev v35_20:VC:=(.seq (.seq (.ops o35_5) v35_17) v35_19)
abbrev v35_21:VC:=(.seq (.seq (.ops o35_1) v35_4) v35_20)
def ir35:FC:=⟨2,26,[.t 4],(.seq (.ops o35_0) v35_21)⟩
theorem c35:compM Tryd.prog [] 35 = some ir35:=by kernel_rfl
attribute [local go_sem] Nat.reduceEqDiff Nat.reduceAdd Nat.reduceMul reduceIte Nat.reduceLeDiff Nat.reduceLT Nat.reduceBEq reduceCtorEq
def placeC (m:Int × Int):List CD:=[.int .i64 m.1,.int .i64 m.2]
def placesC (l:List (Int × Int)):CD:=.sl 2 (l.map placeC)
def icst (p:Nat × Nat):Int × Int:=((p.1:Int),(p.2:Int))
theorem marksC_places (l:List (Nat × Nat)):marksC l = placesC (l.map icst):=by
 unfold marksC placesC
 rw [List.map_map]; rfl
theorem pr_eq (a b:Int × Int):(a.1 == b.1 && (a.2 == b.2 && true)) = decide (a = b):=by
 rw [Bool.and_true,Bool.eq_iff_iff]
 simp only [Bool.and_eq_true,beq_iff_eq,decide_eq_true_eq]
 exact ⟨fun h => Prod.ext h.1 h.2,fun h => h ▸ ⟨rfl,rfl⟩⟩
theorem same35 (a b:List (Int × Int)) (hl:a.length ≤ 1000000000):FSpec Tryd.prog 35 [.c (placesC a),.c (placesC b)] (bv (a == b)):=by
 have hmax:maxLen = 9223372036854775807:=rfl
 refine FSpec_of c35 (Nat.le_refl _) (by decide) fun C hP hN hC hL => ?_; rw [init_st]
 simp only [ir35,placesC]
 (repeat ((first | refine Va ?_ | refine Vb ?_ | refine Vc ?_ | refine Vd ?_ | refine Ve ?_ | refine Vf ?_); (try simp only [go_sem,hP,List.length_map]); (repeat refine qJ ?_)))
 by_cases hlen:a.length = b.length
 ·(refine WV_cond rfl (fun h => ?_) (fun h => ?_))
  ·simp [hlen] at h
  (repeat ((first | refine Va ?_ | refine Vb ?_ | refine Vc ?_ | refine Vd ?_ | refine Ve ?_ | refine Vf ?_); (try simp only [go_sem,hP]); (repeat refine qJ ?_)))
  refine WV_loopK K35_1 [] (fun k:Nat => k ≤ a.length ∧ ∀ m (hm:m < a.length) (hm2:m < b.length),m < k → a[m] = b[m]) (fun k => a.length - k) (fun k => [(5,iv k)]) (fun _ => []) 0 ⟨Nat.zero_le _,fun m _ _ h => by omega⟩ ?_ ?_
  ·exact Sub_au
  ·intro k ⟨hk0,hke⟩
   simp only [go_sem]
   (repeat ((first | refine Va ?_ | refine Vb ?_ | refine Vc ?_ | refine Vd ?_ | refine Ve ?_ | refine Vf ?_); (try simp only [go_sem,hP,List.length_map]); (repeat refine qJ ?_)))
   (refine WV_cond rfl (fun h => ?_) (fun h => ?_))
   ·have hk:k < a.length:=by simpa using h
    have hkb:k < b.length:=by omega
    have hw2:=w64 (n:=(k:Int) + 1) (by omega) (by omega)
    have hg:(a.map placeC).getD k [] = placeC a[k]:=map_getD hk
    have hg2:(b.map placeC).getD k [] = placeC b[k]:=map_getD hkb
    (refine WV_skip ?_; simp only [go_sem])
    refine WV_seq_ (WV_block (WV_seq_ ?_))
    (refine WV_op ?_; simp only [go_sem,hP,hg,hg2,placeC,pr_eq,List.length_map,Int.toNat_natCast,Int.ofNat_lt,hk,hkb,Int.natCast_nonneg]; (repeat refine qJ ?_))
    by_cases he:a[k] = b[k]
    ·(refine WV_cond rfl (fun h => ?_) (fun h => ?_))
     ·simp [he] at h
     ·(repeat ((first | refine Va ?_ | refine Vb ?_ | refine Vc ?_ | refine Vd ?_ | refine Ve ?_ | refine Vf ?_); (try simp only [go_sem,hP,hw2]); (repeat refine qJ ?_)))
      refine ⟨k + 1,⟨by omega,fun m hm hm2 hmk => ?_⟩,by omega,?_⟩
      ·by_cases e2:m = k
       ·subst e2; exact he
       ·exact hke m hm hm2 (by omega)
      ·exact Sub_au
    ·have hne:(a == b) = false:=by
      rw [beq_eq_false_iff_ne]
      rintro rfl
      exact he rfl
     rw [hne]
     (refine WV_cond rfl (fun h => ?_) (fun h => ?_))
     ·(repeat ((first | refine Va ?_ | refine Vb ?_ | refine Vc ?_ | refine Vd ?_ | refine Ve ?_ | refine Vf ?_); (try simp only [go_sem,hP]); (repeat refine qJ ?_)))
      (refine WV_ret ?_; simp only [thenQ,inQ,RetQ,RetOk,resAll,resA]; simp only [go_sem,tupA,AV.port,AV.portL,exists_eq_left']; (first | exact AVle.of rfl | refine AVle.of ?_ | skip))
     ·simp at h; exact (he (Prod.ext h.1 h.2)).elim
   ·have hk:k = a.length:=by simp at h; omega
    subst hk
    have heq:(a == b) = true:=by
     rw [beq_iff_eq]
     exact List.ext_getElem hlen fun m h1 h2 => hke m h1 h2 h1
    rw [heq]
    (repeat ((first | refine Va ?_ | refine Vb ?_ | refine Vc ?_ | refine Vd ?_ | refine Ve ?_ | refine Vf ?_); (try simp only [go_sem,hP]); (repeat refine qJ ?_)))
    (refine WV_ret ?_; simp only [thenQ,inQ,RetQ,RetOk,resAll,resA]; simp only [go_sem,tupA,AV.port,AV.portL,exists_eq_left']; (first | exact AVle.of rfl | refine AVle.of ?_ | skip))
 ·have hne:(a == b) = false:=by
   rw [beq_eq_false_iff_ne]
   rintro rfl
   exact hlen rfl
  rw [hne]
  (refine WV_cond rfl (fun h => ?_) (fun h => ?_))
  ·(repeat ((first | refine Va ?_ | refine Vb ?_ | refine Vc ?_ | refine Vd ?_ | refine Ve ?_ | refine Vf ?_); (try simp only [go_sem,hP]); (repeat refine qJ ?_)))
   (refine WV_ret ?_; simp only [thenQ,inQ,RetQ,RetOk,resAll,resA]; simp only [go_sem,tupA,AV.port,AV.portL,exists_eq_left']; (first | exact AVle.of rfl | refine AVle.of ?_ | skip))
  ·simp at h; omega
end Go.Proofs.YtlmfdmlochpfcaaDoor

namespace Go.Proofs.YtlmfdmlochpfcaaDoor
open Go Go.V
abbrev o37_0:List Ins:=[⟨some 2,.mv (.k (.c (.int .i64 0))),none,true⟩,
 ⟨some 3,.mv (.k (.c (.int .i64 0))),none,true⟩]
abbrev o37_1:List Ins:=[⟨some 12,.mks 3 1 8 [(.c (.int .i64 0))] (.k (.c (.int .i64 140))) (.k (.c (.int .i64 140))),none,true⟩,
 ⟨some 4,.mv (.t 12),none,true⟩]
abbrev o37_2:List Ins:=[⟨some 5,.mv (.k (.c (.int .i64 41))),none,true⟩]
abbrev o37_3:List Ins:=[⟨some 6,.mv (.k (.c (.int .i64 0))),none,true⟩]
abbrev o37_4:List Ins:=[⟨some 13,.mv (.t 6),none,true⟩,
 ⟨some 14,.mv (.t 0),none,true⟩,
 ⟨some 15,.len (.t 14),none,true⟩,
 ⟨some 16,.bin .lss (.t 13) (.t 15),none,true⟩]
abbrev v37_5:VC:=(.cond (.t 16) .skip (.exit 0))
abbrev o37_6:List Ins:=[⟨some 19,.mv (.t 4),none,false⟩,
 ⟨some 20,.mv (.t 0),none,false⟩,
 ⟨some 21,.mv (.t 6),none,false⟩,
 ⟨some 22,.ia 2 (.t 20) (.t 21),none,false⟩,
 ⟨some 23,.fa 0 (.t 22),none,false⟩,
 ⟨some 24,.ld true 1 (.t 23),none,false⟩,
 ⟨some 25,.mv (.t 4),none,false⟩,
 ⟨some 26,.mv (.t 5),none,false⟩,
 ⟨some 27,.mv (.t 0),none,false⟩,
 ⟨some 28,.mv (.t 6),none,false⟩,
 ⟨some 29,.ia 2 (.t 27) (.t 28),none,false⟩,
 ⟨some 30,.fa 1 (.t 29),none,false⟩,
 ⟨some 31,.ld true 1 (.t 30),none,false⟩,
 ⟨some 32,.bin .add (.t 26) (.t 31),none,false⟩,
 ⟨some 33,.mv (.t 0),none,false⟩,
 ⟨some 34,.mv (.t 6),none,false⟩,
 ⟨some 35,.ia 2 (.t 33) (.t 34),none,false⟩,
 ⟨some 36,.fa 0 (.t 35),none,false⟩,
 ⟨some 37,.ld true 1 (.t 36),none,false⟩,
 ⟨some 38,.bin .add (.k (.c (.int .i64 1))) (.t 37),none,false⟩,
 ⟨some 39,.mv (.t 5),none,false⟩,
 ⟨some 40,.bin .add (.k (.c (.int .i64 1))) (.t 39),none,false⟩,
 ⟨some 41,.mv (.t 0),none,false⟩,
 ⟨some 42,.mv (.t 6),none,false⟩,
 ⟨some 43,.ia 2 (.t 41) (.t 42),none,false⟩,
 ⟨some 44,.fa 1 (.t 43),none,false⟩,
 ⟨some 45,.ld true 1 (.t 44),none,false⟩,
 ⟨some 46,.bin .add (.t 40) (.t 45),none,false⟩,
 ⟨some 47,.ia 1 (.t 19) (.t 24),none,false⟩,
 ⟨none,.st 1 (.t 47) (.t 38),none,false⟩,
 ⟨some 48,.ia 1 (.t 25) (.t 32),none,true⟩,
 ⟨none,.st 1 (.t 48) (.t 46),none,true⟩]
abbrev o37_7:List Ins:=[⟨some 17,.mv (.t 6),none,true⟩,
 ⟨some 18,.bin .add (.t 17) (.k (.c (.int .i64 1))),none,true⟩,
 ⟨some 6,.mv (.t 18),none,true⟩]
abbrev v37_8:VC:=(.seq (.block 1 (.dops o37_6)) (.ops o37_7))
abbrev v37_9:VC:=(.seq (.seq (.ops o37_4) v37_5) v37_8)
-- K37_1: changed and kept: [6]
abbrev v37_10:VC:=(.loop v37_9)
abbrev v37_11:VC:=(.block 0 v37_10)
abbrev o37_12:List Ins:=[⟨some 7,.mv (.k (.c (.bool true))),none,true⟩]
abbrev o37_13:List Ins:=[⟨some 49,.mv (.t 7),none,true⟩]
abbrev v37_14:VC:=(.cond (.t 49) .skip (.exit 2))
abbrev o37_15:List Ins:=[⟨some 7,.mv (.k (.c (.bool false))),none,true⟩]
abbrev o37_16:List Ins:=[⟨some 8,.mv (.k (.c (.int .i64 0))),none,true⟩]
abbrev o37_17:List Ins:=[⟨some 50,.mv (.t 8),none,true⟩,
 ⟨some 51,.mv (.t 0),none,true⟩,
 ⟨some 52,.len (.t 51),none,true⟩,
 ⟨some 53,.bin .lss (.t 50) (.t 52),none,true⟩]
abbrev v37_18:VC:=(.cond (.t 53) .skip (.exit 4))
abbrev o37_19:List Ins:=[⟨some 56,.mv (.t 4),none,false⟩,
 ⟨some 57,.mv (.t 0),none,false⟩,
 ⟨some 58,.mv (.t 8),none,false⟩,
 ⟨some 59,.ia 2 (.t 57) (.t 58),none,false⟩,
 ⟨some 60,.fa 0 (.t 59),none,false⟩,
 ⟨some 61,.ld true 1 (.t 60),none,false⟩,
 ⟨some 62,.ia 1 (.t 56) (.t 61),none,false⟩,
 ⟨some 63,.ld true 1 (.t 62),none,false⟩,
 ⟨some 64,.mv (.t 4),none,false⟩,
 ⟨some 65,.mv (.t 5),none,false⟩,
 ⟨some 66,.mv (.t 0),none,false⟩,
 ⟨some 67,.mv (.t 8),none,false⟩,
 ⟨some 68,.ia 2 (.t 66) (.t 67),none,false⟩,
 ⟨some 69,.fa 1 (.t 68),none,false⟩,
 ⟨some 70,.ld true 1 (.t 69),none,false⟩,
 ⟨some 71,.bin .add (.t 65) (.t 70),none,false⟩,
 ⟨some 72,.ia 1 (.t 64) (.t 71),none,false⟩,
 ⟨some 73,.ld true 1 (.t 72),none,false⟩,
 ⟨some 9,.mv (.t 63),none,false⟩,
 ⟨some 10,.mv (.t 73),none,true⟩]
abbrev o37_20:List Ins:=[⟨some 74,.mv (.t 9),none,true⟩,
 ⟨some 75,.mv (.t 10),none,true⟩,
 ⟨some 76,.bin .neq (.t 74) (.t 75),none,true⟩]
abbrev o37_21:List Ins:=[⟨some 77,.mv (.t 4),none,false⟩,
 ⟨some 78,.mv (.t 0),none,false⟩,
 ⟨some 79,.mv (.t 8),none,false⟩,
 ⟨some 80,.ia 2 (.t 78) (.t 79),none,false⟩,
 ⟨some 81,.fa 0 (.t 80),none,false⟩,
 ⟨some 82,.ld true 1 (.t 81),none,false⟩,
 ⟨some 83,.mv (.t 4),none,false⟩,
 ⟨some 84,.mv (.t 5),none,false⟩,
 ⟨some 85,.mv (.t 0),none,false⟩,
 ⟨some 86,.mv (.t 8),none,false⟩,
 ⟨some 87,.ia 2 (.t 85) (.t 86),none,false⟩,
 ⟨some 88,.fa 1 (.t 87),none,false⟩,
 ⟨some 89,.ld true 1 (.t 88),none,false⟩,
 ⟨some 90,.bin .add (.t 84) (.t 89),none,false⟩,
 ⟨some 91,.mv (.t 9),none,false⟩,
 ⟨some 92,.mv (.t 10),none,false⟩,
 ⟨some 93,.mm false (.t 91) (.t 92),none,false⟩,
 ⟨some 94,.mv (.t 9),none,false⟩,
 ⟨some 95,.mv (.t 10),none,false⟩,
 ⟨some 96,.mm false (.t 94) (.t 95),none,false⟩,
 ⟨some 97,.ia 1 (.t 77) (.t 82),none,false⟩,
 ⟨none,.st 1 (.t 97) (.t 93),none,false⟩,
 ⟨some 98,.ia 1 (.t 83) (.t 90),none,true⟩,
 ⟨none,.st 1 (.t 98) (.t 96),none,true⟩]
abbrev o37_22:List Ins:=[⟨some 7,.mv (.k (.c (.bool true))),none,true⟩]
abbrev v37_23:VC:=(.seq (.dops o37_21) (.ops o37_22))
abbrev v37_24:VC:=(.cond (.t 76) v37_23 .skip)
abbrev v37_25:VC:=(.seq (.ops o37_20) v37_24)
abbrev v37_26:VC:=(.seq (.dops o37_19) v37_25)
abbrev o37_27:List Ins:=[⟨some 54,.mv (.t 8),none,true⟩,
 ⟨some 55,.bin .add (.t 54) (.k (.c (.int .i64 1))),none,true⟩,
 ⟨some 8,.mv (.t 55),none,true⟩]
abbrev v37_28:VC:=(.seq (.block 5 v37_26) (.ops o37_27))
abbrev v37_29:VC:=(.seq (.seq (.ops o37_17) v37_18) v37_28)
-- K37_3: changed and kept: [8,7]
abbrev v37_30:VC:=(.loop v37_29)
abbrev v37_31:VC:=(.block 4 v37_30)
abbrev v37_32:VC:=(.seq (.ops o37_16) v37_31)
abbrev v37_33:VC:=(.seq (.ops o37_15) v37_32)
abbrev v37_34:VC:=(.block 3 v37_33)
abbrev v37_35:VC:=(.seq (.seq (.ops o37_13) v37_14) v37_34)
-- K37_2: changed and kept: [7]
abbrev v37_36:VC:=(.loop v37_35)
abbrev v37_37:VC:=(.block 2 v37_36)
abbrev o37_38:List Ins:=[⟨some 11,.mv (.k (.c (.int .i64 0))),none,true⟩]
abbrev o37_39:List Ins:=[⟨some 99,.mv (.t 11),none,true⟩,
 ⟨some 100,.mv (.t 4),none,true⟩,
 ⟨some 101,.len (.t 100),none,true⟩,
 ⟨some 102,.bin .lss (.t 99) (.t 101),none,true⟩]
abbrev v37_40:VC:=(.cond (.t 102) .skip (.exit 6))
abbrev o37_41:List Ins:=[⟨some 105,.mv (.t 4),none,true⟩,
 ⟨some 106,.mv (.t 11),none,true⟩,
 ⟨some 107,.ia 1 (.t 105) (.t 106),none,true⟩,
 ⟨some 108,.ld true 1 (.t 107),none,true⟩,
 ⟨some 109,.bin .gtr (.t 108) (.k (.c (.int .i64 0))),none,true⟩]
abbrev o37_42:List Ins:=[⟨some 110,.mv (.t 2),none,true⟩,
 ⟨some 111,.bin .add (.t 110) (.k (.c (.int .i64 1))),none,true⟩,
 ⟨some 2,.mv (.t 111),none,true⟩]
abbrev v37_43:VC:=(.cond (.t 109) (.ops o37_42) .skip)
abbrev o37_44:List Ins:=[⟨some 112,.mv (.t 4),none,true⟩,
 ⟨some 113,.mv (.t 11),none,true⟩,
 ⟨some 114,.ia 1 (.t 112) (.t 113),none,true⟩,
 ⟨some 115,.ld true 1 (.t 114),none,true⟩,
 ⟨some 116,.mv (.t 11),none,true⟩,
 ⟨some 117,.bin .add (.k (.c (.int .i64 1))) (.t 116),none,true⟩,
 ⟨some 118,.bin .eql (.t 115) (.t 117),none,true⟩]
abbrev o37_45:List Ins:=[⟨some 119,.mv (.t 3),none,true⟩,
 ⟨some 120,.bin .add (.t 119) (.k (.c (.int .i64 1))),none,true⟩,
 ⟨some 3,.mv (.t 120),none,true⟩]
abbrev v37_46:VC:=(.cond (.t 118) (.ops o37_45) .skip)
abbrev v37_47:VC:=(.seq (.ops o37_44) v37_46)
abbrev v37_48:VC:=(.seq (.seq (.ops o37_41) v37_43) v37_47)
abbrev o37_49:List Ins:=[⟨some 103,.mv (.t 11),none,true⟩,
 ⟨some 104,.bin .add (.t 103) (.k (.c (.int .i64 1))),none,true⟩,
 ⟨some 11,.mv (.t 104),none,true⟩]
abbrev v37_50:VC:=(.seq (.block 7 v37_48) (.ops o37_49))
abbrev v37_51:VC:=(.seq (.seq (.ops o37_39) v37_40) v37_50)
-- K37_4: changed and kept: [11,2,3]
abbrev v37_52:VC:=(.loop v37_51)
abbrev v37_53:VC:=(.block 6 v37_52)
abbrev o37_54:List Ins:=[⟨some 121,.mv (.t 2),none,true⟩,
 ⟨some 122,.mv (.t 3),none,true⟩,
 ⟨some 2,.mv (.t 121),none,true⟩,
 ⟨some 3,.mv (.t 122),none,true⟩]
abbrev v37_55:VC:=(.seq (.ops o37_54) .ret)
abbrev v37_56:VC:=(.seq (.seq (.ops o37_38) v37_53) v37_55)
abbrev v37_57:VC:=(.seq (.seq (.ops o37_12) v37_37) v37_56)
abbrev v37_58:VC:=(.seq (.seq (.ops o37_3) v37_11) v37_57)
abbrev v37_59:VC:=(.seq (.ops o37_2) v37_58)
abbrev v37_60:VC:=(.seq (.ops o37_1) v37_59)
def ir37:FC:=⟨1,123,[.t 2,.t 3],(.seq (.ops o37_0) v37_60)⟩
theorem c37:compM Tryd.prog [] 37 = some ir37:=by kernel_rfl
attribute [local go_sem] Nat.reduceEqDiff Nat.reduceAdd Nat.reduceMul reduceIte Nat.reduceLeDiff Nat.reduceLT Nat.reduceBEq reduceCtorEq
theorem mks_zero' (n:Nat):(List.replicate n [AV.c (CD.int .i64 0)]).flatten = cellsG icds (List.replicate n 0) 0:=by
 induction n with
 | zero => rfl
 | succ n ih => rw [List.replicate_succ,List.flatten_cons,ih,List.replicate_succ]; rfl
def linesN (ms:List (Nat × Nat)):Nat:=linesL (lab0 ms) 140
noncomputable def groupsN (ms:List (Nat × Nat)):Int:=((circ ms).length:Int) + (linesN ms:Int) - (ms.length:Int)
theorem lab_lines {ms:List (Nat × Nat)} {L L':List Int} (h:Lab ms L) (h':Lab ms L'):linesL L 140 = linesL L' 140:=by
 unfold linesL
 congr 1
 refine List.filter_congr fun x hx => ?_
 have hx:=List.mem_range.1 hx
 by_cases ht:touch ms x
 ·obtain ⟨y,_,y2,_⟩:=h.some x hx ht
  obtain ⟨z,_,z2,_⟩:=h'.some x hx ht
  rw [decide_eq_true (by omega),decide_eq_true (by omega)]
 ·rw [h.non x hx ht,h'.non x hx ht]
theorem groups_end {ms:List (Nat × Nat)} (h:InB ms) {L:List Int} (hL:Lab ms L) (he:∀ m ∈ ms,L.getD m.1 0 = L.getD (41 + m.2) 0):linesL L 140 = linesN ms ∧ (groupsL L 140:Int) = groupsN ms:=by
 have h1:=lab_lines hL (lab0_ok h)
 have h2:=circ_lab h hL he
 refine ⟨h1,?_⟩
 unfold groupsN linesN
 omega
theorem linesL_le (L:List Int) (k:Nat):linesL L k ≤ k:=by
 have:=List.length_filter_le (fun i => decide (L.getD i 0 > 0)) (List.range k)
 rwa [List.length_range] at this
theorem groupsL_le (L:List Int) (k:Nat):groupsL L k ≤ k:=by
 have:=List.length_filter_le (fun i => L.getD i 0 == 1 + (i:Int)) (List.range k)
 rwa [List.length_range] at this
theorem lcells_get {L:List Int} {k:Nat} (h:k < L.length) (x:AV):(cellsG icds L 0).getD k x = iv (L.getD k 0):=by
 rw [icell h,List.getD_eq_getElem?_getD,List.getElem?_eq_getElem h]; rfl
theorem lcells_set {L:List Int} {k:Nat} (h:k < L.length) (v:Int):(cellsG icds L 0).set k (iv v) = cellsG icds (L.set k v) 0:=by
 have hcs:=cellsG_set (cds:=icds) icds_one (l:=L) (k:=k) h 0 0 (by decide) (.int .i64 v) v rfl
 rwa [Nat.mul_one,Nat.add_zero] at hcs
theorem lcells_len {L:List Int}:(cellsG icds L 0).length = L.length:=by rw [cellsG_len icds_one]; omega
set_option maxRecDepth 20000 in
set_option maxHeartbeats 16000000 in
theorem groups37 (ms:List (Nat × Nat)) (hin:InB ms) (hl:ms.length ≤ 2000):FSpec Tryd.prog 37 [.c (marksC ms)] (.tup [iv (linesN ms),iv (groupsN ms)]):=by
 have hmax:maxLen = 9223372036854775807:=rfl
 refine FSpec_of c37 (Nat.le_refl _) (by decide) fun C hP hN hC hL => ?_; rw [init_st]
 simp only [ir37,marksC]
 refine WV_seq_ ?_
 (refine WV_op ?_; simp only [go_sem,hP]; (repeat refine qJ ?_))
 refine WV_seq_ ?_
 (refine WV_op ?_; simp only [go_sem,hP,mks_zero']; (repeat refine qJ ?_))
 rw [show Int.toNat 140 = 140 from rfl,show List.replicate 140 (0:Int) = lab0 [] from rfl]
 have hrg:∀ {L:List Int},Lab ms L → ∀ x:Nat,0 ≤ L.getD x 0 ∧ L.getD x 0 ≤ 140:=fun hL x => lab_nn hL x
 have hwc:∀ m:Nat × Nat,m ∈ ms → Go.IntKind.wrap .i64 ((41:Int) + (m.2:Int)) = (41:Int) + (m.2:Int):=fun m hm => w64 (by have:=hin m hm; omega) (by have:=hin m hm; omega)
 (repeat ((first | refine Va ?_ | refine Vb ?_ | refine Vc ?_ | refine Vd ?_ | refine Ve ?_ | refine Vf ?_); (try simp only [go_sem,hP]); (repeat refine qJ ?_)))
 refine WV_loopS (fun k:Nat => ⟨upd (upd (upd (upd (upd (upd e0 0 (.c (.sl 2 (ms.map mcd)))) 2 (iv 0)) 3 (iv 0)) 4 (.vw 1 12 0 140 140)) 5 (iv 41)) 6 (iv k),upd o0 12 (.box (cellsG icds (lab0 (ms.take k)) 0))⟩) (fun k => k ≤ ms.length) (fun k => ms.length - k) 0 (Nat.zero_le _) ?_ ?_
 ·exact Sub_au
 ·intro k hk0
  (repeat ((first | refine Va ?_ | refine Vb ?_ | refine Vc ?_ | refine Vd ?_ | refine Ve ?_ | refine Vf ?_); (try simp only [go_sem,hP,List.length_map]); (repeat refine qJ ?_)))
  (refine WV_cond rfl (fun h => ?_) (fun h => ?_))
  ·have hk:k < ms.length:=by simpa using h
   have hw2:=w64 (n:=(k:Int) + 1) (by omega) (by omega)
   have hm:=hin _ (List.getElem_mem hk)
   have hgd:(List.map mcd ms).getD k [] = mcd ms[k]:=map_getD hk
   have hsn:=lab0_snoc (ms.take k) ms[k]
   rw [← List.take_succ_eq_append_getElem hk] at hsn
   generalize ms[k] = m at hm hgd hsn
   have hl0:=lab0_len (ms.take k)
   generalize lab0 (ms.take k) = L at hsn hl0
   have h1:m.1 < (cellsG icds L 0).length:=by rw [lcells_len,hl0]; omega
   have h1b:m.1 < 140:=by omega
   have hL1:(L.set m.1 (1 + (m.1:Int))).length = 140:=by rw [List.length_set,hl0]
   have h2:41 + m.2 < (cellsG icds (L.set m.1 (1 + (m.1:Int))) 0).length:=by rw [lcells_len,hL1]; omega
   have h2b:41 + m.2 < 140:=by omega
   have hct:((41:Int) + (m.2:Int)).toNat = 41 + m.2:=by omega
   have hw3:=w64 (n:=(41:Int) + (m.2:Int)) (by omega) (by omega)
   have hw4:=w64 (n:=(1:Int) + (m.1:Int)) (by omega) (by omega)
   have hw5:=w64 (n:=(42:Int) + (m.2:Int)) (by omega) (by omega)
   have e1:=lcells_set (L:=L) (k:=m.1) (by omega) (1 + (m.1:Int))
   have e2:=lcells_set (L:=L.set m.1 (1 + (m.1:Int))) (k:=41 + m.2) (by omega) (42 + (m.2:Int))
   (refine WV_skip ?_; simp only [go_sem])
   refine WV_seq_ (WV_block ?_)
   have hw6:Go.IntKind.wrap .i64 (1 + 41) = 42:=by decide
   (refine WV_op ?_; simp only [go_sem,hP,hgd,mcd,List.length_map,Int.toNat_natCast,Int.ofNat_lt,hk,Int.natCast_nonneg,hw3,hw4,hw5,hw6,hct,Nat.mul_one,Nat.zero_add,Nat.add_zero,h1,h1b,h2,h2b,e1,e2]; (repeat refine qJ ?_))
   (repeat ((first | refine Va ?_ | refine Vb ?_ | refine Vc ?_ | refine Vd ?_ | refine Ve ?_ | refine Vf ?_); (try simp only [go_sem,hP,hw2]); (repeat refine qJ ?_)))
   refine ⟨k + 1,by omega,by omega,?_⟩
   rw [hsn]
   exact Sub_au
  ·have hk:k = ms.length:=by simp at h; omega
   subst hk
   rw [List.take_length]
   refine WV_exit ?_
   simp only [thenQ,inQ,reduceIte,beq_self_eq_true]
   have hlab:=lab0_ok hin
   generalize lab0 ms = L0 at hlab
   (repeat ((first | refine Va ?_ | refine Vb ?_ | refine Vc ?_ | refine Vd ?_ | refine Ve ?_ | refine Vf ?_); (try simp only [go_sem,hP]); (repeat refine qJ ?_)))
   refine WV_loopS (fun p:List Int × Bool => ⟨upd (upd (upd (upd (upd (upd e0 0 (.c (.sl 2 (ms.map mcd)))) 2 (iv 0)) 3 (iv 0)) 4 (.vw 1 12 0 140 140)) 5 (iv 41)) 7 (bv p.2),upd o0 12 (.box (cellsG icds p.1 0))⟩) (fun p => Lab ms p.1 ∧ (p.2 = false → ∀ m ∈ ms,p.1.getD m.1 0 = p.1.getD (41 + m.2) 0)) (fun p => 2 * (sumZ p.1).toNat + p.2.toNat) (L0,true) ⟨hlab,fun h => by cases h⟩ ?_ ?_
   ·exact Sub_au
   clear hlab
   clear L0
   rintro ⟨L,a⟩ ⟨hL,ha⟩
   simp only at hL ha ⊢
   (repeat ((first | refine Va ?_ | refine Vb ?_ | refine Vc ?_ | refine Vd ?_ | refine Ve ?_ | refine Vf ?_); (try simp only [go_sem,hP]); (repeat refine qJ ?_)))
   cases a
   ·(refine WV_cond rfl (fun h => ?_) (fun h => ?_))
    ·simp at h
    have he:=groups_end hin hL (ha rfl)
    refine WV_exit ?_
    simp only [thenQ,inQ,reduceIte,beq_self_eq_true]
    (repeat ((first | refine Va ?_ | refine Vb ?_ | refine Vc ?_ | refine Vd ?_ | refine Ve ?_ | refine Vf ?_); (try simp only [go_sem,hP]); (repeat refine qJ ?_)))
    refine WV_loopS (fun k:Nat => ⟨upd (upd (upd (upd e0 4 (.vw 1 12 0 140 140)) 11 (iv k)) 2 (iv (linesL L k))) 3 (iv (groupsL L k)),upd o0 12 (.box (cellsG icds L 0))⟩) (fun k => k ≤ 140) (fun k => 140 - k) 0 (Nat.zero_le _) ?_ ?_
    ·(refine Sub_of (by simp only [go_sem]; ((repeat' (first | exact EnvLe_e0 _ _ | refine EnvLe_upd ?_ ?_)) <;> ((try simp only [upd_app,e0_app,o0_app,Nat.reduceEqDiff,reduceIte]); first | exact AWk.refl _ _ | exact AWk.int (by omega) | exact AWk.int (by rw [w64 (by omega) (by omega)]; omega) | exact AWk.grow rfl | exact AWk.nil _ | exact AWk.of (by simp [linesL,groupsL])))) (by simp only [go_sem]; exact ObjLe_au))
    intro k hk0
    have hll:=linesL_le L k
    have hgl:=groupsL_le L k
    have hlk:=linesL_succ L k
    have hgk:=groupsL_succ L k
    (repeat ((first | refine Va ?_ | refine Vb ?_ | refine Vc ?_ | refine Vd ?_ | refine Ve ?_ | refine Vf ?_); (try simp only [go_sem,hP]); (repeat refine qJ ?_)))
    (refine WV_cond rfl (fun h => ?_) (fun h => ?_))
    ·have hk:k < 140:=by simp at h; omega
     have hw2:=w64 (n:=(k:Int) + 1) (by omega) (by omega)
     have hw3:=w64 (n:=(linesL L k:Int) + 1) (by omega) (by omega)
     have hw4:=w64 (n:=(groupsL L k:Int) + 1) (by omega) (by omega)
     have hw5:=w64 (n:=(1:Int) + (k:Int)) (by omega) (by omega)
     have hkl:k < (cellsG icds L 0).length:=by rw [lcells_len,hL.len]; exact hk
     have hge:=fun x => lcells_get (L:=L) (k:=k) (by rw [hL.len]; exact hk) x
     generalize linesL L k = A at *
     generalize groupsL L k = B at *
     generalize hA':linesL L (k + 1) = A' at *
     generalize hB':groupsL L (k + 1) = B' at *
     generalize L.getD k 0 = v at *
     (refine WV_skip ?_; simp only [go_sem])
     refine WV_seq_ (WV_block (WV_mid ⟨upd (upd (upd (upd e0 4 (.vw 1 12 0 140 140)) 11 (iv k)) 2 (iv A')) 3 (iv B),upd o0 12 (.box (cellsG icds L 0))⟩ ?_ ?_))
     ·refine WV_seq_ ?_
      (refine WV_op ?_; simp only [go_sem,hP,Int.toNat_natCast,Int.ofNat_lt,hk,Int.natCast_nonneg,Nat.mul_one,Nat.zero_add,Nat.add_zero,hkl,hge]; (repeat refine qJ ?_))
      by_cases hv:v > 0
      ·rw [if_pos hv] at hlk
       subst hlk
       (refine WV_cond rfl (fun h => ?_) (fun h => ?_))
       ·(repeat ((first | refine Va ?_ | refine Vb ?_ | refine Vc ?_ | refine Vd ?_ | refine Ve ?_ | refine Vf ?_); (try simp only [go_sem,hP,hw3]); (repeat refine qJ ?_)))
        exact Sub_au
       ·simp at h; omega
      ·rw [if_neg hv,Nat.add_zero] at hlk
       subst hlk
       (refine WV_cond rfl (fun h => ?_) (fun h => ?_))
       ·simp at h; omega
       ·(refine WV_skip ?_; simp only [go_sem])
        exact Sub_au
     refine WV_seq_ ?_
     (refine WV_op ?_; simp only [go_sem,hP,Int.toNat_natCast,Int.ofNat_lt,hk,Int.natCast_nonneg,Nat.mul_one,Nat.zero_add,Nat.add_zero,hkl,hge,hw5]; (repeat refine qJ ?_))
     by_cases hv:v = 1 + (k:Int)
     ·rw [if_pos hv] at hgk
      subst hgk
      (refine WV_cond rfl (fun h => ?_) (fun h => ?_))
      ·(repeat ((first | refine Va ?_ | refine Vb ?_ | refine Vc ?_ | refine Vd ?_ | refine Ve ?_ | refine Vf ?_); (try simp only [go_sem,hP,hw4,hw2]); (repeat refine qJ ?_)))
       refine ⟨k + 1,by omega,by omega,?_⟩
       rw [hA',hB']
       exact Sub_au
      ·simp at h; exact (h hv).elim
     ·rw [if_neg hv,Nat.add_zero] at hgk
      subst hgk
      (refine WV_cond rfl (fun h => ?_) (fun h => ?_))
      ·simp at h; exact (hv h).elim
      ·(repeat ((first | refine Va ?_ | refine Vb ?_ | refine Vc ?_ | refine Vd ?_ | refine Ve ?_ | refine Vf ?_); (try simp only [go_sem,hP,hw2]); (repeat refine qJ ?_)))
       refine ⟨k + 1,by omega,by omega,?_⟩
       rw [hA',hB']
       exact Sub_au
    ·have hk:k = 140:=by simp at h; omega
     subst hk
     rw [he.1,he.2]
     (repeat ((first | refine Va ?_ | refine Vb ?_ | refine Vc ?_ | refine Vd ?_ | refine Ve ?_ | refine Vf ?_); (try simp only [go_sem,hP]); (repeat refine qJ ?_)))
     (refine WV_ret ?_; simp only [thenQ,inQ,RetQ,RetOk,resAll,resA]; simp only [go_sem,tupA,AV.port,AV.portL,exists_eq_left']; (first | exact AVle.of rfl | refine AVle.of ?_ | skip))
   ·(refine WV_cond rfl (fun h => ?_) (fun h => ?_))
    case refine_2 => simp at h
    (refine WV_skip ?_; simp only [go_sem])
    (repeat ((first | refine Va ?_ | refine Vb ?_ | refine Vc ?_ | refine Vd ?_ | refine Ve ?_ | refine Vf ?_); (try simp only [go_sem,hP]); (repeat refine qJ ?_)))
    refine WV_loopS (fun p:Nat × List Int × Bool => ⟨upd (upd (upd (upd (upd (upd (upd e0 0 (.c (.sl 2 (ms.map mcd)))) 2 (iv 0)) 3 (iv 0)) 4 (.vw 1 12 0 140 140)) 5 (iv 41)) 7 (bv p.2.2)) 8 (iv p.1),upd o0 12 (.box (cellsG icds p.2.1 0))⟩) (fun p => p.1 ≤ ms.length ∧ Lab ms p.2.1 ∧ (p.2.2 = false → p.2.1 = L ∧ ∀ m ∈ ms.take p.1,L.getD m.1 0 = L.getD (41 + m.2) 0) ∧ (p.2.2 = true → sumZ p.2.1 < sumZ L)) (fun p => ms.length - p.1) (0,L,false) ⟨Nat.zero_le _,hL,fun _ => ⟨rfl,fun m hm => by cases hm⟩,fun h => by cases h⟩ ?_ ?_
    ·exact Sub_au
    rintro ⟨k,L',b⟩ ⟨hk0,hL',hb1,hb2⟩
    simp only at hk0 hL' hb1 hb2 ⊢
    (repeat ((first | refine Va ?_ | refine Vb ?_ | refine Vc ?_ | refine Vd ?_ | refine Ve ?_ | refine Vf ?_); (try simp only [go_sem,hP,List.length_map]); (repeat refine qJ ?_)))
    (refine WV_cond rfl (fun h => ?_) (fun h => ?_))
    ·have hk:k < ms.length:=by simpa using h
     have hw2:=w64 (n:=(k:Int) + 1) (by omega) (by omega)
     have hm:=hin _ (List.getElem_mem hk)
     have hmm:=List.getElem_mem hk
     have hgd:(List.map mcd ms).getD k [] = mcd ms[k]:=map_getD hk
     have hts:=List.take_succ_eq_append_getElem hk
     generalize ms[k] = m at hm hgd hmm hts
     have hl0:=hL'.len
     have h1:m.1 < (cellsG icds L' 0).length:=by rw [lcells_len,hl0]; omega
     have h1b:m.1 < 140:=by omega
     have h2:41 + m.2 < (cellsG icds L' 0).length:=by rw [lcells_len,hl0]; omega
     have h2b:41 + m.2 < 140:=by omega
     have hct:((41:Int) + (m.2:Int)).toNat = 41 + m.2:=by omega
     have hw3:=w64 (n:=(41:Int) + (m.2:Int)) (by omega) (by omega)
     have q1:=fun x => lcells_get (L:=L') (k:=m.1) (by omega) x
     have q2:=fun x => lcells_get (L:=L') (k:=41 + m.2) (by omega) x
     have hstep:=lab_step hin hL' hmm
     generalize hA:L'.getD m.1 0 = A at *
     generalize hB:L'.getD (41 + m.2) 0 = B at *
     (refine WV_skip ?_; simp only [go_sem])
     refine WV_seq_ (WV_block (WV_seq_ ?_))
     (refine WV_op ?_; simp only [go_sem,hP,hgd,mcd,List.length_map,Int.toNat_natCast,Int.ofNat_lt,hk,Int.natCast_nonneg,hw3,hct,Nat.mul_one,Nat.zero_add,Nat.add_zero,h1,h1b,h2,h2b,q1,q2]; (repeat refine qJ ?_))
     refine WV_seq_ ?_
     (refine WV_op ?_; simp only [go_sem,hP]; (repeat refine qJ ?_))
     by_cases hab:A = B
     ·(refine WV_cond rfl (fun h => ?_) (fun h => ?_))
      ·simp [hab] at h
      ·(refine WV_skip ?_; simp only [go_sem])
       (repeat ((first | refine Va ?_ | refine Vb ?_ | refine Vc ?_ | refine Vd ?_ | refine Ve ?_ | refine Vf ?_); (try simp only [go_sem,hP,hw2]); (repeat refine qJ ?_)))
       refine ⟨(k + 1,L',b),⟨by simp only; omega,hL',fun h => ?_,hb2⟩,by simp only; omega,?_⟩
       ·obtain ⟨rfl,e⟩:=hb1 h
        refine ⟨rfl,fun x hx => ?_⟩
        rw [hts] at hx
        rcases List.mem_append.1 hx with hx | hx
        ·exact e x hx
        ·simp only [List.mem_singleton] at hx
         subst hx
         rw [hA,hB,hab]
       ·exact Sub_au
     ·obtain ⟨s1,s2⟩:=hstep hab
      generalize hmn:min A B = M at *
      have hL1:(L'.set m.1 M).length = 140:=by rw [List.length_set,hl0]
      have h3:41 + m.2 < (cellsG icds (L'.set m.1 M) 0).length:=by rw [lcells_len,hL1]; omega
      have e1:=lcells_set (L:=L') (k:=m.1) (by omega) M
      have e2:=lcells_set (L:=L'.set m.1 M) (k:=41 + m.2) (by omega) M
      (refine WV_cond rfl (fun h => ?_) (fun h => ?_))
      ·refine WV_seq_ ?_
       (refine WV_op ?_; simp only [go_sem,hP,hgd,mcd,List.length_map,Int.toNat_natCast,Int.ofNat_lt,hk,Int.natCast_nonneg,hw3,hct,Nat.mul_one,Nat.zero_add,Nat.add_zero,h1,h1b,h2,h2b,h3,e1,e2,hmn]; (repeat refine qJ ?_))
       (repeat ((first | refine Va ?_ | refine Vb ?_ | refine Vc ?_ | refine Vd ?_ | refine Ve ?_ | refine Vf ?_); (try simp only [go_sem,hP,hw2]); (repeat refine qJ ?_)))
       refine ⟨(k + 1,(L'.set m.1 M).set (41 + m.2) M,true),⟨by simp only; omega,s1,fun h => (by cases h),fun _ => ?_⟩,by simp only; omega,?_⟩
       ·cases b
        ·rw [(hb1 rfl).1] at s2; rw [(hb1 rfl).1]; exact s2
        ·have:=hb2 rfl
         simp only; omega
       ·exact Sub_au
      ·simp at h; exact (hab h).elim
    ·have hk:k = ms.length:=by simp at h; omega
     subst hk
     rw [List.take_length] at hb1
     refine WV_exit ?_
     simp only [thenQ,inQ,reduceIte,beq_self_eq_true]
     have hs1:=lab_sum hL
     have hs2:=lab_sum hL'
     refine ⟨(L',b),⟨hL',fun h => ?_⟩,?_,?_⟩
     ·obtain ⟨rfl,e⟩:=hb1 h
      exact e
     ·cases b
      ·rw [(hb1 rfl).1]; simp
      ·have:=hb2 rfl
       simp only
       omega
     ·exact Sub_au
end Go.Proofs.YtlmfdmlochpfcaaDoor

namespace Go.Proofs.YtlmfdmlochpfcaaDoor
open Go Go.V
namespace W
abbrev o62_0:List Ins:=[⟨some 2,.mv (.k (.c (.raw (.slice none 0 0)))),none,true⟩]
abbrev o62_1:List Ins:=[⟨some 3,.mv (.k (.c (.raw (.slice none 0 0)))),none,true⟩]
abbrev o62_2:List Ins:=[⟨some 4,.mv (.k (.c (.int .i64 0))),none,true⟩]
abbrev o62_3:List Ins:=[⟨some 7,.mv (.t 4),none,true⟩,
 ⟨some 8,.mv (.t 0),none,true⟩,
 ⟨some 9,.len (.t 8),none,true⟩,
 ⟨some 10,.bin .lss (.t 7) (.t 9),none,true⟩]
abbrev v62_4:VC:=(.cond (.t 10) .skip (.exit 0))
abbrev o62_5:List Ins:=[⟨some 14,.mv (.t 0),none,true⟩,
 ⟨some 15,.mv (.t 0),none,true⟩,
 ⟨some 16,.mv (.t 4),none,true⟩,
 ⟨some 17,.call (.k (.fn 58 [])) [(.t 15),(.t 16),(.k (.c (.bool true)))],none,true⟩,
 ⟨some 18,.call (.k (.fn 57 [])) [(.t 14),(.t 17)],none,true⟩,
 ⟨some 13,.mv (.t 18),none,true⟩,
 ⟨some 19,.ext (.t 13) 0,none,true⟩,
 ⟨some 20,.ext (.t 13) 1,none,true⟩,
 ⟨some 5,.mv (.t 19),none,true⟩,
 ⟨some 6,.mv (.t 20),none,true⟩]
abbrev o62_6:List Ins:=[⟨some 21,.mv (.t 3),none,true⟩,
 ⟨some 22,.mv (.t 6),none,true⟩,
 ⟨some 23,.app 31 2 16 (.t 21) (.t 22),none,true⟩,
 ⟨some 3,.mv (.t 23),none,true⟩]
abbrev v62_7:VC:=(.seq (.ops o62_5) (.ops o62_6))
abbrev o62_8:List Ins:=[⟨some 11,.mv (.t 4),none,true⟩,
 ⟨some 12,.bin .add (.t 11) (.k (.c (.int .i64 1))),none,true⟩,
 ⟨some 4,.mv (.t 12),none,true⟩]
abbrev v62_9:VC:=(.seq (.block 1 v62_7) (.ops o62_8))
abbrev v62_10:VC:=(.seq (.seq (.ops o62_3) v62_4) v62_9)
-- K62_1: changed and kept: [4,3]
abbrev K62_1:List Nat:=[0]
abbrev v62_11:VC:=(.loop v62_10)
abbrev v62_12:VC:=(.block 0 v62_11)
abbrev o62_13:List Ins:=[⟨some 24,.mv (.t 3),none,true⟩,
 ⟨some 2,.mv (.t 24),none,true⟩]
abbrev v62_14:VC:=(.seq (.ops o62_13) .ret)
abbrev v62_15:VC:=(.seq (.seq (.ops o62_2) v62_12) v62_14)
abbrev v62_16:VC:=(.seq (.ops o62_1) v62_15)
def ir62:FC:=⟨1,25,[.t 2],(.seq (.ops o62_0) v62_16)⟩
theorem c62:compM Tryd.prog [] 62 = some ir62:=by kernel_rfl
end W
attribute [local go_sem] Nat.reduceEqDiff Nat.reduceAdd Nat.reduceMul reduceIte Nat.reduceLeDiff Nat.reduceLT Nat.reduceBEq reduceCtorEq
end Go.Proofs.YtlmfdmlochpfcaaDoor

namespace Go.Proofs.YtlmfdmlochpfcaaDoor
open Go Go.V
def toldG (g:List (List Int)) (f:Nat × Nat → Int) (ws:List (Nat × Nat)):List (List Int):=ws.foldl (fun g m => setG g m (f m)) g
theorem toldG_snoc (g:List (List Int)) (f:Nat × Nat → Int) (ws:List (Nat × Nat)) (m:Nat × Nat):toldG g f (ws ++ [m]) = setG (toldG g f ws) m (f m):=by
 unfold toldG; rw [List.foldl_append]; rfl
theorem toldG_gow {n w:Nat} {g:List (List Int)} {f:Nat × Nat → Int} {ws:List (Nat × Nat)} (hf:∀ m ∈ ws,-1 ≤ f m ∧ f m < 94) (h:GOw n w g):GOw n w (toldG g f ws):=by
 unfold toldG
 induction ws generalizing g with
 | nil => exact h
 | cons m ws ih => exact ih (fun a ha => hf a (by simp [ha])) (setG_ok h m (hf m (by simp)))
theorem toldG_at {n w:Nat} {g:List (List Int)} {f:Nat × Nat → Int} {ws:List (Nat × Nat)} (hf:∀ m ∈ ws,-1 ≤ f m ∧ f m < 94) (h:GOw n w g) {p:Nat × Nat} (h1:p.1 < n) (h2:p.2 < w):(p ∈ ws → valAt (toldG g f ws) p = f p) ∧ (p ∉ ws → valAt (toldG g f ws) p = valAt g p):=by
 unfold toldG
 induction ws generalizing g with
 | nil => exact ⟨fun h => (by cases h),fun _ => rfl⟩
 | cons m ws ih =>
  obtain ⟨i1,i2⟩:=ih (fun a ha => hf a (by simp [ha])) (setG_ok h m (hf m (by simp)))
  have hv:=valAt_set g m p (f m)
  rw [h.len] at hv
  refine ⟨fun hp => ?_,fun hp => ?_⟩
  ·by_cases hw:p ∈ ws
   ·exact i1 hw
   ·have hpm:p = m:=by
     rcases List.mem_cons.1 hp with h | h
     ·exact h
     ·exact (hw h).elim
    show valAt (List.foldl _ (setG g m (f m)) ws) p = f p
    rw [i2 hw,hv,if_pos ⟨hpm.symm,by rw [← hpm]; exact h1,by rw [← hpm,h.row _ h1]; exact h2⟩,hpm]
  ·have hw:p ∉ ws:=fun h => hp (List.mem_cons_of_mem _ h)
   show valAt (List.foldl _ (setG g m (f m)) ws) p = valAt g p
   rw [i2 hw,hv,if_neg fun h => hp (by rw [← h.1]; simp)]
theorem marks_mem {n:Nat} {g:List (List Int)} {p:Nat × Nat}:p ∈ marksG g n ↔ p.1 < n ∧ p.2 < wid g ∧ valAt g p = -1:=by
 unfold marksG
 rw [List.mem_flatMap]
 constructor
 ·rintro ⟨i,hi,hp⟩
  obtain ⟨h1,h2⟩:=lostL_mem.1 hp
  have h1:=posL_row_mem.1 h1
  exact ⟨by rw [h1.1]; exact List.mem_range.1 hi,h1.2,h2⟩
 ·rintro ⟨h1,h2,h3⟩
  exact ⟨p.1,List.mem_range.2 h1,lostL_mem.2 ⟨posL_row_mem.2 ⟨rfl,h2⟩,h3⟩⟩
theorem lostI_marks (g:List (List Int)) (w n:Nat) (hw:wid g = w):lostI g w n = marksG g n:=by
 subst hw; rfl
theorem lost_marks {n w:Nat} {g:List (List Int)} (hw:wid g = w) {p:Nat × Nat}:p ∈ marksG g n ↔ Lost n w g p:=by
 rw [marks_mem,hw]; exact Iff.rfl
theorem circ_free {ms:List (Nat × Nat)} {S:Nat × Nat → Prop} (hc:Clos S) (h1:∀ p,S p → p ∈ ms) (h2:∀ p,S p → p ∉ circ ms):∀ p,¬ S p:=by
 refine forest_clos (tree_fst ms ms.length) hc fun p hp => ?_
 rcases tree_or_circ ms ms.length p (by rw [List.take_length]; exact h1 p hp) with h | h
 ·exact h
 ·exact (h2 p hp h).elim
theorem circ_mem {ms:List (Nat × Nat)} {p:Nat × Nat} (h:p ∈ circ ms):p ∈ ms:=by
 have:=circ_sub ms ms.length p h
 rwa [List.take_length] at this
theorem told_free {n w:Nat} {g g':List (List Int)} (h:GOw n w g) {ms ws:List (Nat × Nat)} (hg:∀ q,Lost n w g' q → Lost n w g q ∧ q ∉ ws) (hm:∀ p,Lost n w (restG n w g) p → p ∈ ms) (hw:∀ p ∈ circ ms,p ∈ ws):∀ S,Clos S → (∀ q,S q → Lost n w g' q) → ∀ p,¬ S p:=by
 intro S hc hS
 have hS2:∀ q,S q → Lost n w g q ∧ q ∉ ws:=fun q hq => hg q (hS q hq)
 exact circ_free (ms:=ms) hc (fun p hp => hm p ((rest_core h p).2 ⟨S,hc,fun q hq => (hS2 q hq).1,hp⟩)) fun p hp hcp => (hS2 p hp).2 (hw p hcp)
theorem toldG_lost {n w:Nat} {g:List (List Int)} {f:Nat × Nat → Int} {ws:List (Nat × Nat)} (hf:∀ m ∈ ws,0 ≤ f m ∧ f m < 94) (h:GOw n w g) {q:Nat × Nat} (hq:Lost n w (toldG g f ws) q):Lost n w g q ∧ q ∉ ws:=by
 have hf2:∀ m ∈ ws,-1 ≤ f m ∧ f m < 94:=fun m hm => by have:=hf m hm; omega
 obtain ⟨h1,h2,h3⟩:=hq
 obtain ⟨t1,t2⟩:=toldG_at hf2 h h1 h2
 have hn:q ∉ ws:=fun hw => by
  rw [t1 hw] at h3
  have:=hf q hw
  omega
 rw [t2 hn] at h3
 exact ⟨⟨h1,h2,h3⟩,hn⟩
theorem rest_none {n w:Nat} {g:List (List Int)} (h:GOw n w g) (h0:∀ S,Clos S → (∀ q,S q → Lost n w g q) → ∀ p,¬ S p):∀ p,¬ Lost n w (restG n w g) p:=fun p hp => by
 obtain ⟨S,hc,hS,hp'⟩:=(rest_core h p).1 hp
 exact h0 S hc hS p hp'
end Go.Proofs.YtlmfdmlochpfcaaDoor

namespace Go.Proofs.YtlmfdmlochpfcaaDoor
open Go Go.V
abbrev o68_0:List Ins:=[⟨some 4,.mv (.k (.c (.raw (.slice none 0 0)))),none,true⟩]
abbrev o68_1:List Ins:=[⟨some 7,.mv (.t 0),none,true⟩,
 ⟨some 8,.call (.k (.fn 88 [])) [(.t 7)],none,true⟩,
 ⟨some 5,.mv (.t 8),none,true⟩]
abbrev o68_2:List Ins:=[⟨some 6,.mv (.k (.c (.int .i64 0))),none,true⟩]
abbrev o68_3:List Ins:=[⟨some 9,.mv (.t 6),none,true⟩,
 ⟨some 10,.mv (.t 1),none,true⟩,
 ⟨some 11,.len (.t 10),none,true⟩,
 ⟨some 12,.bin .lss (.t 9) (.t 11),none,true⟩]
abbrev v68_4:VC:=(.cond (.t 12) .skip (.exit 0))
abbrev o68_5:List Ins:=[⟨some 15,.mv (.t 5),none,false⟩,
 ⟨some 16,.mv (.t 1),none,false⟩,
 ⟨some 17,.mv (.t 6),none,false⟩,
 ⟨some 18,.ia 2 (.t 16) (.t 17),none,false⟩,
 ⟨some 19,.fa 0 (.t 18),none,false⟩,
 ⟨some 20,.ld true 1 (.t 19),none,false⟩,
 ⟨some 21,.ia 1 (.t 15) (.t 20),none,false⟩,
 ⟨some 22,.ld true 1 (.t 21),none,false⟩,
 ⟨some 23,.mv (.t 1),none,false⟩,
 ⟨some 24,.mv (.t 6),none,false⟩,
 ⟨some 25,.ia 2 (.t 23) (.t 24),none,false⟩,
 ⟨some 26,.fa 1 (.t 25),none,false⟩,
 ⟨some 27,.ld true 1 (.t 26),none,false⟩,
 ⟨some 28,.ia 1 (.t 22) (.t 27),none,true⟩,
 ⟨none,.st 1 (.t 28) (.k (.c (.int .i64 0))),none,true⟩]
abbrev o68_6:List Ins:=[⟨some 13,.mv (.t 6),none,true⟩,
 ⟨some 14,.bin .add (.t 13) (.k (.c (.int .i64 1))),none,true⟩,
 ⟨some 6,.mv (.t 14),none,true⟩]
abbrev v68_7:VC:=(.seq (.block 1 (.dops o68_5)) (.ops o68_6))
abbrev v68_8:VC:=(.seq (.seq (.ops o68_3) v68_4) v68_7)
-- K68_1: changed and kept: [6]
abbrev v68_9:VC:=(.loop v68_8)
abbrev v68_10:VC:=(.block 0 v68_9)
abbrev o68_11:List Ins:=[⟨some 29,.mv (.t 5),none,true⟩,
 ⟨some 4,.mv (.t 29),none,true⟩]
abbrev v68_12:VC:=(.seq (.ops o68_11) .ret)
abbrev v68_13:VC:=(.seq (.seq (.ops o68_2) v68_10) v68_12)
abbrev v68_14:VC:=(.seq (.ops o68_1) v68_13)
def ir68:FC:=⟨2,30,[.t 4],(.seq (.ops o68_0) v68_14)⟩
theorem c68:compM Tryd.prog [] 68 = some ir68:=by kernel_rfl
attribute [local go_sem] Nat.reduceEqDiff Nat.reduceAdd Nat.reduceMul reduceIte Nat.reduceLeDiff Nat.reduceLT Nat.reduceBEq reduceCtorEq
theorem toldG_take (g:List (List Int)) (f:Nat × Nat → Int) {ws:List (Nat × Nat)} {k:Nat} (h:k < ws.length):toldG g f (ws.take (k + 1)) = setG (toldG g f (ws.take k)) ws[k] (f ws[k]):=by
 rw [List.take_succ_eq_append_getElem h,toldG_snoc]
set_option maxRecDepth 20000 in
set_option maxHeartbeats 8000000 in
theorem told68 {g:List (List Int)} (h:GOk g) (hw:0 < wid g) (ws:List (Nat × Nat)) (hws:∀ m ∈ ws,m.1 < g.length ∧ m.2 < wid g) (hwl:ws.length ≤ 1000000):FSpec Tryd.prog 68 [.c (gridC g),.c (marksC ws)] (.c (gridC (toldG g (fun _ => 0) ws))):=by
 have hmax:maxLen = 9223372036854775807:=rfl
 have hl:=h.len
 have hwd:=h.wd
 have hpos:=h.pos
 have hcp:=copied88 h hw
 have hgow:=h.gow
 refine FSpec_ofP c68 (Nat.le_refl _) (by decide) fun C hP hN hC hpin hL => ?_; rw [init_st]
 simp only [ir68]
 refine WV_seq_ ?_
 (refine WV_op ?_; simp only [go_sem,hP]; (repeat refine qJ ?_))
 refine WV_seq_ ?_
 (refine WV_split 1 ?_; simp only [List.take_succ_cons,List.take_zero,List.take_nil,List.drop_succ_cons,List.drop_zero,List.drop_nil]; simp only [go_sem,hP]; (repeat refine qJ ?_))
 rw [← hP] at hcp
 refine SOps_newG (cds:=icds) hcp hpin rfl rfl rfl rfl (fun n hn => ?_) (fun n hn => ?_) (fun r os hp => .inr ?_)
 ·obtain ⟨k,rfl⟩ : ∃ k,n = k + 1000:=⟨n - 1000,by omega⟩
  simp only [prgE_upd',prgE_e0,AV.prg]
 ·exact ⟨prgO_o0 _,rfl⟩
 obtain ⟨R,j,cap,hR,c1,c2,rfl,rfl⟩:=hp
 refine ⟨R,j,_,rfl,back_vw,?_⟩
 (refine SOps_ops ?_; simp only [go_sem,hP]; (repeat refine qJ ?_))
 have hRl:R.length = g.length:=by rw [← hR,gi_len]
 (repeat ((first | refine Va ?_ | refine Vb ?_ | refine Vc ?_ | refine Vd ?_ | refine Ve ?_ | refine Vf ?_); (try simp only [go_sem,hP]); (repeat refine qJ ?_)))
 refine WV_loopS (fun p:Nat × List IRow => ⟨upd (upd (upd e0 1 (.c (marksC ws))) 5 (.vw 1 1000 0 R.length cap)) 6 (iv p.1),gown icds 1 p.2 j o0⟩) (fun p => p.1 ≤ ws.length ∧ p.2.length = R.length ∧ gi p.2 = toldG g (fun _ => 0) (ws.take p.1)) (fun p => ws.length - p.1) (0,R) ⟨Nat.zero_le _,rfl,hR⟩ ?_ ?_
 ·exact Sub_of (by exact EnvLe_au) (ObLe_gown (by exact ObjLe_au))
 rintro ⟨k,S⟩ ⟨hk0,hSl,hSg⟩
 simp only at hk0 hSl hSg ⊢
 have hgw:GOw g.length (wid g) (gi S):=by rw [hSg]; exact toldG_gow (fun _ _ => by omega) hgow
 (repeat ((first | refine Va ?_ | refine Vb ?_ | refine Vc ?_ | refine Vd ?_ | refine Ve ?_ | refine Vf ?_); (try simp only [go_sem,hP,marksC,List.length_map]); (repeat refine qJ ?_)))
 (refine WV_cond rfl (fun h => ?_) (fun h => ?_))
 ·have hk:k < ws.length:=by simpa using h
  have hw2:=w64 (n:=(k:Int) + 1) (by omega) (by omega)
  have hm:=hws _ (List.getElem_mem hk)
  have hgd:(List.map mcd ws).getD k [] = mcd ws[k]:=map_getD hk
  have hsn:=toldG_take g (fun _ => 0) hk
  generalize ws[k] = m at hm hgd hsn
  have hmS:m.1 < S.length:=by omega
  have hmR:m.1 < R.length:=by omega
  have hrow:(S[m.1]).l.length = wid g:=by have:=hgw.row m.1 (by omega); rwa [gi_row hmS] at this
  have hwl2:m.2 < (S[m.1]).l.length:=by omega
  have hput:∀ v o,upd (gown icds 1 S j o) (m.1 + 1001) (.box ((cellsG icds (S[m.1]).l (S[m.1]).j).set m.2 (iv v))) = gown icds 1 (putI S (m.1,m.2) v) j o:=fun v o => gown_putI (p:=(m.1,m.2)) hmS hwl2 j o
  have hcl:=icell_lt hwl2 (S[m.1]).j
  have hmw:m.2 < wid g:=hm.2
  (refine WV_skip ?_; simp only [go_sem])
  refine WV_seq_ (WV_block ?_)
  (refine WV_op ?_; simp only [go_sem,hP,marksC,hgd,mcd,List.length_map,Int.toNat_natCast,Int.ofNat_lt,hk,Int.natCast_nonneg,gown_lo,gown_upd,gown_grid,gown_row hmS,Row.ob_box,gridOb,Ob.isBox,refs_get hmS,irefs_glen,hrow,Nat.mul_one,Nat.zero_add,Nat.add_zero,hmS,hmR,hmw,hcl,hput]; (repeat refine qJ ?_))
  (repeat ((first | refine Va ?_ | refine Vb ?_ | refine Vc ?_ | refine Vd ?_ | refine Ve ?_ | refine Vf ?_); (try simp only [go_sem,hP,hw2]); (repeat refine qJ ?_)))
  refine ⟨(k + 1,putI S (m.1,m.2) 0),⟨by simp only; omega,by simp only [putI_len]; exact hSl,?_⟩,by simp only; omega,?_⟩
  ·simp only
   rw [putI_gi hmS,hsn,← hSg]
  ·exact Sub_of (by exact EnvLe_au) (ObLe_gown (by exact ObjLe_au))
 have hk:k = ws.length:=by simp at h; omega
 subst hk
 rw [List.take_length] at hSg
 rw [← hSg]
 have hgc:CD.sl 1 (S.map fun r => [CD.sl 1 (r.l.map icds)]) = gridC (gi S):=by unfold gridC gi rowC icds; rw [List.map_map]; rfl
 refine WV_exit ?_
 simp only [thenQ,inQ,reduceIte,beq_self_eq_true]
 rw [← hSl]
 refine WV_keep [5] ?_
 simp only [go_sem]
 refine WV_frzGridG icds_one (fun n ds hn => ?_) (fun n ds hn => frzO_o0 _ _) ?_
 ·have hn3:¬ (1000:Nat) = n:=by omega
  simp only [go_sem,AV.frz]
  simp only [hn3,if_false]
 simp only [frzE_upd,frzE_e0,frz_gridG]
 rw [hgc]
 (repeat ((first | refine Va ?_ | refine Vb ?_ | refine Vc ?_ | refine Vd ?_ | refine Ve ?_ | refine Vf ?_); (try simp only [go_sem,hP]); (repeat refine qJ ?_)))
 (refine WV_ret ?_; simp only [thenQ,inQ,RetQ,RetOk,resAll,resA]; simp only [go_sem,tupA,AV.port,AV.portL,exists_eq_left'])
 exact AVle.refl _
end Go.Proofs.YtlmfdmlochpfcaaDoor

namespace Go.Proofs.YtlmfdmlochpfcaaDoor
open Go Go.V
abbrev o40_0:List Ins:=[⟨some 4,.mv (.k (.c (.bool false))),none,true⟩]
abbrev o40_1:List Ins:=[⟨some 9,.mv (.t 0),none,true⟩,
 ⟨some 10,.call (.k (.fn 61 [])) [(.t 9)],none,true⟩,
 ⟨some 8,.mv (.t 10),none,true⟩,
 ⟨some 11,.ext (.t 8) 0,none,true⟩,
 ⟨some 12,.ext (.t 8) 1,none,true⟩,
 ⟨some 5,.mv (.t 11),none,true⟩,
 ⟨some 6,.mv (.t 12),none,true⟩]
abbrev o40_2:List Ins:=[⟨some 13,.mv (.t 6),none,true⟩,
 ⟨some 14,.un .not (.t 13),none,true⟩]
abbrev o40_3:List Ins:=[⟨some 4,.mv (.k (.c (.bool false))),none,true⟩]
abbrev v40_4:VC:=(.seq (.ops o40_3) .ret)
abbrev v40_5:VC:=(.cond (.t 14) v40_4 .skip)
abbrev o40_6:List Ins:=[⟨some 7,.mv (.k (.c (.int .i64 0))),none,true⟩]
abbrev o40_7:List Ins:=[⟨some 15,.mv (.t 7),none,true⟩,
 ⟨some 16,.mv (.t 1),none,true⟩,
 ⟨some 17,.len (.t 16),none,true⟩,
 ⟨some 18,.bin .lss (.t 15) (.t 17),none,true⟩]
abbrev v40_8:VC:=(.cond (.t 18) .skip (.exit 0))
abbrev o40_9:List Ins:=[⟨some 21,.mv (.t 1),none,false⟩,
 ⟨some 22,.mv (.t 7),none,false⟩,
 ⟨some 23,.ia 2 (.t 21) (.t 22),none,false⟩,
 ⟨some 24,.fa 0 (.t 23),none,false⟩,
 ⟨some 25,.ld true 1 (.t 24),none,false⟩,
 ⟨some 26,.mv (.t 5),none,false⟩,
 ⟨some 27,.len (.t 26),none,false⟩,
 ⟨some 28,.bin .sub (.t 27) (.k (.c (.int .i64 1))),none,false⟩,
 ⟨some 29,.call (.k (.fn 67 [])) [(.t 25),(.k (.c (.int .i64 0))),(.t 28)],none,true⟩,
 ⟨some 30,.un .not (.t 29),none,true⟩,
 ⟨some 31,.mv (.t 30),none,true⟩,
 ⟨some 32,.mv (.t 1),(some (31,false)),false⟩,
 ⟨some 33,.mv (.t 7),(some (31,false)),false⟩,
 ⟨some 34,.ia 2 (.t 32) (.t 33),(some (31,false)),false⟩,
 ⟨some 35,.fa 1 (.t 34),(some (31,false)),false⟩,
 ⟨some 36,.ld true 1 (.t 35),(some (31,false)),false⟩,
 ⟨some 37,.mv (.t 5),(some (31,false)),false⟩,
 ⟨some 38,.ia 1 (.t 37) (.k (.c (.int .i64 0))),(some (31,false)),false⟩,
 ⟨some 39,.ld true 1 (.t 38),(some (31,false)),false⟩,
 ⟨some 40,.len (.t 39),(some (31,false)),false⟩,
 ⟨some 41,.bin .sub (.t 40) (.k (.c (.int .i64 1))),(some (31,false)),false⟩,
 ⟨some 42,.call (.k (.fn 67 [])) [(.t 36),(.k (.c (.int .i64 0))),(.t 41)],(some (31,false)),true⟩,
 ⟨some 43,.un .not (.t 42),(some (31,false)),true⟩,
 ⟨some 44,.pick (.t 31) (.k (.c (.bool true))) (.t 43),none,true⟩]
abbrev o40_10:List Ins:=[⟨some 4,.mv (.k (.c (.bool false))),none,true⟩]
abbrev v40_11:VC:=(.seq (.ops o40_10) .ret)
abbrev v40_12:VC:=(.cond (.t 44) v40_11 .skip)
abbrev v40_13:VC:=(.seq (.dops o40_9) v40_12)
abbrev o40_14:List Ins:=[⟨some 19,.mv (.t 7),none,true⟩,
 ⟨some 20,.bin .add (.t 19) (.k (.c (.int .i64 1))),none,true⟩,
 ⟨some 7,.mv (.t 20),none,true⟩]
abbrev v40_15:VC:=(.seq (.block 1 v40_13) (.ops o40_14))
abbrev v40_16:VC:=(.seq (.seq (.ops o40_7) v40_8) v40_15)
-- K40_1: changed and kept: [7]
abbrev K40_1:List Nat:=[1,5]
abbrev v40_17:VC:=(.loop v40_16)
abbrev v40_18:VC:=(.block 0 v40_17)
abbrev o40_19:List Ins:=[⟨some 45,.mv (.t 5),none,true⟩,
 ⟨some 46,.mv (.t 1),none,true⟩,
 ⟨some 47,.call (.k (.fn 68 [])) [(.t 45),(.t 46)],none,true⟩,
 ⟨some 48,.call (.k (.fn 66 [])) [(.t 47)],none,true⟩,
 ⟨some 49,.call (.k (.fn 62 [])) [(.t 48)],none,true⟩,
 ⟨some 50,.len (.t 49),none,true⟩,
 ⟨some 51,.bin .eql (.t 50) (.k (.c (.int .i64 0))),none,true⟩,
 ⟨some 4,.mv (.t 51),none,true⟩]
abbrev v40_20:VC:=(.seq (.ops o40_19) .ret)
abbrev v40_21:VC:=(.seq (.seq (.ops o40_6) v40_18) v40_20)
abbrev v40_22:VC:=(.seq (.seq (.ops o40_2) v40_5) v40_21)
abbrev v40_23:VC:=(.seq (.ops o40_1) v40_22)
def ir40:FC:=⟨2,52,[.t 4],(.seq (.ops o40_0) v40_23)⟩
theorem c40:compM Tryd.prog [] 40 = some ir40:=by kernel_rfl
attribute [local go_sem] Nat.reduceEqDiff Nat.reduceAdd Nat.reduceMul reduceIte Nat.reduceLeDiff Nat.reduceLT Nat.reduceBEq reduceCtorEq
def inW (n w:Nat) (m:Nat × Nat):Bool:=decide (m.1 < n) && decide (m.2 < w)
def enoughR (s:List UInt8) (ws:List (Nat × Nat)):Bool:=match parseP s with
 | none => false
 | some rows => ws.all (inW rows.length (rows.headD []).length) && (marksG (restG rows.length (rows.headD []).length (toldG (valsG rows) (fun _ => 0) ws)) rows.length).length == 0
set_option maxRecDepth 20000 in
set_option maxHeartbeats 8000000 in
theorem enough40 (s:List UInt8) (hs:s.length ≤ 100000) (ws:List (Nat × Nat)) (hwl:ws.length ≤ 1000000) (hbig:∀ m ∈ ws,m.1 ≤ 1000000 ∧ m.2 ≤ 1000000):FSpec Tryd.prog 40 [sv s,.c (marksC ws)] (bv (enoughR s ws)):=by
 have hmax:maxLen = 9223372036854775807:=rfl
 have hp:=parse61D s hs
 refine FSpec_ofP c40 (Nat.le_refl _) (by decide) fun C hP hN hC hpin hL => ?_; rw [init_st]
 simp only [ir40]
 (repeat ((first | refine Va ?_ | refine Vb ?_ | refine Vc ?_ | refine Vd ?_ | refine Ve ?_ | refine Vf ?_); (try simp only [go_sem,hP]); (repeat refine qJ ?_)))
 (refine AS_pu (hp) ?_; simp only [go_sem,hP]; (repeat refine qJ ?_); (repeat ((first | refine Va ?_ | refine Vb ?_ | refine Vc ?_ | refine Vd ?_ | refine Ve ?_ | refine Vf ?_); (try simp only [go_sem,hP]); (repeat refine qJ ?_))))
 cases hq:parseP s with
 | none =>
  have hr:enoughR s ws = false:=by unfold enoughR; rw [hq]
  rw [hr,retR_none hq]
  (refine WV_cond rfl (fun h => ?_) (fun h => ?_))
  ·(repeat ((first | refine Va ?_ | refine Vb ?_ | refine Vc ?_ | refine Vd ?_ | refine Ve ?_ | refine Vf ?_); (try simp only [go_sem,hP]); (repeat refine qJ ?_)))
   (refine WV_ret ?_; simp only [thenQ,inQ,RetQ,RetOk,resAll,resA]; simp only [go_sem,tupA,AV.port,AV.portL,exists_eq_left']; (first | exact AVle.of rfl | refine AVle.of ?_ | skip))
  ·simp at h
 | some rows =>
  obtain ⟨g1,g2,g3,g4,g5,g6,g7,g8,g9,g10⟩:=sheet_is hq
  have hok:=parse_ok hq
  have hwv:=vals_wid hok
  have hlv:=vals_len rows
  have hr:enoughR s ws = (ws.all (inW rows.length (rows.headD []).length) && (marksG (restG rows.length (rows.headD []).length (toldG (valsG rows) (fun _ => 0) ws)) rows.length).length == 0):=by unfold enoughR; rw [hq]
  have hgw:=vals_gow hok
  have hpos:=hok.pos
  rw [hr,retR_some hq]
  generalize (rows.headD []).length = w at *
  generalize hN:rows.length = N at *
  generalize valsG rows = g at *
  have hg0:(List.map (fun l => [CD.sl 1 (List.map (fun n => [CD.int .i64 n]) l)]) g).getD (Int.toNat 0) [] = [CD.sl 1 (List.map (fun n => [CD.int .i64 n]) (g.getD 0 []))]:=by
   show (List.map (fun l => [CD.sl 1 (List.map (fun n => [CD.int .i64 n]) l)]) g).getD 0 [] = _
   rw [List.getD_eq_getElem?_getD,List.getElem?_map,List.getElem?_eq_getElem (by omega:0 < g.length),List.getD_eq_getElem?_getD,List.getElem?_eq_getElem (by omega:0 < g.length)]; rfl
  have hg0l:(g.getD 0 []).length = w:=hwv
  have hn1:=w64 (n:=(N:Int) - 1) (by omega) (by omega)
  have hn2:=w64 (n:=(w:Int) - 1) (by omega) (by omega)
  (refine WV_cond rfl (fun h => ?_) (fun h => ?_))
  ·simp at h
  (repeat ((first | refine Va ?_ | refine Vb ?_ | refine Vc ?_ | refine Vd ?_ | refine Ve ?_ | refine Vf ?_); (try simp only [go_sem,hP]); (repeat refine qJ ?_)))
  refine WV_loopK K40_1 [] (fun k:Nat => k ≤ ws.length ∧ (ws.take k).all (inW N w) = true) (fun k => ws.length - k) (fun k => [(7,iv k)]) (fun _ => []) 0 ⟨Nat.zero_le _,rfl⟩ ?_ ?_
  ·exact Sub_au
  ·intro k ⟨hk0,hal⟩
   simp only [go_sem]
   (repeat ((first | refine Va ?_ | refine Vb ?_ | refine Vc ?_ | refine Vd ?_ | refine Ve ?_ | refine Vf ?_); (try simp only [go_sem,hP,marksC,List.length_map]); (repeat refine qJ ?_)))
   (refine WV_cond rfl (fun h => ?_) (fun h => ?_))
   ·have hk:k < ws.length:=by simpa using h
    have hw2:=w64 (n:=(k:Int) + 1) (by omega) (by omega)
    have hsn:=all_snoc (inW N w) hk
    have hbad:=all_take_false (inW N w) hk
    have hb:=hbig _ (List.getElem_mem hk)
    have hgd:(List.map mcd ws).getD k [] = mcd ws[k]:=map_getD hk
    generalize ws[k] = m at hsn hbad hb hgd
    have wi1:=within67 (m.1:Int) 0 ((N:Int) - 1)
    have wi2:=within67 (m.2:Int) 0 ((w:Int) - 1)
    rw [show (decide ((0:Int) ≤ (m.1:Int)) && decide ((m.1:Int) ≤ (N:Int) - 1)) = decide (m.1 < N) by rw [Bool.eq_iff_iff]; simp; omega] at wi1
    rw [show (decide ((0:Int) ≤ (m.2:Int)) && decide ((m.2:Int) ≤ (w:Int) - 1)) = decide (m.2 < w) by rw [Bool.eq_iff_iff]; simp; omega] at wi2
    have hiw:inW N w m = (decide (m.1 < N) && decide (m.2 < w)):=rfl
    rw [hiw] at hsn hbad
    (refine WV_skip ?_; simp only [go_sem])
    refine WV_seq_ (WV_block (WV_seq_ ?_))
    (refine WV_op ?_; simp only [go_sem,hP,marksC,hgd,mcd,gridC,List.length_map,Int.toNat_natCast,Int.ofNat_lt,hk,Int.natCast_nonneg,hlv,hn1]; (repeat refine qJ ?_))
    (refine AS_pu (wi1) ?_; simp only [go_sem,hP,gridC,hgd,mcd,hg0,rowC,hg0l,List.length_map,Int.toNat_natCast,Int.ofNat_lt,hk,Int.natCast_nonneg,hn2]; (repeat refine qJ ?_); (repeat ((first | refine Va ?_ | refine Vb ?_ | refine Vc ?_ | refine Vd ?_ | refine Ve ?_ | refine Vf ?_); (try simp only [go_sem,hP,gridC,hgd,mcd,hg0,rowC,hg0l,List.length_map,Int.toNat_natCast,Int.ofNat_lt,hk,Int.natCast_nonneg,hn2]); (repeat refine qJ ?_))))
    (refine AG_pu (fun hG => wi2) ?_; simp only [go_sem,hP,gridC,hgd,mcd,hg0,rowC,hg0l,List.length_map,Int.toNat_natCast,Int.ofNat_lt,hk,Int.natCast_nonneg,hn2]; (repeat refine qJ ?_); (repeat ((first | refine Va ?_ | refine Vb ?_ | refine Vc ?_ | refine Vd ?_ | refine Ve ?_ | refine Vf ?_); (try simp only [go_sem,hP,gridC,hgd,mcd,hg0,rowC,hg0l,List.length_map,Int.toNat_natCast,Int.ofNat_lt,hk,Int.natCast_nonneg,hn2]); (repeat refine qJ ?_))))
    by_cases hb0:(decide (m.1 < N) && decide (m.2 < w)) = true
    ·rw [hal,hb0] at hsn
     (refine WV_cond rfl (fun h => ?_) (fun h => ?_))
     ·simp at hb0 h; omega
     ·(repeat ((first | refine Va ?_ | refine Vb ?_ | refine Vc ?_ | refine Vd ?_ | refine Ve ?_ | refine Vf ?_); (try simp only [go_sem,hP,hw2]); (repeat refine qJ ?_)))
      refine ⟨k + 1,⟨by omega,hsn⟩,by omega,?_⟩
      (refine Sub_of (by simp only [go_sem]; ((repeat' (first | exact EnvLe_e0 _ _ | refine EnvLe_upd ?_ ?_)) <;> ((try simp only [upd_app,e0_app,o0_app,Nat.reduceEqDiff,reduceIte]); first | exact AWk.refl _ _ | exact AWk.int (by omega) | exact AWk.int (by rw [w64 (by omega) (by omega)]; omega) | exact AWk.grow rfl | exact AWk.nil _ | exact AWk.of (by simp [gridC,rowC,marksC])))) (by simp only [go_sem]; exact ObjLe_au))
    ·have hb1:(decide (m.1 < N) && decide (m.2 < w)) = false:=by simpa using hb0
     rw [hbad hb1,Bool.false_and]
     (refine WV_cond rfl (fun h => ?_) (fun h => ?_))
     ·(repeat ((first | refine Va ?_ | refine Vb ?_ | refine Vc ?_ | refine Vd ?_ | refine Ve ?_ | refine Vf ?_); (try simp only [go_sem,hP]); (repeat refine qJ ?_)))
      (refine WV_ret ?_; simp only [thenQ,inQ,RetQ,RetOk,resAll,resA]; simp only [go_sem,tupA,AV.port,AV.portL,exists_eq_left']; (first | exact AVle.of rfl | refine AVle.of ?_ | skip))
     ·simp at hb0 h; omega
   ·have hk:k = ws.length:=by simp at h; omega
    subst hk
    rw [List.take_length] at hal
    rw [hal,Bool.true_and]
    have hws:∀ m ∈ ws,m.1 < N ∧ m.2 < w:=fun m hm => by
     have:=List.all_eq_true.1 hal m hm
     unfold inW at this
     simpa using this
    have htd:=told68 g1 (by omega) ws (by rw [hlv,hwv]; exact hws) hwl
    have hgt:=toldG_gow (f:=fun _ => 0) (ws:=ws) (fun _ _ => by omega) hgw
    obtain ⟨t1,t2,t3⟩:=hgt.gok (by omega) (by omega) (by omega)
    have hre:=restored66 t1 (by omega)
    rw [t2,t3] at hre
    have hgr:=restG_gow hgt
    obtain ⟨r1,r2,r3⟩:=hgr.gok (by omega) (by omega) (by omega)
    have hmk:=marks62 r1
    rw [r3] at hmk
    refine WV_exit ?_
    simp only [thenQ,inQ,reduceIte,beq_self_eq_true]
    (repeat ((first | refine Va ?_ | refine Vb ?_ | refine Vc ?_ | refine Vd ?_ | refine Ve ?_ | refine Vf ?_); (try simp only [go_sem,hP]); (repeat refine qJ ?_)))
    (refine AS_pu (htd) ?_; simp only [go_sem,hP]; (repeat refine qJ ?_); (repeat ((first | refine Va ?_ | refine Vb ?_ | refine Vc ?_ | refine Vd ?_ | refine Ve ?_ | refine Vf ?_); (try simp only [go_sem,hP]); (repeat refine qJ ?_))))
    (refine AS_pu (hre) ?_; simp only [go_sem,hP]; (repeat refine qJ ?_); (repeat ((first | refine Va ?_ | refine Vb ?_ | refine Vc ?_ | refine Vd ?_ | refine Ve ?_ | refine Vf ?_); (try simp only [go_sem,hP]); (repeat refine qJ ?_))))
    (refine AS_pu (hmk) ?_; simp only [go_sem,hP,marksC,List.length_map]; (repeat refine qJ ?_); (repeat ((first | refine Va ?_ | refine Vb ?_ | refine Vc ?_ | refine Vd ?_ | refine Ve ?_ | refine Vf ?_); (try simp only [go_sem,hP,marksC,List.length_map]); (repeat refine qJ ?_))))
    (refine WV_ret ?_; simp only [thenQ,inQ,RetQ,RetOk,resAll,resA]; simp only [go_sem,tupA,AV.port,AV.portL,exists_eq_left']; (first | exact AVle.of rfl | refine AVle.of ?_ | skip))
    congr 2
    rw [Bool.eq_iff_iff]; simp
end Go.Proofs.YtlmfdmlochpfcaaDoor

namespace Go.Proofs.YtlmfdmlochpfcaaDoor
open Go Go.V
abbrev o39_0:List Ins:=[⟨some 2,.mv (.k (.c (.int .i64 0))),none,true⟩,
 ⟨some 3,.mv (.k (.c (.int .i64 0))),none,true⟩]
abbrev o39_1:List Ins:=[⟨some 9,.mv (.t 0),none,true⟩,
 ⟨some 10,.call (.k (.fn 38 [])) [(.t 9)],none,true⟩,
 ⟨some 8,.mv (.t 10),none,true⟩,
 ⟨some 11,.ext (.t 8) 0,none,true⟩,
 ⟨some 12,.ext (.t 8) 1,none,true⟩,
 ⟨some 4,.mv (.t 11),none,true⟩,
 ⟨some 5,.mv (.t 12),none,true⟩]
abbrev o39_2:List Ins:=[⟨some 13,.mv (.t 5),none,true⟩,
 ⟨some 14,.bin .neq (.t 13) (.k (.c (.int .i64 0))),none,true⟩]
abbrev o39_3:List Ins:=[⟨some 15,.mv (.t 5),none,true⟩,
 ⟨some 2,.mv (.k (.c (.int .i64 0))),none,true⟩,
 ⟨some 3,.mv (.t 15),none,true⟩]
abbrev v39_4:VC:=(.seq (.ops o39_3) .ret)
abbrev v39_5:VC:=(.cond (.t 14) v39_4 .skip)
abbrev o39_6:List Ins:=[⟨some 17,.mv (.t 4),none,true⟩,
 ⟨some 18,.call (.k (.fn 37 [])) [(.t 17)],none,true⟩,
 ⟨some 16,.mv (.t 18),none,true⟩,
 ⟨some 19,.ext (.t 16) 0,none,true⟩,
 ⟨some 20,.ext (.t 16) 1,none,true⟩,
 ⟨some 6,.mv (.t 19),none,true⟩,
 ⟨some 7,.mv (.t 20),none,true⟩]
abbrev o39_7:List Ins:=[⟨some 21,.mv (.t 4),none,true⟩,
 ⟨some 22,.len (.t 21),none,true⟩,
 ⟨some 23,.mv (.t 6),none,true⟩,
 ⟨some 24,.bin .sub (.t 22) (.t 23),none,true⟩,
 ⟨some 25,.mv (.t 7),none,true⟩,
 ⟨some 26,.bin .add (.t 24) (.t 25),none,true⟩,
 ⟨some 2,.mv (.t 26),none,true⟩,
 ⟨some 3,.mv (.k (.c (.int .i64 0))),none,true⟩]
abbrev v39_8:VC:=(.seq (.ops o39_7) .ret)
abbrev v39_9:VC:=(.seq (.ops o39_6) v39_8)
abbrev v39_10:VC:=(.seq (.seq (.ops o39_2) v39_5) v39_9)
abbrev v39_11:VC:=(.seq (.ops o39_1) v39_10)
def ir39:FC:=⟨1,27,[.t 2,.t 3],(.seq (.ops o39_0) v39_11)⟩
theorem c39:compM Tryd.prog [] 39 = some ir39:=by kernel_rfl
attribute [local go_sem] Nat.reduceEqDiff Nat.reduceAdd Nat.reduceMul reduceIte Nat.reduceLeDiff Nat.reduceLT Nat.reduceBEq reduceCtorEq
theorem leftG_eq (s:List UInt8):leftG s = leftR s:=by
 unfold leftG leftR
 cases hq:parseP s with
 | none => rfl
 | some rows =>
  obtain ⟨g1,g2,g3,g4,g5,g6,g7,g8,g9,g10⟩:=sheet_is hq
  simp only
  rw [lostI_marks _ _ _ g10]
theorem leftR_in (s:List UInt8):InB (leftR s).1 ∧ (leftR s).1.length ≤ 2000:=by
 have h1:=(leftG_ok s).1
 rw [leftG_eq] at h1
 refine ⟨?_,h1⟩
 unfold leftR
 cases hq:parseP s with
 | none => intro m hm; cases hm
 | some rows =>
  obtain ⟨g1,g2,g3,g4,g5,g6,g7,g8,g9,g10⟩:=sheet_is hq
  intro m hm
  have:=marks_mem.1 hm
  omega
theorem linesN_le (ms:List (Nat × Nat)):linesN ms ≤ 140:=linesL_le _ _
theorem circ_len (ms:List (Nat × Nat)):(circ ms).length ≤ ms.length:=circK_len ms ms.length
theorem fewest39 (s:List UInt8) (hs:s.length ≤ 100000):FSpec Tryd.prog 39 [sv s] (.tup [iv (if (leftR s).2 = 0 then ((circ (leftR s).1).length:Int) else 0),iv (leftR s).2]):=by
 have hmax:maxLen = 9223372036854775807:=rfl
 have hp:=left38 s hs
 obtain ⟨hi,hl⟩:=leftR_in s
 have hgr:=groups37 _ hi hl
 have hln:=linesN_le (leftR s).1
 have hcl:=circ_len (leftR s).1
 have hgn:groupsN (leftR s).1 = ((circ (leftR s).1).length:Int) + (linesN (leftR s).1:Int) - ((leftR s).1.length:Int):=rfl
 generalize leftR s = p at *
 generalize linesN p.1 = A at *
 generalize groupsN p.1 = B at *
 generalize (circ p.1).length = c at *
 have w1:=w64 (n:=(p.1.length:Int) - (A:Int)) (by omega) (by omega)
 have w2:=w64 (n:=(p.1.length:Int) - (A:Int) + B) (by omega) (by omega)
 refine FSpec_ofP c39 (Nat.le_refl _) (by decide) fun C hP hN hC hpin hL => ?_; rw [init_st]
 simp only [ir39]
 (repeat ((first | refine Va ?_ | refine Vb ?_ | refine Vc ?_ | refine Vd ?_ | refine Ve ?_ | refine Vf ?_); (try simp only [go_sem,hP]); (repeat refine qJ ?_)))
 (refine AS_pu (hp) ?_; simp only [go_sem,hP]; (repeat refine qJ ?_); (repeat ((first | refine Va ?_ | refine Vb ?_ | refine Vc ?_ | refine Vd ?_ | refine Ve ?_ | refine Vf ?_); (try simp only [go_sem,hP]); (repeat refine qJ ?_))))
 by_cases h0:p.2 = 0
 ·rw [if_pos h0,h0]
  (refine WV_cond rfl (fun h => ?_) (fun h => ?_))
  ·simp at h
  (repeat ((first | refine Va ?_ | refine Vb ?_ | refine Vc ?_ | refine Vd ?_ | refine Ve ?_ | refine Vf ?_); (try simp only [go_sem,hP]); (repeat refine qJ ?_)))
  (refine AS_pu (hgr) ?_; simp only [go_sem,hP,marksC,List.length_map,w1,w2]; (repeat refine qJ ?_); (repeat ((first | refine Va ?_ | refine Vb ?_ | refine Vc ?_ | refine Vd ?_ | refine Ve ?_ | refine Vf ?_); (try simp only [go_sem,hP,marksC,List.length_map,w1,w2]); (repeat refine qJ ?_))))
  (refine WV_ret ?_; simp only [thenQ,inQ,RetQ,RetOk,resAll,resA]; simp only [go_sem,tupA,AV.port,AV.portL,exists_eq_left'])
  rw [show (p.1.length:Int) - (A:Int) + B = (c:Int) by omega]
  exact AVle.refl _
 ·rw [if_neg h0]
  (refine WV_cond rfl (fun h => ?_) (fun h => ?_))
  ·(repeat ((first | refine Va ?_ | refine Vb ?_ | refine Vc ?_ | refine Vd ?_ | refine Ve ?_ | refine Vf ?_); (try simp only [go_sem,hP]); (repeat refine qJ ?_)))
   (refine WV_ret ?_; simp only [thenQ,inQ,RetQ,RetOk,resAll,resA]; simp only [go_sem,tupA,AV.port,AV.portL,exists_eq_left'])
   exact AVle.refl _
  ·simp at h; exact (h0 h).elim
theorem enough_true {s:List UInt8} (h:(leftR s).2 = 0):enoughR s (circ (leftR s).1) = true:=by
 unfold enoughR
 unfold leftR at h ⊢
 cases hq:parseP s with
 | none => rw [hq] at h; cases h
 | some rows =>
  obtain ⟨g1,g2,g3,g4,g5,g6,g7,g8,g9,g10⟩:=sheet_is hq
  have hok:=parse_ok hq
  have hgw:=vals_gow hok
  simp only
  rw [Bool.and_eq_true,List.all_eq_true,beq_iff_eq]
  have hin:∀ m ∈ circ (marksG (sheetG rows) rows.length),m.1 < rows.length ∧ m.2 < (rows.headD []).length:=fun m hm => by
   have:=marks_mem.1 (circ_mem hm)
   rw [g10] at this
   exact ⟨this.1,this.2.1⟩
  refine ⟨fun m hm => by unfold inW; rw [Bool.and_eq_true,decide_eq_true_eq,decide_eq_true_eq]; exact hin m hm,?_⟩
  have hgt:GOw rows.length (rows.headD []).length (toldG (valsG rows) (fun _ => 0) (circ (marksG (sheetG rows) rows.length))):=toldG_gow (fun _ _ => by omega) hgw
  have hr:=restG_gow hgt
  rw [marks_iff]
  intro i k hi hk he
  have hwd:wid (restG rows.length (rows.headD []).length (toldG (valsG rows) (fun _ => 0) (circ (marksG (sheetG rows) rows.length)))) = (rows.headD []).length:=(hr.gok hok.pos hok.len hok.w32).2.1
  rw [hwd] at hk
  have hsh:sheetG rows = restG rows.length (rows.headD []).length (valsG rows):=rfl
  refine rest_none hgt (told_free hgw (ms:=marksG (sheetG rows) rows.length) (ws:=circ (marksG (sheetG rows) rows.length)) (fun q hq => toldG_lost (fun _ _ => by omega) hgw hq) (fun p hp => ?_) fun p hp => hp) (i,k) ⟨hi,hk,he⟩
  rw [← hsh] at hp
  exact (lost_marks g10).2 hp
end Go.Proofs.YtlmfdmlochpfcaaDoor
