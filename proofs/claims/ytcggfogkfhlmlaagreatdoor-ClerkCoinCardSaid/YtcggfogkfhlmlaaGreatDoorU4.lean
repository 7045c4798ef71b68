/-
  Contracts of the layer's functions, of the laws' helpers and of the law; conditions: as each theorem states.
-/
import Derived.Test.YtcggfogkfhlmlaaGreatDoorV2
import Derived.Test.YtcggfogkfhlmlaaGreatDoorV3
import Derived.Test.YtcggfogkfhlmlaaGreatDoorChecked
import Derived.Shelf.Strings.Split
import Derived.Shelf.Strings.Prefix
import Derived.Shelf.Strconv.Atoi
import Derived.Lib.AtoiErrMem
set_option linter.unusedVariables false
set_option linter.unusedSimpArgs false
namespace Go.V
abbrev JS (d:Nat) (i:I):Ins:=⟨some d,i,none,true⟩
abbrev JN (i:I):Ins:=⟨none,i,none,true⟩
abbrev JF (d:Nat) (i:I):Ins:=⟨some d,i,none,false⟩
abbrev JE (i:I):Ins:=⟨none,i,none,false⟩
abbrev JG (d:Nat) (i:I) (g:Nat) (b:Bool):Ins:=⟨some d,i,some (g,b),true⟩
abbrev JH (d:Nat) (i:I) (g:Nat) (b:Bool):Ins:=⟨some d,i,some (g,b),false⟩
abbrev Jm (x:Nat):I:=.mv (.t x)
abbrev Jf (o x:Nat):I:=.fa o (.t x)
abbrev Jl (x:Nat):I:=.ld true 1 (.t x)
abbrev JL (n x:Nat):I:=.ld false n (.t x)
abbrev Jb (o:BinOp) (x y:Nat):I:=.bin o (.t x) (.t y)
abbrev Jk (o:BinOp) (x:Nat) (n:Int):I:=.bin o (.t x) (.k (.c (.int .i64 n)))
abbrev Je (x i:Nat):I:=.ext (.t x) i
abbrev Jn (x:Nat):I:=.len (.t x)
abbrev Ji (n:Int):I:=.mv (.k (.c (.int .i64 n)))
abbrev JB (b:Bool):I:=.mv (.k (.c (.bool b)))
abbrev Js (n x y:Nat):I:=.st n (.t x) (.t y)
abbrev Ja (n x i:Nat):I:=.ia n (.t x) (.t i)
abbrev Jc (f:FuncId) (l:List X):I:=.call (.k (.fn f [])) l
abbrev Jo (x y:Nat):I:=.pick (.t x) (.k (.c (.bool true))) (.t y)
abbrev Jp (x y:Nat):I:=.pick (.t x) (.t y) (.k (.c (.bool false)))
abbrev Jz (n:Int):AV:=.c (.int .i64 n)
abbrev J0:AV:=.c (.raw (.slice none 0 0))
end Go.V
namespace Go.V
abbrev JSm (d:Nat) (x:Nat):Ins:=JS d (Jm x)
abbrev JSf (d:Nat) (o x:Nat):Ins:=JS d (Jf o x)
abbrev JSl (d:Nat) (x:Nat):Ins:=JS d (Jl x)
abbrev JSL (d:Nat) (n x:Nat):Ins:=JS d (JL n x)
abbrev JSb (d:Nat) (o:BinOp) (x y:Nat):Ins:=JS d (Jb o x y)
abbrev JSk (d:Nat) (o:BinOp) (x:Nat) (n:Int):Ins:=JS d (Jk o x n)
abbrev JSe (d:Nat) (x i:Nat):Ins:=JS d (Je x i)
abbrev JSn (d:Nat) (x:Nat):Ins:=JS d (Jn x)
abbrev JSi (d:Nat) (n:Int):Ins:=JS d (Ji n)
abbrev JSB (d:Nat) (b:Bool):Ins:=JS d (JB b)
abbrev JSo (d:Nat) (x y:Nat):Ins:=JS d (Jo x y)
abbrev JSp (d:Nat) (x y:Nat):Ins:=JS d (Jp x y)
abbrev JSa (d:Nat) (n x i:Nat):Ins:=JS d (Ja n x i)
abbrev JSc (d:Nat) (f:FuncId) (l:List X):Ins:=JS d (Jc f l)
abbrev JFm (d:Nat) (x:Nat):Ins:=JF d (Jm x)
abbrev JFf (d:Nat) (o x:Nat):Ins:=JF d (Jf o x)
abbrev JFl (d:Nat) (x:Nat):Ins:=JF d (Jl x)
abbrev JFL (d:Nat) (n x:Nat):Ins:=JF d (JL n x)
abbrev JFb (d:Nat) (o:BinOp) (x y:Nat):Ins:=JF d (Jb o x y)
abbrev JFk (d:Nat) (o:BinOp) (x:Nat) (n:Int):Ins:=JF d (Jk o x n)
abbrev JFe (d:Nat) (x i:Nat):Ins:=JF d (Je x i)
abbrev JFn (d:Nat) (x:Nat):Ins:=JF d (Jn x)
abbrev JFi (d:Nat) (n:Int):Ins:=JF d (Ji n)
abbrev JFp (d:Nat) (x y:Nat):Ins:=JF d (Jp x y)
abbrev JFa (d:Nat) (n x i:Nat):Ins:=JF d (Ja n x i)
abbrev JFc (d:Nat) (f:FuncId) (l:List X):Ins:=JF d (Jc f l)
abbrev JTm (d:Nat) (x:Nat) (g:Nat):Ins:=JG d (Jm x) g true
abbrev JTf (d:Nat) (o x:Nat) (g:Nat):Ins:=JG d (Jf o x) g true
abbrev JTl (d:Nat) (x:Nat) (g:Nat):Ins:=JG d (Jl x) g true
abbrev JTL (d:Nat) (n x:Nat) (g:Nat):Ins:=JG d (JL n x) g true
abbrev JTb (d:Nat) (o:BinOp) (x y:Nat) (g:Nat):Ins:=JG d (Jb o x y) g true
abbrev JTk (d:Nat) (o:BinOp) (x:Nat) (n:Int) (g:Nat):Ins:=JG d (Jk o x n) g true
abbrev JTn (d:Nat) (x:Nat) (g:Nat):Ins:=JG d (Jn x) g true
abbrev JTo (d:Nat) (x y:Nat) (g:Nat):Ins:=JG d (Jo x y) g true
abbrev JTp (d:Nat) (x y:Nat) (g:Nat):Ins:=JG d (Jp x y) g true
abbrev JTa (d:Nat) (n x i:Nat) (g:Nat):Ins:=JG d (Ja n x i) g true
abbrev JTc (d:Nat) (f:FuncId) (l:List X) (g:Nat):Ins:=JG d (Jc f l) g true
abbrev JNm (d:Nat) (x:Nat) (g:Nat):Ins:=JG d (Jm x) g false
abbrev JNf (d:Nat) (o x:Nat) (g:Nat):Ins:=JG d (Jf o x) g false
abbrev JNl (d:Nat) (x:Nat) (g:Nat):Ins:=JG d (Jl x) g false
abbrev JNL (d:Nat) (n x:Nat) (g:Nat):Ins:=JG d (JL n x) g false
abbrev JNb (d:Nat) (o:BinOp) (x y:Nat) (g:Nat):Ins:=JG d (Jb o x y) g false
abbrev JNk (d:Nat) (o:BinOp) (x:Nat) (n:Int) (g:Nat):Ins:=JG d (Jk o x n) g false
abbrev JNn (d:Nat) (x:Nat) (g:Nat):Ins:=JG d (Jn x) g false
abbrev JNp (d:Nat) (x y:Nat) (g:Nat):Ins:=JG d (Jp x y) g false
abbrev JNa (d:Nat) (n x i:Nat) (g:Nat):Ins:=JG d (Ja n x i) g false
abbrev JNc (d:Nat) (f:FuncId) (l:List X) (g:Nat):Ins:=JG d (Jc f l) g false
abbrev JUs (n x y:Nat):Ins:=JN (Js n x y)
structure Lk (b:Prop):Prop where
 h:b
theorem vR {a b:Prop} (h:b) (e:Lk b→a:=by (intro hlk;(repeat ((first|refine Va ?_|refine Vb ?_|refine Vc ?_|refine Vd ?_|refine Ve ?_|refine Vf ?_);(try simp only[go_sem,hP]);(repeat refine qJ ?_)));exact hlk.h)):a:=e ⟨h⟩
theorem vR0 {a b:Prop} (h:b) (e:Lk b→a:=by (intro hlk;(repeat ((first|refine Va ?_|refine Vb ?_|refine Vc ?_|refine Vd ?_|refine Ve ?_|refine Vf ?_);(try simp only[go_sem,hP,Zaj,List.length_map]);(repeat refine qJ ?_)));exact hlk.h)):a:=e ⟨h⟩
theorem vR1 {a b:Prop} (h:b) (e:Lk b→a:=by (intro hlk;(repeat ((first|refine Va ?_|refine Vb ?_|refine Vc ?_|refine Vd ?_|refine Ve ?_|refine Vf ?_);(try simp only[go_sem,hP,List.length_map,hne]);(repeat refine qJ ?_)));exact hlk.h)):a:=e ⟨h⟩
theorem vR2 {a b:Prop} (h:b) (e:Lk b→a:=by (intro hlk;(repeat ((first|refine Va ?_|refine Vb ?_|refine Vc ?_|refine Vd ?_|refine Ve ?_|refine Vf ?_);(try simp only[go_sem,hP,Zaj]);(repeat refine qJ ?_)));exact hlk.h)):a:=e ⟨h⟩
theorem vR3 {a b:Prop} (h:b) (e:Lk b→a:=by (intro hlk;(repeat ((first|refine Va ?_|refine Vb ?_|refine Vc ?_|refine Vd ?_|refine Ve ?_|refine Vf ?_);(try simp only[go_sem,hP,List.length_map]);(repeat refine qJ ?_)));exact hlk.h)):a:=e ⟨h⟩
theorem vR4 {a b:Prop} (h:b) (e:Lk b→a:=by (intro hlk;(repeat ((first|refine Va ?_|refine Vb ?_|refine Vc ?_|refine Vd ?_|refine Ve ?_|refine Vf ?_);(try simp only[go_sem,hP,ZaY,List.length_map]);(repeat refine qJ ?_)));exact hlk.h)):a:=e ⟨h⟩
theorem vR5 {a b:Prop} (h:b) (e:Lk b→a:=by (intro hlk;(repeat ((first|refine Va ?_|refine Vb ?_|refine Vc ?_|refine Vd ?_|refine Ve ?_|refine Vf ?_);(try simp only[go_sem,hP,Wh.avs,Zaj]);(repeat refine qJ ?_)));exact hlk.h)):a:=e ⟨h⟩
theorem vR6 {a b:Prop} (h:b) (e:Lk b→a:=by (intro hlk;(repeat ((first|refine Va ?_|refine Vb ?_|refine Vc ?_|refine Vd ?_|refine Ve ?_|refine Vf ?_);(try simp only[go_sem,hP,beq_self_eq_true]);(repeat refine qJ ?_)));exact hlk.h)):a:=e ⟨h⟩
theorem vR7 {a b:Prop} (h:b) (e:Lk b→a:=by (intro hlk;(repeat ((first|refine Va ?_|refine Vb ?_|refine Vc ?_|refine Vd ?_|refine Ve ?_|refine Vf ?_);(try simp only[go_sem,hP,Wh.av,Wh.avs,Zaj]);(repeat refine qJ ?_)));exact hlk.h)):a:=e ⟨h⟩
theorem vA {a b:Prop} (x:a) (y:b):a∧b:=⟨x,y⟩
theorem vW {w a b:Prop} (x:w) (h:b) (e:w→Lk b→a:=by (intro w hlk;(repeat ((first|refine Va ?_|refine Vb ?_|refine Vc ?_|refine Vd ?_|refine Ve ?_|refine Vf ?_);(try simp only[go_sem,hP,w]);(repeat refine qJ ?_)));exact hlk.h)):a:=e x ⟨h⟩
theorem vV {a b:Prop} (h:b) (e:Lk b→a:=by (intro hlk;(first|refine Va ?_|refine Vb ?_|refine Vc ?_|refine Vd ?_|refine Ve ?_|refine Vf ?_);exact hlk.h)):a:=e ⟨h⟩
theorem vQ {a b:Prop} (h:b) (e:Lk b→a:=by (intro hlk;(repeat refine qJ ?_);exact hlk.h)):a:=e ⟨h⟩
theorem vT {a b:Prop} (h:b) (e:Lk b→a:=by (intro hlk;refine Zak ?_;simp only[Zaq,inQ,ZgY,ZcN,Zae,ZaI];simp only[go_sem,ZaH,AV.port,AV.portL,exists_eq_left'];(first|(refine (fun (_:True)=>AVle.of rfl) ?_;exact hlk.h)|(refine AVle.of ?_;exact hlk.h)|exact hlk.h))):a:=e ⟨h⟩
theorem vEr {o:Nat→Ob} {e e':Nat→AV} (h:ZeR o e e':=by ((repeat' (first|exact ZaW _ _|refine ZaJ ?_ ?_))<;>((try simp only[ZaT,ZbG,ZbH,Nat.reduceEqDiff,reduceIte]);first|exact AWk.refl _ _|exact AWk.int (by omega)|exact AWk.int (by rw[w64 (by omega) (by omega)];omega)|exact AWk.grow rfl|exact AWk.nil _|exact AWk.of (by rfl)))):ZeR o e e':=h
theorem vEi {o:Nat→Ob} {e e':Nat→AV} (h:ZeR o e e':=by ((repeat' (first|exact ZaW _ _|refine ZaJ ?_ ?_))<;>((try simp only[ZaT,ZbG,ZbH,Nat.reduceEqDiff,reduceIte]);first|exact AWk.refl _ _|exact AWk.int (by omega)|exact AWk.int (by rw[w64 (by omega) (by omega)];omega)|exact AWk.grow rfl|exact AWk.nil _|exact AWk.of (by simp[Zaj])))):ZeR o e e':=h
theorem vC {C:Ctx} {Q:Exit→St→Prop} {σ:St} {x:X} {t f:VC} {b:Bool} (ht:b=true→WV C t Q σ) (hf:b=false→WV C f Q σ) (hx:σ.val x= .c (.bool b):=by rfl):WV C (.cond x t f) Q σ:=Zav hx ht hf
end Go.V
/-
 Routes as data,and what comes of them:plain.
-/
namespace Go.Proofs.YtcggfogkfhlmlaaGreatDoor
open Go Go.V
abbrev iv (n:Int):AV:=.c (.int .i64 n)
def Zaj (l:List Int):CD:=.sl 1 (l.map fun n=>[.int .i64 n])
def Zah (n lo hi:Int):Bool:=decide (lo≤n)&&decide (n≤hi)
theorem Zd0 {l:List Int} (h:(Zaj l).lens):l.length≤9223372036854775807:=by
 simp only[Zaj,CD.lens,List.length_map,maxLen] at h;omega
theorem Za7 {α β:Type} {l:List α} {f:α→β} {k:Nat} {d:β} (h:k<l.length):(l.map f).getD k d=f l[k]:=by
 simp[h]
theorem Zd9 {α:Type} {l:List α} {k:Nat} (p:α→Bool) (h:k<l.length):(l.take (k+1)).all p=((l.take k).all p&&p l[k]):=by
 rw[List.take_succ_eq_append_getElem h,List.all_append];simp[List.all_cons]
theorem ZBe (a b:Nat):((a:Int)==(b:Int))=(a==b):=by rw[Bool.eq_iff_iff];simp;omega
theorem Zx9 (a b:Nat):((a:Int) !=(b:Int))= !(a==b):=by rw[bne,ZBe]
end Go.Proofs.YtcggfogkfhlmlaaGreatDoor
namespace Go.Proofs.YtcggfogkfhlmlaaGreatDoor
open Go Go.V
def ZzQ:FC:=⟨3,15,[.t 6],(.seq (.ops [JSB 6 false]) (.seq (.ops [JSm 7 1,JSm 8 0,JSb 9 .leq 7 8,JSm 10 9,JTm 11 0 10,JTm 12 2 10,JTb 13 .leq 11 12 10,JSp 14 10 13,JSm 6 14]) .ret))⟩
abbrev Zwb:List Ins:=[JSm 16 8,JSm 17 2,JSc 18 67 [.t 16,(.k (Jz 1)),.t 17],JS 19 (.un .not (.t 18)),JSm 20 19,JNm 21 7 20,JNk 22 .gtr 21 0 20,JNm 23 22 20,JTm 24 8 23,JTm 25 0 23,JTm 26 7 23,JTk 27 .sub 26 1 23,JTa 28 1 25 27 23,JTl 29 28 23,JTb 30 .leq 24 29 23,JNp 31 23 30 20,JSo 32 20 31]
-- K139_1: changed and kept: [11]
abbrev Ztw:VC:=(.seq (.seq (.ops [JSm 9 0,JSn 10 9,JSi 11 0]) (.block 0 (.loop (.seq (.ops [JSb 12 .lss 11 10]) (.seq (.cond (.t 12) .skip (.exit 0)) (.seq (.block 1 (.seq (.ops [JSm 13 11,JSa 14 1 9 11,JSl 15 14,JSm 7 13,JSm 8 15]) (.seq (.ops Zwb) (.cond (.t 32) (.seq (.ops [JSB 6 false]) .ret) .skip)))) (.ops [JSk 33 .add 11 1,JSm 11 33]))))))) (.seq (.ops [JSm 34 0,JSn 35 34,JSm 36 1,JSb 37 .leq 35 36,JSm 6 37]) .ret))
def Zvl:FC:=⟨3,38,[.t 6],(.seq (.ops [JSB 6 false]) Ztw)⟩
theorem c67:Zao Tryz.prog [] 67=some ZzQ:=by kernel_rfl
theorem ZAJ:Zao Tryz.prog [] 139=some Zvl:=by kernel_rfl
attribute [local go_sem] Nat.reduceEqDiff Nat.reduceAdd Nat.reduceMul reduceIte Nat.reduceLeDiff Nat.reduceLT Nat.reduceBEq reduceCtorEq
structure Wh where
 ro:Int
 no:List Int
 co:List Int
def Wh.avs (w:Wh):List AV:=[.c (.int .i64 w.ro),.c (Zaj w.no),.c (Zaj w.co)]
def Wh.av (w:Wh):AV:=.agg w.avs
theorem ZaD {l:List Int} {i:Nat} (hi:i<l.length):(l.map fun n=>[CD.int .i64 n]).getD i []=[.int .i64 (l.getD i 0)]:=by
 rw[Za7 hi,List.getD_eq_getElem?_getD,List.getElem?_eq_getElem hi];rfl
theorem Zdu (a b c:Int):FSpec Tryz.prog 67 [iv a,iv b,iv c] (.c (.bool (Zah a b c))):=by
 refine Zac c67 (Nat.le_refl _) (by decide) fun C hP hN hC hL=> ?_;rw[Zad]
 simp only[ZzQ];refine vR ?_;(refine vT ?_;try exact trivial)
def Zgh (lo hi:Int) (l:List Int):Nat→Bool
 |0=>true
 |k+1=>Zgh lo hi l k&&(Zah (l.getD k 0) lo hi&&(decide (k=0)||decide (l.getD (k -1) 0<l.getD k 0)))
theorem Zey {lo hi:Int} {l:List Int}:∀{k m:Nat},Zgh lo hi l k=false→k≤m→Zgh lo hi l m=false
 |k,0,h,hm=>by rwa [show k=0 by omega] at h
 |k,m+1,h,hm=>by
  rcases Nat.lt_or_ge m k with h1|h1
  ·rwa [show k=m+1 by omega] at h
  ·unfold Zgh;rw[Zey h h1];rfl
def ZhH (lo hi:Int) (l:List Int):Bool:=Zgh lo hi l l.length
theorem ZjE {lo hi:Int} {l:List Int} (h:ZhH lo hi l=true):∀n∈l,lo≤n∧n≤hi:=by
 have key:∀k,Zgh lo hi l k=true→∀i,i<k→lo≤l.getD i 0∧l.getD i 0≤hi:=by
  intro k;induction k with
  |zero=>intro _ i hi;omega
  |succ k ih=>
   intro h i hi;simp only[Zgh,Bool.and_eq_true,Zah,decide_eq_true_eq] at h;rcases Nat.lt_or_ge i k with h1|h1
   ·exact ih h.1 i h1
   ·rw[show i=k by omega];exact h.2.1
 intro n hn;obtain ⟨i,hi,rfl⟩:=List.getElem_of_mem hn;have:=key _ h i hi;rwa [List.getD_eq_getElem?_getD,List.getElem?_eq_getElem hi] at this
theorem ZnK {lo hi:Int} {l:List Int}:∀k,Zgh lo hi l k=true→∀i:Nat,i<k→lo+i≤l.getD i 0
 |0,_,i,hi=>by omega
 |k+1,h,i,hi=>by
  simp only[Zgh,Bool.and_eq_true,Bool.or_eq_true,Zah,decide_eq_true_eq] at h;have ih:=ZnK k h.1;rcases Nat.lt_or_ge i k with h1|h1
  ·exact ih i h1
  ·obtain rfl:i=k:=by omega
   rcases h.2.2 with h2|h2
   ·subst h2;have:=h.2.1.1;omega
   ·rcases Nat.eq_zero_or_pos i with h3|h3
    ·subst h3;have:=h.2.1.1;omega
    ·have:=ih (i -1) (by omega);omega
theorem ZpP {hi:Int} {l:List Int} (h:ZhH 1 hi l=true) (h0:0≤hi):(l.length:Int)≤hi:=by
 rcases Nat.eq_zero_or_pos l.length with h1|h1
 ·omega
 ·have h2:=ZnK _ h (l.length -1) (by omega);have h3:=ZjE h (l.getD (l.length -1) 0) (by rw[List.getD_eq_getElem?_getD,List.getElem?_eq_getElem (by omega)];exact List.getElem_mem _);omega
set_option maxHeartbeats 8000000 in
theorem rising51 (l:List Int) (many most:Int):FSpec Tryz.prog 139 [.c (Zaj l),iv many,iv most] (.c (.bool (ZhH 1 most l&&decide ((l.length:Int)≤many)))):=by
 refine Zac ZAJ (Nat.le_refl _) (by decide) fun C hP hN hC hL=> ?_;rw[Zad]
 have hl:l.length≤9223372036854775807:=by simp only[AV.lensL,AV.lens] at hL;exact Zd0 hL.1
 simp only[Zvl];refine vR ?_;refine ZaQ (fun k:Nat=>⟨upd (upd (upd (upd (upd (upd e0 0 (.c (Zaj l))) 1 (iv many)) 2 (iv most)) 9 (.c (Zaj l))) 10 (iv l.length)) 11 (iv k),o0⟩) (fun k=>k≤l.length∧Zgh 1 most l k=true) (fun k=>l.length -k) 0 ⟨Nat.zero_le _,rfl⟩ ?_ ?_
 ·(refine Zai (by simp only[go_sem];exact vEi) (by simp only[go_sem];exact Zaa))
 rintro k ⟨hk,hr⟩;refine vR0 ?_;(refine vC ?_ ?_<;>intro h)
 ·have hi:k<l.length:=by simpa using h
  have hw:=w64 (n:=(k:Int)+1) (by omega) (by omega);have hgd:=ZaD hi;have hs:Zgh 1 most l (k+1)=(Zah (l.getD k 0) 1 most&&(decide (k=0)||decide (l.getD (k -1) 0<l.getD k 0))):=by
   conv=>lhs;unfold Zgh
   rw[hr];rfl
  have hfail:Zgh 1 most l (k+1)=false→ZhH 1 most l=false:=fun h=>Zey h hi
  generalize l.getD k 0=a at hgd hs;have hz0:(Go.IntKind.i64.wrap (((0:Nat):Int) -1)).toNat=0:=rfl;by_cases hz:k=0
  ·subst hz;have hd0:decide ((0:Int)<((0:Nat):Int))=false:=rfl;have hs:Zgh 1 most l (0+1)=Zah a 1 most:=by rw[hs];simp
   (repeat (refine vV ?_;(try simp only[go_sem,hP,hgd,Zaj,List.length_map,Int.toNat_natCast,Int.ofNat_lt,hi,Int.natCast_nonneg,hd0,hz0]);refine vQ ?_))
   (refine Zau (Zdu a 1 most) ?_;simp only[go_sem,hP,hd0,hz0,hgd,Zaj,List.length_map,Int.toNat_natCast];refine vQ ?_;(repeat (refine vV ?_;(try simp only[go_sem,hP,hd0,hz0,hgd,Zaj,List.length_map,Int.toNat_natCast]);refine vQ ?_)))
   by_cases hin:Zah a 1 most=true
   ·rw[hin] at hs;(refine vC ?_ ?_<;>intro h)
    ·simp[hin] at h
    refine vW hw ?_;refine ⟨0+1,⟨by omega,hs⟩,by omega,?_⟩;(refine Zai (by simp only[go_sem];exact vEi) (by simp only[go_sem];exact Zaa))
   ·have hin:Zah a 1 most=false:=by simpa using hin
    rw[hin] at hs;rw[hfail hs];(refine vC ?_ ?_<;>intro h)
    ·refine vR ?_;(refine vT ?_;try exact trivial)
    ·simp[hin] at h
  ·have hgp:=ZaD (l:=l) (i:=k -1) (by omega);generalize l.getD (k -1) 0=b at hgp hs;have hd1:decide ((0:Int)<(k:Int))=true:=by rw[decide_eq_true_eq];omega
   have wi:=w64 (n:=(k:Int) -1) (by omega) (by omega);have ei:((k:Int) -1).toNat=k -1:=by omega
   have hlt:(k:Int) -1<(l.length:Int):=by omega
   have hge:(0:Int)≤(k:Int) -1:=by omega
   have hs:Zgh 1 most l (k+1)=(Zah a 1 most&&decide (b<a)):=by rw[hs];simp[hz]
   (repeat (refine vV ?_;(try simp only[go_sem,hP,hgd,Zaj,List.length_map,Int.toNat_natCast,Int.ofNat_lt,hi,Int.natCast_nonneg,hd1]);refine vQ ?_))
   (refine Zau (Zdu a 1 most) ?_;simp only[go_sem,hP,hd1,hgd,hgp,wi,ei,hlt,hge,Zaj,List.length_map,Int.toNat_natCast,Int.ofNat_lt,hi,Int.natCast_nonneg];refine vQ ?_;(repeat (refine vV ?_;(try simp only[go_sem,hP,hd1,hgd,hgp,wi,ei,hlt,hge,Zaj,List.length_map,Int.toNat_natCast,Int.ofNat_lt,hi,Int.natCast_nonneg]);refine vQ ?_)))
   by_cases hin:(Zah a 1 most&&decide (b<a))=true
   ·rw[hin] at hs;rw[Bool.and_eq_true,decide_eq_true_eq] at hin;(refine vC ?_ ?_<;>intro h)
    ·rw[hin.1] at h;simp at h;omega
    refine vW hw ?_;refine ⟨k+1,⟨by omega,hs⟩,by omega,?_⟩;(refine Zai (by simp only[go_sem];exact vEi) (by simp only[go_sem];exact Zaa))
   ·have hin:(Zah a 1 most&&decide (b<a))=false:=by simpa using hin
    rw[hin] at hs;rw[hfail hs];(refine vC ?_ ?_<;>intro h)
    ·refine vR ?_;(refine vT ?_;try exact trivial)
    ·cases h1:Zah a 1 most with
     |false=>rw[h1] at h;simp at h
     |true=>rw[h1] at h hin;simp at h hin;omega
 ·have hi:k=l.length:=by simp at h;omega
  subst hi;unfold ZhH;rw[hr];refine vR0 ?_;(refine vT ?_;try exact trivial)
abbrev Zv2:List Ins:=[JSf 3 0 1,JSl 4 3,JSc 5 67 [.t 4,(.k (Jz 1)),(.k (Jz 200))],JS 6 (.un .not (.t 5)),JSm 7 6,JNf 8 1 1 7,JNl 9 8 7,JNf 10 0 1 7,JNl 11 10 7,JNc 12 139 [.t 9,(.k (Jz 12)),.t 11] 7,JG 13 (.un .not (.t 12)) 7 false,JSo 14 7 13,JSm 15 14,JNf 16 2 1 15,JNl 17 16 15,JNc 18 139 [.t 17,(.k (Jz 4)),(.k (Jz 100))] 15,JG 19 (.un .not (.t 18)) 15 false,JSo 20 15 19]
def Zu4:FC:=⟨1,21,[.t 2],(.seq (.ops [JS 1 (.box 3 (.t 0)),JSi 2 0]) (.seq (.seq (.ops Zv2) (.cond (.t 20) (.seq (.ops [JSi 2 10]) .ret) .skip)) (.seq (.ops [JSi 2 0]) .ret)))⟩
abbrev ZyH:List Ins:=[JFm 22 7,JFm 23 8,JFm 24 10,JFb 25 .sub 23 24,JFf 26 0 3,JFf 27 0 26,JFl 28 27,JFb 29 .add 25 28,JFf 30 0 3,JFf 31 0 30,JFl 32 31,JFb 33 .quo 29 32,JFm 34 1,JFm 35 10,JFb 36 .sub 34 35,JFf 37 0 3,JFf 38 0 37,JFl 39 38,JFb 40 .add 36 39,JFf 41 0 3,JFf 42 0 41,JFl 43 42,JFb 44 .quo 40 43,JFb 45 .sub 33 44,JSb 46 .add 22 45,JSm 7 46]
-- Zuj: changed and kept: [18,7]
abbrev Zuj:List Nat:=[1,3,8,16,17]
abbrev ZxC:VC:=(.seq (.seq (.ops [JSf 14 0 3,JSf 15 1 14,JSl 16 15,JSn 17 16,JSi 18 0]) (.block 0 (.loop (.seq (.ops [JSb 19 .lss 18 17]) (.seq (.cond (.t 19) .skip (.exit 0)) (.seq (.block 1 (.seq (.ops [JSa 20 1 16 18,JSl 21 20,JSm 10 21]) (.dops ZyH))) (.ops [JSk 47 .add 18 1,JSm 18 47]))))))) (.seq (.ops [JSm 48 8,JSf 49 0 3,JSf 50 0 49,JSl 51 50,JSb 52 .rem 48 51,JSm 53 7,JSm 6 52,JSm 7 53]) .ret))
def ZzP:FC:=⟨3,54,[.t 6,.t 7],(.seq (.ops [JS 3 (.box 3 (.t 0)),JSi 6 0,JSi 7 0]) (.seq (.ops [JSm 11 1,JSm 12 2,JSb 13 .add 11 12,JSm 8 13]) ZxC))⟩
def ZzM:FC:=⟨2,11,[.t 4],(.seq (.ops [JS 2 (.box 3 (.t 0)),JSB 4 false]) (.seq (.ops [JSm 5 1,JSf 6 0 2,JSf 7 0 6,JSl 8 7,JSk 9 .sub 8 1,JSc 10 67 [.t 5,(.k (Jz 0)),.t 9],JSm 4 10]) .ret))⟩
def ZzO:FC:=⟨2,12,[.t 4],(.seq (.ops [JS 2 (.box 3 (.t 0)),JSB 4 false]) (.seq (.ops [JSm 5 1,JSf 6 0 2,JSf 7 2 6,JSl 8 7,JSn 9 8,JSk 10 .sub 9 1,JSc 11 67 [.t 5,(.k (Jz 0)),.t 10],JSm 4 11]) .ret))⟩
def Zz1:FC:=⟨2,12,[.t 4],(.seq (.ops [JS 2 (.box 3 (.t 0)),JSB 4 false]) (.seq (.ops [JSm 5 1,JSk 6 .eql 5 (-1),JSm 7 6,JNL 8 3 2 7,JNm 9 1 7,JNc 10 64 [.t 8,.t 9] 7,JSo 11 7 10,JSm 4 11]) .ret))⟩
theorem ZAs:Zao Tryz.prog [] 106=some Zu4:=by kernel_rfl
theorem c65:Zao Tryz.prog [] 65=some ZzP:=by kernel_rfl
theorem c62:Zao Tryz.prog [] 62=some ZzM:=by kernel_rfl
theorem c64:Zao Tryz.prog [] 64=some ZzO:=by kernel_rfl
theorem c87:Zao Tryz.prog [] 87=some Zz1:=by kernel_rfl
def whB (w:Wh):Bool:=Zah w.ro 1 200&&(ZhH 1 w.ro w.no&&decide ((w.no.length:Int)≤12))&&(ZhH 1 100 w.co&&decide ((w.co.length:Int)≤4))
structure WhOk (w:Wh):Prop where
 ro:1≤w.ro∧w.ro≤200
 no:∀n∈w.no,1≤n∧n≤w.ro
 nl:w.no.length≤12
 nr:(w.no.length:Int)≤w.ro
 co:∀n∈w.co,1≤n∧n≤100
 cl:w.co.length≤4
theorem ZeQ {w:Wh} (h:whB w=true):WhOk w:=by
 simp only[whB,Bool.and_eq_true,decide_eq_true_eq,Zah] at h;exact ⟨h.1.1,ZjE h.1.2.1,by omega,ZpP h.1.2.1 (by omega),ZjE h.2.1,by omega⟩
def whE (w:Wh):Int:=if whB w then 0 else 10
theorem Zmh (w:Wh):FSpec Tryz.prog 106 [w.av] (iv (whE w)):=by
 refine Zac ZAs (Nat.le_refl _) (by decide) fun C hP hN hC hL=> ?_;rw[Zad]
 simp only[Zu4,Wh.av,Wh.avs];refine vR5 ?_;(refine Zau (Zdu w.ro 1 200) ?_;simp only[go_sem,hP,Zaj];refine vQ ?_;refine vR2 ?_)
 by_cases h1:Zah w.ro 1 200=true
 ·simp only[go_sem,h1];(refine Za9 (fun hG=>rising51 w.no 12 w.ro) ?_;simp only[go_sem,hP,Zaj,h1];refine vQ ?_;(repeat (refine vV ?_;(try simp only[go_sem,hP,Zaj,h1]);refine vQ ?_)))
  by_cases h2:(ZhH 1 w.ro w.no&&decide ((w.no.length:Int)≤12))=true
  ·simp only[go_sem,h2];(refine Za9 (fun hG=>rising51 w.co 4 100) ?_;simp only[go_sem,hP,Zaj,h1,h2];refine vQ ?_;(repeat (refine vV ?_;(try simp only[go_sem,hP,Zaj,h1,h2]);refine vQ ?_)))
   by_cases h3:(ZhH 1 100 w.co&&decide ((w.co.length:Int)≤4))=true
   ·(refine vC ?_ ?_<;>intro h)
    ·simp[h3] at h
    ·refine vR ?_;have:whE w=0:=by unfold whE whB;rw[h1,h2,h3];rfl
     rw[this];(refine vT ?_;try exact trivial)
   ·have h3:(ZhH 1 100 w.co&&decide ((w.co.length:Int)≤4))=false:=by simpa using h3
    have:whE w=10:=by unfold whE whB;rw[h1,h2,h3];rfl
    rw[this];(refine vC ?_ ?_<;>intro h)
    ·refine vR ?_;(refine vT ?_;try exact trivial)
    ·simp[h3] at h
  ·have h2:(ZhH 1 w.ro w.no&&decide ((w.no.length:Int)≤12))=false:=by simpa using h2
   have:whE w=10:=by unfold whE whB;rw[h1,h2];rfl
   rw[this];simp only[go_sem,h2];(refine ZaC ?_;simp only[go_sem,hP];refine vQ ?_;refine vR ?_)
   (refine vC ?_ ?_<;>intro h)
   ·refine vR ?_;(refine vT ?_;try exact trivial)
   ·simp at h
 ·have h1:Zah w.ro 1 200=false:=by simpa using h1
  have:whE w=10:=by unfold whE whB;rw[h1];rfl
  rw[this];simp only[go_sem,h1];(refine ZaC ?_;simp only[go_sem,hP];refine vQ ?_;refine vR ?_)
  (refine ZaC ?_;simp only[go_sem,hP];refine vQ ?_;refine vR ?_)
  (refine vC ?_ ?_<;>intro h)
  ·refine vR ?_;(refine vT ?_;try exact trivial)
  ·simp at h
def Zke (r p c n:Int):Int:=(p+c -n+r)/r -(p -n+r)/r
def plK (w:Wh) (p c:Int) (k:Nat):Int:=((w.no.take k).map (Zke w.ro p c)).sum
def plays (w:Wh) (p c:Int):Int:=(w.no.map (Zke w.ro p c)).sum
theorem ZmG {r p c n:Int} (hr:1≤r) (hc:0≤c):0≤Zke r p c n∧Zke r p c n≤c/r+1:=by
 unfold Zke;have h1:(p -n+r)/r≤(p+c -n+r)/r:=Int.ediv_le_ediv (by omega) (by omega);refine ⟨by omega,?_⟩;have h2:=Int.lt_ediv_add_one_mul_self (p -n+r) (b:=r) (by omega);have h3:=Int.lt_ediv_add_one_mul_self c (b:=r) (by omega);have h4:(p+c -n+r)/r<(p -n+r)/r+c/r+2:=by
  refine Int.ediv_lt_of_lt_mul (by omega) ?_;rw[Int.add_mul] at h2 h3;rw[Int.add_mul,Int.add_mul];omega
 omega
theorem ZkA {r p c:Int} (hr:1≤r) (hc:0≤c):∀l:List Int,0≤(l.map (Zke r p c)).sum∧(l.map (Zke r p c)).sum≤l.length*(c/r+1)
 |[]=>by simp
 |n::l=>by
  have h1:=ZmG (p:=p) (n:=n) hr hc;have h2:=ZkA (p:=p) hr hc l;simp only[List.map_cons,List.sum_cons,List.length_cons,Int.natCast_add,Int.natCast_one,Int.add_mul,Int.one_mul];omega
theorem Znc {w:Wh} (hw:WhOk w) {p c:Int} (hc:0≤c) (k:Nat):0≤plK w p c k∧plK w p c k≤c+12:=by
 have h1:=ZkA (p:=p) hw.ro.1 hc (w.no.take k);refine ⟨h1.1,Int.le_trans h1.2 ?_⟩;have hl:((w.no.take k).length:Int)≤w.no.length:=by rw[List.length_take];omega
 have h0:0≤c/w.ro:=Int.ediv_nonneg hc (by have:=hw.ro;omega);have h2:((w.no.take k).length:Int)*(c/w.ro)≤w.ro*(c/w.ro):=Int.mul_le_mul_of_nonneg_right (by have:=hw.nr;omega) h0;have h3:w.ro*(c/w.ro)≤c:=by have:=Int.mul_ediv_add_emod c w.ro;have:=Int.emod_nonneg c (b:=w.ro) (by have:=hw.ro;omega);omega
 have:=hw.nl;rw[Int.mul_add,Int.mul_one];omega
theorem Znd (w:Wh) (p c:Int):plays w p c=plK w p c w.no.length:=by unfold plays plK;rw[List.take_length]
theorem Zd5 {w:Wh} (hw:WhOk w) {p c:Int} (hc:0≤c):0≤plays w p c∧plays w p c≤c+12:=by rw[Znd];exact Znc hw hc _
theorem Zpu {w:Wh} {p c:Int} {k:Nat} (h:k<w.no.length):plK w p c (k+1)=plK w p c k+Zke w.ro p c (w.no.getD k 0):=by
 unfold plK;rw[List.take_succ_eq_append_getElem h,List.map_append,List.sum_append,List.getD_eq_getElem?_getD,List.getElem?_eq_getElem h];simp
theorem tdv {a r:Int} (h:0≤a):a.tdiv r=a/r:=Int.tdiv_eq_ediv_of_nonneg h
set_option maxHeartbeats 8000000 in
theorem turn84 {w:Wh} (hw:WhOk w) {p c:Int} (hp:0≤p∧p<w.ro) (hc:0≤c∧c≤100000):FSpec Tryz.prog 65 [w.av,iv p,iv c] (.tup [iv ((p+c) % w.ro),iv (plays w p c)]):=by
 have hro:=hw.ro;have hl:=hw.nl;have w1:=w64 (n:=p+c) (by omega) (by omega);refine Zac c65 (Nat.le_refl _) (by decide) fun C hP hN hC hL=> ?_;rw[Zad]
 simp only[ZzP,Wh.av,Wh.avs];(repeat (refine vV ?_;(try simp only[go_sem,hP,Wh.avs,Zaj,w1]);refine vQ ?_))
 (refine Zax Zuj [] (fun k:Nat=>k≤w.no.length) (fun k=>w.no.length -k) (fun k=>[(18,iv k),(7,iv (plK w p c k))]) (fun _=>[]) 0 (Nat.zero_le _) ?_ ?_)
 ·(refine Zai (by simp only[go_sem];((repeat' (first|exact ZaW _ _|refine ZaJ ?_ ?_))<;>((try simp only[ZaT,ZbG,ZbH,Nat.reduceEqDiff,reduceIte]);first|exact AWk.refl _ _|exact AWk.int (by omega)|exact AWk.int (by rw[w64 (by omega) (by omega)];omega)|exact AWk.grow rfl|exact AWk.nil _|exact AWk.of (by simp[plK])))) (by simp only[go_sem];exact Zaa))
 ·intro k hk;refine vR ?_;(refine vC ?_ ?_<;>intro h)
  ·have hi:k<w.no.length:=by simpa using h
   have hgd:=ZaD hi;have hs:=Zpu (p:=p) (c:=c) hi;have hb1:=Znc hw (p:=p) hc.1 k;have hb2:=Znc hw (p:=p) hc.1 (k+1);have hn:=hw.no (w.no.getD k 0) (by rw[List.getD_eq_getElem?_getD,List.getElem?_eq_getElem hi];exact List.getElem_mem _);generalize w.no.getD k 0=n at hgd hs hn;have hh:=ZmG (p:=p) (n:=n) hro.1 hc.1;have w2:=w64 (n:=p+c -n) (by omega) (by omega);have w3:=w64 (n:=p+c -n+w.ro) (by omega) (by omega);have w4:=w64 (n:=p -n) (by omega) (by omega);have w5:=w64 (n:=p -n+w.ro) (by omega) (by omega);have t1:=tdv (a:=p+c -n+w.ro) (r:=w.ro) (by omega);have t2:=tdv (a:=p -n+w.ro) (r:=w.ro) (by omega);have q1:0≤(p+c -n+w.ro)/w.ro∧(p+c -n+w.ro)/w.ro≤p+c -n+w.ro:=⟨Int.ediv_nonneg (by omega) (by omega),Int.ediv_le_self _ (by omega)⟩;have q2:0≤(p -n+w.ro)/w.ro∧(p -n+w.ro)/w.ro≤p -n+w.ro:=⟨Int.ediv_nonneg (by omega) (by omega),Int.ediv_le_self _ (by omega)⟩;have w6:=w64 (n:=(p+c -n+w.ro)/w.ro) (by omega) (by omega);have w7:=w64 (n:=(p -n+w.ro)/w.ro) (by omega) (by omega);have w8:IntKind.i64.wrap ((p+c -n+w.ro)/w.ro -(p -n+w.ro)/w.ro)=Zke w.ro p c n:=w64 (by omega) (by omega);have w9:IntKind.i64.wrap (plK w p c k+Zke w.ro p c n)=plK w p c (k+1):=by rw[hs];exact w64 (by omega) (by omega)
   have w10:=w64 (n:=(k:Int)+1) (by omega) (by omega);have hz:w.ro≠0:=by omega
   (repeat (refine vV ?_;(try simp only[go_sem,hP,hgd,Zaj,List.length_map,Int.toNat_natCast,Int.ofNat_lt,hi,Int.natCast_nonneg,w1,w2,w3,w4,w5,t1,t2,w6,w7,w8,w9,w10,hz]);refine vQ ?_))
   refine ⟨k+1,by omega,by omega,?_⟩;exact Zaz
  ·have hi:k=w.no.length:=by simp at h;omega
   subst hi;have hz:w.ro≠0:=by omega
   have m1:(p+c).tmod w.ro=(p+c) % w.ro:=Int.tmod_eq_emod_of_nonneg (by omega);have w2:=w64 (n:=(p+c) % w.ro) (by have:=Int.emod_nonneg (p+c) hz;omega) (by have:=Int.emod_lt_of_pos (p+c) (b:=w.ro) (by omega);omega);refine vW (vA m1 (vA w2 hz)) ?_;rw[Znd];(refine vT ?_;try exact trivial)
theorem ZmK {w:Wh} (hw:WhOk w) (p:Int):FSpec Tryz.prog 62 [w.av,iv p] (.c (.bool (Zah p 0 (w.ro -1)))):=by
 have hro:=hw.ro;have w1:=w64 (n:=w.ro -1) (by omega) (by omega);refine Zac c62 (Nat.le_refl _) (by decide) fun C hP hN hC hL=> ?_;rw[Zad]
 simp only[ZzM,Wh.av,Wh.avs];(repeat (refine vV ?_;(try simp only[go_sem,hP,Wh.avs,Zaj,w1]);refine vQ ?_))
 (refine Zau (Zdu p 0 (w.ro -1)) ?_;simp only[go_sem,hP];refine vQ ?_;refine vR ?_)
 (refine vT ?_;try exact trivial)
theorem Zpb {w:Wh} (hw:WhOk w) (n:Int):FSpec Tryz.prog 64 [w.av,iv n] (.c (.bool (Zah n 0 (w.co.length -1)))):=by
 have hcl:=hw.cl;have w1:=w64 (n:=(w.co.length:Int) -1) (by omega) (by omega);refine Zac c64 (Nat.le_refl _) (by decide) fun C hP hN hC hL=> ?_;rw[Zad]
 simp only[ZzO,Wh.av,Wh.avs];(repeat (refine vV ?_;(try simp only[go_sem,hP,Wh.avs,Zaj,w1,List.length_map]);refine vQ ?_))
 (refine Zau (Zdu n 0 (w.co.length -1)) ?_;simp only[go_sem,hP,w1];refine vQ ?_;refine vW w1 ?_)
 (refine vT ?_;try exact trivial)
def ZhG (w:Wh) (n:Int):Bool:=(n== -1)||Zah n 0 (w.co.length -1)
theorem ZrS {w:Wh} (hw:WhOk w) (n:Int):FSpec Tryz.prog 87 [w.av,iv n] (.c (.bool (ZhG w n))):=by
 have hcl:=hw.cl;refine Zac c87 (Nat.le_refl _) (by decide) fun C hP hN hC hL=> ?_;rw[Zad]
 simp only[Zz1,Wh.av,Wh.avs];refine vR5 ?_;by_cases h1:n= -1
 ·subst h1;have hb:((-1:Int)== -1)=true:=rfl;refine vW hb ?_;(refine ZaC ?_;simp only[go_sem,hP];refine vQ ?_;refine vR ?_)
  (refine Zak ?_;simp only[Zaq,inQ,ZgY,ZcN,Zae,ZaI];simp only[go_sem,ZaH,AV.port,AV.portL,exists_eq_left',ZhG,hb];(first|exact AVle.of rfl|refine AVle.of ?_|skip))
 ·have hb:(n== -1)=false:=by simpa using h1
  simp only[go_sem,hb];(refine Za9 (fun hG=>Zpb hw n) ?_;simp only[go_sem,hP,Wh.av,Wh.avs,Zaj,hb];refine vQ ?_;(repeat (refine vV ?_;(try simp only[go_sem,hP,Wh.av,Wh.avs,Zaj,hb]);refine vQ ?_)))
  (refine Zak ?_;simp only[Zaq,inQ,ZgY,ZcN,Zae,ZaI];simp only[go_sem,ZaH,AV.port,AV.portL,exists_eq_left',ZhG,hb,Bool.false_or];(first|exact AVle.of rfl|refine AVle.of ?_|skip))
abbrev ZxD:VC:=(.cond (.t 9) (.seq (.dops [JFL 13 3 3,JFf 14 0 4,JFl 15 14,JFf 16 0 3,JFf 17 2 16,JFl 18 17,JFm 19 2,JFa 20 1 18 19,JFl 21 20,JSc 22 65 [.t 13,.t 15,.t 21],JSm 12 22,JFe 23 12 0,JFe 24 12 1,JFm 7 23,JSm 8 24]) (.seq (.ops [JSm 25 7,JSf 26 1 4,JSl 27 26,JSm 28 8,JSb 29 .add 27 28,JS 30 (.bld [Jz 0,Jz 0] [(0,1,(.t 25)),(1,1,(.t 29))]),JUs 2 6 30]) .ret)) (.seq (.ops [JSf 32 1 4,JSl 33 32,JSk 34 .gtr 33 0,JSm 31 34]) (.cond (.t 31) (.seq (.ops [JSf 35 1 4,JSl 36 35,JSk 37 .sub 36 1,JS 38 (.bld [Jz 0,Jz 0] [(1,1,(.t 37))]),JUs 2 6 38]) .ret) .skip)))
def ZzR:FC:=⟨3,40,[.cell 6 false 2],(.seq (.ops [JS 3 (.box 3 (.t 0)),JS 4 (.box 2 (.t 1)),JS 6 (.alloc [Jz 0,Jz 0])]) (.seq (.block 0 (.seq (.ops [JSm 10 2,JSk 11 .neq 10 (-1),JSm 9 11]) ZxD)) (.seq (.ops [JSL 39 2 4,JUs 2 6 39]) .ret)))⟩
-- Zqi: changed and kept: [8]
abbrev Zqi:List Nat:=[0,1,7]
abbrev Ztx:VC:=(.seq (.seq (.ops [JSm 6 0,JSn 7 6,JSi 8 0]) (.block 0 (.loop (.seq (.ops [JSb 9 .lss 8 7]) (.seq (.cond (.t 9) .skip (.exit 0)) (.seq (.block 1 (.seq (.ops [JSm 10 8,JSm 5 10]) (.seq (.ops [JSm 11 1,JSm 12 0,JSm 13 5,JSa 14 1 12 13,JSl 15 14,JS 16 (.call (.t 11) [.t 15])]) (.cond (.t 16) (.seq (.ops [JSm 17 5,JSm 4 17]) .ret) .skip)))) (.ops [JSk 18 .add 8 1,JSm 8 18]))))))) (.seq (.ops [JSi 4 (-1)]) .ret))
def ZrO:FC:=⟨2,19,[.t 4],(.seq (.ops [JSi 4 0]) Ztx)⟩
def ZrL:FC:=⟨2,9,[.t 4],(.seq (.ops [JSB 4 false]) (.seq (.ops [JSm 5 0,JSm 6 1,JSc 7 140 [.t 5,.t 6],JSk 8 .geq 7 0,JSm 4 8]) .ret))⟩
theorem c68:Zao Tryz.prog [] 68=some ZzR:=by kernel_rfl
theorem Zze:Zao Tryz.prog [] 140=some ZrO:=by kernel_rfl
theorem Zzb:Zao Tryz.prog [] 107=some ZrL:=by kernel_rfl
def Zgd (w:Wh) (pl cr a:Int):Int×Int:=if a= -1 then (if 0<cr then (0,cr -1) else (pl,cr)) else ((pl+w.co.getD a.toNat 0) % w.ro,cr+plays w pl (w.co.getD a.toNat 0))
theorem ZuE {w:Wh} (hw:WhOk w) {a:Int} (h:0≤a∧a≤w.co.length -1):1≤w.co.getD a.toNat 0∧w.co.getD a.toNat 0≤100:=by
 have hi:a.toNat<w.co.length:=by omega
 exact hw.co _ (by rw[List.getD_eq_getElem?_getD,List.getElem?_eq_getElem hi];exact List.getElem_mem _)
set_option maxHeartbeats 8000000 in
theorem act78 {w:Wh} (hw:WhOk w) {pl cr a:Int} (hp:0≤pl∧pl<w.ro) (hc:0≤cr∧cr≤1000000) (ha:ZhG w a=true):FSpec Tryz.prog 68 [w.av,.agg [iv pl,iv cr],iv a] (.agg [iv (Zgd w pl cr a).1,iv (Zgd w pl cr a).2]):=by
 have hcl:=hw.cl;refine Zac c68 (Nat.le_refl _) (by decide) fun C hP hN hC hL=> ?_;rw[Zad]
 simp only[ZzR,Wh.av,Wh.avs];refine vR5 ?_;by_cases h1:a= -1
 ·subst h1;have hb:((-1:Int) != -1)=false:=rfl;simp only[go_sem,hb];(refine vC ?_ ?_<;>intro h)
  ·simp at h
  ·refine vW hb ?_;by_cases h2:0<cr
   ·have w1:=w64 (n:=cr -1) (by omega) (by omega);(refine vC ?_ ?_<;>intro h)
    ·refine vW w1 ?_;(refine Zak ?_;simp only[Zaq,inQ,ZgY,ZcN,Zae,ZaI];simp only[go_sem,ZaH,AV.port,AV.portL,exists_eq_left',Zgd,h2,if_true];(first|exact AVle.of rfl|refine AVle.of ?_|skip))
    ·simp at h;omega
   ·(refine vC ?_ ?_<;>intro h)
    ·simp at h;omega
    ·refine vR ?_;(refine Zak ?_;simp only[Zaq,inQ,ZgY,ZcN,Zae,ZaI];simp only[go_sem,ZaH,AV.port,AV.portL,exists_eq_left',Zgd,h2,if_true,if_false];(first|exact AVle.of rfl|refine AVle.of ?_|skip))
 ·have hk:0≤a∧a≤w.co.length -1:=by
   simp only[ZhG,Bool.or_eq_true,Zah,Bool.and_eq_true,decide_eq_true_eq,beq_iff_eq] at ha;rcases ha with h|h
   ·exact absurd h h1
   ·exact h
  have hb:(a != -1)=true:=by simpa using h1
  have hi:a.toNat<w.co.length:=by omega
  have hi2:a<(w.co.length:Int):=by omega
  have hgd:=ZaD hi;have hco:=ZuE hw hk;have hb1:=Zd5 hw (p:=pl) (c:=w.co.getD a.toNat 0) (by omega);have e1:Zgd w pl cr a=((pl+w.co.getD a.toNat 0) % w.ro,cr+plays w pl (w.co.getD a.toNat 0)):=by unfold Zgd;rw[if_neg h1]
  have w1:=w64 (n:=cr+plays w pl (w.co.getD a.toNat 0)) (by omega) (by omega);rw[e1];generalize w.co.getD a.toNat 0=c at*;simp only[go_sem,hb];(refine vC ?_ ?_<;>intro h)
  ·(repeat (refine vV ?_;(try simp only[go_sem,hP,hgd,Zaj,List.length_map,hi2,hk.1]);refine vQ ?_))
   (refine Zau (turn84 hw hp (by omega:0≤c∧c≤100000)) ?_;simp only[go_sem,hP,Wh.av,Wh.avs,Zaj,w1];refine vQ ?_;(repeat (refine vV ?_;(try simp only[go_sem,hP,Wh.av,Wh.avs,Zaj,w1]);refine vQ ?_)))
   (refine vT ?_;try exact trivial)
  ·simp at h
def ZlA (p:Int→Bool) (l:List Int):Int:=match l.findIdx? p with|some i=>i|none=> -1
theorem Zhi (p:Int→Bool) (l:List Int):decide (ZlA p l≥0)=l.any p:=by
 unfold ZlA;cases h:l.findIdx? p with
 |none=>
  rw[List.findIdx?_eq_none_iff] at h;have:l.any p=false:=by rw[List.any_eq_false];intro x hx;simp[h x hx]
  rw[this];rfl
 |some i=>
  obtain ⟨hi,h1,_⟩:=List.findIdx?_eq_some_iff_getElem.1 h;have:l.any p=true:=by rw[List.any_eq_true];exact ⟨_,List.getElem_mem hi,h1⟩
  rw[this];simp
theorem Zbi {l:List Int} {k:Nat} (h:k<l.length):l.getD k 0=l[k]:=by rw[List.getD_eq_getElem?_getD,List.getElem?_eq_getElem h];rfl
set_option maxHeartbeats 8000000 in
theorem index52 (l:List Int) (f:FuncId) (p:Int→Bool) (hf:∀n∈l,FSpec Tryz.prog f [iv n] (.c (.bool (p n)))):FSpec Tryz.prog 140 [.c (Zaj l),.fn f []] (iv (ZlA p l)):=by
 refine Zac Zze (Nat.le_refl _) (by decide) fun C hP hN hC hL=> ?_;rw[Zad]
 have hl:l.length≤9223372036854775807:=by simp only[AV.lensL,AV.lens] at hL;exact Zd0 hL.1
 simp only[ZrO];refine vR0 ?_;refine ZaQ (fun k:Nat=>⟨upd (upd (upd (upd e0 0 (.c (Zaj l))) 1 (.fn f [])) 7 (iv l.length)) 8 (iv k),o0⟩) (fun k=>k≤l.length∧∀i (h:i<l.length),i<k→p l[i]=false) (fun k=>l.length -k) 0 ⟨Nat.zero_le _,fun _ _ h=>by omega⟩ ?_ ?_
 ·(refine Zai (by simp only[go_sem];exact vEi) (by simp only[go_sem];exact Zaa))
 rintro k ⟨hk,hr⟩;refine vR ?_;(refine vC ?_ ?_<;>intro h)
 ·have hi:k<l.length:=by simpa using h
  have hw:=w64 (n:=(k:Int)+1) (by omega) (by omega);have hgd:=ZaD hi;rw[Zbi hi] at hgd;(repeat (refine vV ?_;(try simp only[go_sem,hP,hgd,Zaj,List.length_map,Int.toNat_natCast,Int.ofNat_lt,hi,Int.natCast_nonneg]);refine vQ ?_))
  (refine Zau (hf l[k] (List.getElem_mem hi)) ?_;simp only[go_sem,hP];refine vQ ?_;refine vR ?_)
  (refine vC ?_ ?_<;>intro h)
  ·have e1:l.findIdx? p=some k:=by
    rw[List.findIdx?_eq_some_iff_getElem];exact ⟨hi,h,fun i hi2=>by simp[hr i (by omega) hi2]⟩
   have e3:ZlA p l=k:=by unfold ZlA;rw[e1]
   rw[e3];refine vR ?_;(refine vT ?_;try exact trivial)
  ·refine vW hw ?_;refine ⟨k+1,⟨by omega,fun i hi2 hik=> ?_⟩,by omega,?_⟩
   ·rcases Nat.lt_or_ge i k with h1|h1
    ·exact hr i hi2 h1
    ·have:i=k:=by omega
     subst this;exact h
   ·(refine Zai (by simp only[go_sem];exact vEi) (by simp only[go_sem];exact Zaa))
 ·have hi:k=l.length:=by simp at h;omega
  subst hi;have e3:ZlA p l= -1:=by
   unfold ZlA;rw[List.findIdx?_eq_none_iff.2 fun x hx=>by obtain ⟨i,hi,rfl⟩:=List.getElem_of_mem hx;exact hr i hi hi]
  rw[e3];refine vR ?_;(refine vT ?_;try exact trivial)
theorem Zk5 (l:List Int) (f:FuncId) (p:Int→Bool) (hf:∀n∈l,FSpec Tryz.prog f [iv n] (.c (.bool (p n)))):FSpec Tryz.prog 107 [.c (Zaj l),.fn f []] (.c (.bool (l.any p))):=by
 refine Zac Zzb (Nat.le_refl _) (by decide) fun C hP hN hC hL=> ?_;rw[Zad]
 simp only[ZrL];refine vR2 ?_;(refine Zau (index52 l f p hf) ?_;simp only[go_sem,hP,Zhi];refine vQ ?_;(repeat (refine vV ?_;(try simp only[go_sem,hP,Zhi]);refine vQ ?_)))
 (refine Zak ?_;simp only[Zaq,inQ,ZgY,ZcN,Zae,ZaI];simp only[go_sem,ZaH,AV.port,AV.portL,exists_eq_left',Zhi];(first|exact AVle.of rfl|refine AVle.of ?_|skip))
def Zu5:FC:=⟨2,8,[.t 3],(.seq (.ops [JSB 3 false]) (.seq (.ops [JSl 4 1,JSm 5 0,JS 6 (.call (.t 4) [.t 5]),JS 7 (.un .not (.t 6)),JSm 3 7]) .ret))⟩
def ZzN:FC:=⟨2,14,[.t 4],(.seq (.ops [JS 3 (.box 1 (.t 1)),JSB 4 false]) (.seq (.ops [JSm 5 0,JSn 6 5,JSk 7 .leq 6 20,JSm 8 7,JTm 9 0 8,JG 10 (.mkfn 108 [.t 3]) 8 true,JTc 11 107 [.t 9,.t 10] 8,JG 12 (.un .not (.t 11)) 8 true,JSp 13 8 12,JSm 4 13]) .ret))⟩
theorem ZAt:Zao Tryz.prog [] 108=some Zu5:=by kernel_rfl
theorem c63:Zao Tryz.prog [] 63=some ZzN:=by kernel_rfl
def Zj3 (p:Int→Bool) (n:Int):Ent:=⟨[iv n],[],.c (.bool (p n))⟩
theorem Zyl (p:Int→Bool) (n:Int) (g:Gst) (rem:List Ent):ZaE Tryz.prog 108 [iv n,.bp 1000 0] [.box [.c (.raw g.fv)],.guest g (Zj3 p n::rem)] [] (fun r l'=>r= .c (.bool (!p n))∧l'=[.box [.c (.raw g.fv)],.guest g rem]):=by
 refine Zat ZAt (by first|simp|exact Nat.le_of_ble_eq_true rfl) (Nat.le_refl _) (by decide) (by decide) fun C hP hN hC hL=> ?_;rw[Zap,Zaw (by first|simp|exact Nat.le_of_ble_eq_true rfl)];simp only[Zu5,Zco,Za1,List.map_nil,List.map_cons,Nat.reduceAdd,]
 refine vR ?_;refine Zom 1001 [] (g:=g) (e:=Zj3 p n) (rem:=rem) rfl rfl rfl rfl (by decide) rfl trivial ?_;simp only[go_sem,hP,Zj3];refine vR ?_;(refine Zak ?_;simp only[Zaq,inQ,ZaB,Zar,Zae,ZaI];simp only[go_sem,ZaH,AV.keepP,AV.keepPL];refine ⟨_,[.box [.c (.raw g.fv)],.guest g rem],rfl,Zag rfl rfl ?_ ?_ rfl,?_⟩)
 ·simp only[go_sem,Zal,Ob.keepP,AV.keepP,AV.keepPL]
 ·trivial
 ·exact ⟨rfl,rfl⟩
set_option maxHeartbeats 8000000 in
theorem index52b (p:Int→Bool) (l:List Int) (g:Gst):ZaE Tryz.prog 140 [.c (Zaj l),.fn 108 [.bp 1000 0]] [.box [.c (.raw g.fv)],.guest g (l.map (Zj3 p))] [] (fun r l'=>r=iv (ZlA (fun n=> !p n) l)∧∃rem,l'=[.box [.c (.raw g.fv)],.guest g rem]):=by
 refine Zat Zze (by first|simp|exact Nat.le_of_ble_eq_true rfl) (Nat.le_refl _) (by decide) (by decide) fun C hP hN hC hL=> ?_;rw[Zap,Zaw (by first|simp|exact Nat.le_of_ble_eq_true rfl)];simp only[ZrO,Zco,Za1,List.map_nil,List.map_cons,Nat.reduceAdd,]
 have hl:l.length≤9223372036854775807:=by simp only[AV.lensL,AV.lens] at hL;exact Zd0 hL.1
 refine vR0 ?_;refine Zax Zqi [1001] (fun k:Nat=>k≤l.length∧∀i (h:i<l.length),i<k→p l[i]=true) (fun k=>l.length -k) (fun k=>[(8,iv k)]) (fun k=>[(1001,.guest g ((l.drop k).map (Zj3 p)))]) 0 ⟨Nat.zero_le _,fun _ _ h=>by omega⟩ ?_ ?_
 ·(refine Zai (by simp only[go_sem];exact vEi) (by simp only[go_sem];exact Zaa))
 rintro k ⟨hk,hr⟩;refine vR ?_;(refine vC ?_ ?_<;>intro h)
 ·have hi:k<l.length:=by simpa using h
  have hw:=w64 (n:=(k:Int)+1) (by omega) (by omega);have hgd:=ZaD hi;rw[Zbi hi] at hgd;have hdr:(l.drop k).map (Zj3 p)=Zj3 p l[k]::(l.drop (k+1)).map (Zj3 p):=by rw[List.drop_eq_getElem_cons hi];rfl
  rw[hdr];(repeat (refine vV ?_;(try simp only[go_sem,hP,hgd,Zaj,List.length_map,Int.toNat_natCast,Int.ofNat_lt,hi,Int.natCast_nonneg]);refine vQ ?_))
  refine Zas [1000,1001] (Zyl p l[k] g _) rfl rfl rfl (by decide) rfl rfl ?_;rintro r l' ⟨rfl,rfl⟩;refine ⟨_,_,rfl,rfl,?_⟩;simp only[go_sem,hP,Zab];refine vR ?_;(refine vC ?_ ?_<;>intro h)
  ·have h:p l[k]=false:=by simpa using h
   have e1:l.findIdx? (fun n=> !p n)=some k:=by
    rw[List.findIdx?_eq_some_iff_getElem];exact ⟨hi,by simp[h],fun i hi2=>by simp[hr i (by omega) hi2]⟩
   have e3:ZlA (fun n=> !p n) l=k:=by unfold ZlA;rw[e1]
   rw[e3];refine vR ?_;(refine Zak ?_;simp only[Zaq,inQ,ZaB,Zar,Zae,ZaI];simp only[go_sem,ZaH,AV.keepP,AV.keepPL];refine ⟨_,[.box [.c (.raw g.fv)],.guest g ((l.drop (k+1)).map (Zj3 p))],rfl,Zag rfl rfl ?_ ?_ rfl,?_⟩)
   ·simp only[go_sem,Zal,Ob.keepP,AV.keepP,AV.keepPL]
   ·trivial
   ·exact ⟨rfl,_,rfl⟩
  ·have h:p l[k]=true:=by simpa using h
   refine vW hw ?_;refine ⟨k+1,⟨by omega,fun i hi2 hik=> ?_⟩,by omega,?_⟩
   ·rcases Nat.lt_or_ge i k with h1|h1
    ·exact hr i hi2 h1
    ·have:i=k:=by omega
     subst this;exact h
   ·(refine Zai (by simp only[go_sem];exact vEi) (by simp only[go_sem];exact Zaa))
 ·have hi:k=l.length:=by simp at h;omega
  subst hi;have e3:ZlA (fun n=> !p n) l= -1:=by
   unfold ZlA;rw[List.findIdx?_eq_none_iff.2 fun x hx=>by obtain ⟨i,hi,rfl⟩:=List.getElem_of_mem hx;simp[hr i hi hi]]
  rw[e3];refine vR ?_;(refine Zak ?_;simp only[Zaq,inQ,ZaB,Zar,Zae,ZaI];simp only[go_sem,ZaH,AV.keepP,AV.keepPL];refine ⟨_,[.box [.c (.raw g.fv)],.guest g ((l.drop l.length).map (Zj3 p))],rfl,Zag rfl rfl ?_ ?_ rfl,?_⟩)
  ·simp only[go_sem,Zal,Ob.keepP,AV.keepP,AV.keepPL]
  ·trivial
  ·exact ⟨rfl,_,rfl⟩
theorem Zjp (p:Int→Bool) (l:List Int) (g:Gst):ZaE Tryz.prog 107 [.c (Zaj l),.fn 108 [.bp 1000 0]] [.box [.c (.raw g.fv)],.guest g (l.map (Zj3 p))] [] (fun r l'=>r= .c (.bool (l.any fun n=> !p n))∧∃rem,l'=[.box [.c (.raw g.fv)],.guest g rem]):=by
 refine Zat Zzb (by first|simp|exact Nat.le_of_ble_eq_true rfl) (Nat.le_refl _) (by decide) (by decide) fun C hP hN hC hL=> ?_;rw[Zap,Zaw (by first|simp|exact Nat.le_of_ble_eq_true rfl)];simp only[ZrL,Zco,Za1,List.map_nil,List.map_cons,Nat.reduceAdd,]
 refine vR2 ?_;refine Zas [1000,1001] (index52b p l g) rfl rfl rfl (by decide) rfl rfl ?_;rintro r l' ⟨rfl,rem,rfl⟩;refine ⟨_,_,rfl,rfl,?_⟩;simp only[go_sem,hP,Zab];refine vR ?_;(refine Zak ?_;simp only[Zaq,inQ,ZaB,Zar,Zae,ZaI];simp only[go_sem,ZaH,AV.keepP,AV.keepPL];refine ⟨_,[.box [.c (.raw g.fv)],.guest g rem],rfl,Zag rfl rfl ?_ ?_ rfl,?_⟩)
 ·simp only[go_sem,Zal,Ob.keepP,AV.keepP,AV.keepPL]
 ·trivial
 ·exact ⟨by rw[←Zhi],_,rfl⟩
theorem Zrf (p:Int→Bool) (l:List Int):(!l.any fun n=> !p n)=l.all p:=by
 induction l with
 |nil=>rfl
 |cons n l ih=>simp only[List.any_cons,List.all_cons,Bool.not_or,Bool.not_not,ih]
def Zqq (p:Int→Bool) (l:List Int):Bool:=decide ((l.length:Int)≤20)&&l.all p
theorem ZxX (p:Int→Bool) (l:List Int) (g:Gst):ZaE Tryz.prog 63 [.c (Zaj l),.c (.raw g.fv)] [.guest g (l.map (Zj3 p))] [] (fun r l'=>r= .c (.bool (Zqq p l))∧∃rem,l'=[.guest g rem]):=by
 refine Zat c63 (by first|simp|exact Nat.le_of_ble_eq_true rfl) (Nat.le_refl _) (by decide) (by decide) fun C hP hN hC hL=> ?_;rw[Zap,Zaw (by first|simp|exact Nat.le_of_ble_eq_true rfl)];simp only[ZzN,Zco,Za1,List.map_nil,List.map_cons,Nat.reduceAdd,]
 refine vR0 ?_;refine .inr (.inr ⟨fun hG=> ?_,fun hG=> ?_⟩)
 ·refine Zas [3,1000] (Zjp p l g) rfl (by simp[hG,go_sem]) rfl (by decide) rfl rfl ?_;rintro r l' ⟨rfl,rem,rfl⟩;refine ⟨_,_,rfl,rfl,?_⟩;simp only[go_sem,hP,Zab,hG];refine vW hG ?_;(refine Zak ?_;simp only[Zaq,inQ,ZaB,Zar,Zae,ZaI];simp only[go_sem,ZaH,AV.keepP,AV.keepPL];refine ⟨_,[.guest g rem],rfl,Zag rfl rfl ?_ ?_ rfl,?_⟩)
  ·simp only[go_sem,Zal,Ob.keepP,AV.keepP,AV.keepPL]
  ·trivial
  ·exact ⟨by unfold Zqq;rw[hG,←Zrf];rfl,_,rfl⟩
 ·simp only[go_sem,hP,hG];refine vW hG ?_;(refine Zak ?_;simp only[Zaq,inQ,ZaB,Zar,Zae,ZaI];simp only[go_sem,ZaH,AV.keepP,AV.keepPL];refine ⟨_,[.guest g (l.map (Zj3 p))],rfl,Zag rfl rfl ?_ ?_ rfl,?_⟩)
  ·simp only[go_sem,Zal,Ob.keepP,AV.keepP,AV.keepPL]
  ·trivial
  ·exact ⟨by unfold Zqq;rw[hG];rfl,_,rfl⟩
abbrev ZyK:List Ins:=[JSL 5 3 3,JSf 6 0 1,JSl 7 6,JSc 8 62 [.t 5,.t 7],JSm 9 8,JTf 10 1 1 9,JTl 11 10 9,JTc 12 67 [.t 11,(.k (Jz 0)),(.k (Jz 20))] 9,JSp 13 9 12,JSm 14 13,JTl 15 2 14,JTL 16 3 3 14,JG 17 (.raw (.makeFunc (.func 87) #[(.tmp 16)] #[])) 14 true,JTc 18 63 [.t 15,.t 17] 14,JSp 19 14 18,JSm 4 19]
def Zz0:FC:=⟨3,20,[.t 4],(.seq (.ops [JS 3 (.box 3 (.t 0)),JSB 4 false]) (.seq (.ops ZyK) .ret))⟩
theorem c86:Zao Tryz.prog [] 86=some Zz0:=by kernel_rfl
def Zf4 (w:Wh) (pl cr:Int) (acts:List Int):Bool:=Zah pl 0 (w.ro -1)&&Zah cr 0 20&&Zqq (ZhG w) acts
set_option maxHeartbeats 8000000 in
theorem run74 {w:Wh} (hw:WhOk w) (pl cr:Int) (acts:List Int):ZaE Tryz.prog 86 [w.av,.bp 1000 0,.bp 1001 0] [.box [iv pl,iv cr],.box [.c (Zaj acts)]] [] (fun r l'=>r= .c (.bool (Zf4 w pl cr acts))∧l'=[.box [iv pl,iv cr],.box [.c (Zaj acts)]]):=by
 refine Zat c86 (by first|simp|exact Nat.le_of_ble_eq_true rfl) (Nat.le_refl _) (by decide) (by decide) fun C hP hN hC hL=> ?_;rw[Zap,Zaw (by first|simp|exact Nat.le_of_ble_eq_true rfl)];simp only[Zz0,Zco,Za1,List.map_nil,List.map_cons,Nat.reduceAdd,]
 simp only[Wh.av,Wh.avs];refine vR5 ?_;(refine Zau (ZmK hw pl) ?_;simp only[go_sem,hP,Wh.av,Wh.avs,Zaj];refine vQ ?_;refine vR7 ?_)
 by_cases h1:Zah pl 0 (w.ro -1)=true
 ·simp only[go_sem,h1];(refine Za9 (fun hG=>Zdu cr 0 20) ?_;simp only[go_sem,hP,h1];refine vQ ?_;refine vW h1 ?_)
  by_cases h2:Zah cr 0 20=true
  ·simp only[go_sem,h1,h2];refine vW (vA h1 h2) ?_;refine ZnC (av:=w.av) (acts.map (Zj3 (ZhG w))) rfl rfl rfl rfl rfl ?_ ?_
   ·intro e he;obtain ⟨n,_,rfl⟩:=List.mem_map.1 he;exact ⟨rfl,rfl,ZrS hw n⟩
   intro g;simp only[go_sem,hP];refine .inr (.inr ?_);refine Zas [17] (ZxX (ZhG w) acts g) rfl rfl rfl (by decide) rfl rfl ?_;rintro r l' ⟨rfl,rem,rfl⟩;refine ⟨_,_,rfl,rfl,?_⟩;simp only[go_sem,hP,Zab];refine vR ?_;(refine Zak ?_;simp only[Zaq,inQ,ZaB,Zar,Zae,ZaI];simp only[go_sem,ZaH,AV.keepP,AV.keepPL];refine ⟨_,[.box [iv pl,iv cr],.box [.c (Zaj acts)]],rfl,Zag rfl rfl ?_ ?_ rfl,?_⟩)
   ·simp only[go_sem,Zal,Ob.keepP,AV.keepP,AV.keepPL,Zaj]
   ·trivial
   ·exact ⟨by unfold Zf4;rw[h1,h2];rfl,rfl⟩
  ·have h2:Zah cr 0 20=false:=by simpa using h2
   simp only[go_sem,h2];refine vW h2 ?_;(refine ZaC ?_;simp only[go_sem,hP];refine vQ ?_;refine vR ?_)
   (refine Zak ?_;simp only[Zaq,inQ,ZaB,Zar,Zae,ZaI];simp only[go_sem,ZaH,AV.keepP,AV.keepPL];refine ⟨_,[.box [iv pl,iv cr],.box [.c (Zaj acts)]],rfl,Zag rfl rfl ?_ ?_ rfl,?_⟩)
   ·simp only[go_sem,Zal,Ob.keepP,AV.keepP,AV.keepPL,Zaj]
   ·trivial
   ·exact ⟨by unfold Zf4;rw[h1,h2];rfl,rfl⟩
 ·have h1:Zah pl 0 (w.ro -1)=false:=by simpa using h1
  simp only[go_sem,h1];(refine ZaC ?_;simp only[go_sem,hP];refine vQ ?_;refine vR ?_)
  (refine ZaC ?_;simp only[go_sem,hP];refine vQ ?_;refine vR ?_)
  (refine Zak ?_;simp only[Zaq,inQ,ZaB,Zar,Zae,ZaI];simp only[go_sem,ZaH,AV.keepP,AV.keepPL];refine ⟨_,[.box [iv pl,iv cr],.box [.c (Zaj acts)]],rfl,Zag rfl rfl ?_ ?_ rfl,?_⟩)
  ·simp only[go_sem,Zal,Ob.keepP,AV.keepP,AV.keepPL,Zaj]
  ·trivial
  ·exact ⟨by unfold Zf4;rw[h1];rfl,rfl⟩
abbrev ZxB:VC:=(.seq (.seq (.ops [JSL 7 3 2,JSc 8 106 [.t 7],JSm 6 8]) (.seq (.ops [JSm 9 6,JSk 10 .neq 9 0]) (.cond (.t 10) (.seq (.ops [JS 11 (.bld [Jz 0,J0,J0] []),JSm 12 6,JUs 3 4 11,JSm 5 12]) .ret) .skip))) (.seq (.seq (.ops [JSm 13 1,JSL 14 3 2,JS 15 (.bld [Jz 0,J0,J0] [(0,3,(.t 14))]),JS 16 (.call (.t 13) [.t 15]),JS 17 (.un .not (.t 16))]) (.cond (.t 17) (.seq (.ops [JS 18 (.bld [Jz 0,J0,J0] []),JUs 3 4 18,JSi 5 1]) .ret) .skip)) (.seq (.ops [JSL 19 3 2,JS 20 (.bld [Jz 0,J0,J0] [(0,3,(.t 19))]),JUs 3 4 20,JSi 5 0]) .ret)))
def ZzL:FC:=⟨2,21,[.cell 4 false 3,.t 5],(.seq (.ops [JS 2 (.box 3 (.t 0)),JS 4 (.alloc [Jz 0,J0,J0]),JSi 5 0]) ZxB)⟩
abbrev Zxh:VC:=(.seq (.block 1 (.seq (.ops [JSa 26 1 22 24,JSl 27 26,JSm 11 27]) (.seq (.seq (.ops [JSm 28 11,JSk 29 .eql 28 (-1),JSm 30 29,JTf 31 1 4 30,JTl 32 31 30,JTk 33 .gtr 32 0 30,JSp 34 30 33]) (.cond (.t 34) (.ops [JSm 35 7,JSk 36 .add 35 1,JSm 7 36]) .skip)) (.ops [JSL 37 3 9,JSL 38 2 4,JSm 39 11,JSc 40 68 [.t 37,.t 38,.t 39],JUs 2 4 40])))) (.ops [JSk 41 .add 24 1,JSm 24 41]))
-- Zud: changed and kept: [24,7]
abbrev Zud:List Nat:=[4,6,9,22,23]
abbrev Zxi:VC:=(.seq (.seq (.ops [JSm 18 8,JSk 19 .neq 18 0]) (.cond (.t 19) (.seq (.ops [JS 20 (.bld [Jz 0,Jz 0] []),JSm 21 8,JUs 2 6 20,JSi 7 0,JSm 8 21]) .ret) .skip)) (.seq (.seq (.ops [JSl 22 5,JSn 23 22,JSi 24 0]) (.block 0 (.loop (.seq (.ops [JSb 25 .lss 24 23]) (.seq (.cond (.t 25) .skip (.exit 0)) Zxh))))) (.seq (.ops [JSL 42 2 4,JSm 43 7,JUs 2 6 42,JSm 7 43,JSi 8 0]) .ret)))
def Zzx:FC:=⟨3,44,[.cell 6 false 2,.t 7,.t 8],(.seq (.ops [JS 3 (.box 3 (.t 0)),JS 4 (.box 2 (.t 1)),JS 5 (.box 1 (.t 2)),JS 6 (.alloc [Jz 0,Jz 0]),JSi 7 0,JSi 8 0]) (.seq (.ops [JSL 13 3 3,JS 14 (.mkfn 86 [.t 4,.t 5]),JSc 15 60 [.t 13,.t 14],JSm 12 15,JSe 16 12 0,JSe 17 12 1,JS 9 (.alloc [Jz 0,J0,J0]),JUs 3 9 16,JSm 8 17]) Zxi))⟩
theorem c60:Zao Tryz.prog [] 60=some ZzL:=by kernel_rfl
theorem c40:Zao Tryz.prog [] 40=some Zzx:=by kernel_rfl
def Zdd (w:Wh) (b:Bool):Int:=if whB w then (if b then 0 else 1) else 10
def whZ:AV:=.agg [.c (.int .i64 0),.c (.raw (.slice none 0 0)),.c (.raw (.slice none 0 0))]
theorem Zwq (w:Wh) (pl cr:Int) (acts:List Int):ZaE Tryz.prog 60 [w.av,.fn 86 [.bp 1000 0,.bp 1001 0]] [.box [iv pl,iv cr],.box [.c (Zaj acts)]] [] (fun r l'=>r= .tup [if Zdd w (Zf4 w pl cr acts)=0 then w.av else whZ,iv (Zdd w (Zf4 w pl cr acts))]∧l'=[.box [iv pl,iv cr],.box [.c (Zaj acts)]]):=by
 refine Zat c60 (by first|simp|exact Nat.le_of_ble_eq_true rfl) (Nat.le_refl _) (by decide) (by decide) fun C hP hN hC hL=> ?_;rw[Zap,Zaw (by first|simp|exact Nat.le_of_ble_eq_true rfl)];simp only[ZzL,Zco,Za1,List.map_nil,List.map_cons,Nat.reduceAdd,]
 simp only[Wh.av,Wh.avs];refine vR5 ?_;(refine Zau (Zmh w) ?_;simp only[go_sem,hP,Wh.av,Wh.avs,Zaj];refine vQ ?_;refine vR7 ?_)
 by_cases h1:whB w=true
 ·have e0:whE w=0:=by unfold whE;rw[if_pos h1]
  rw[e0];(refine vC ?_ ?_<;>intro h)
  ·simp at h
  ·refine vR ?_;refine Zas [1000,1001] (run74 (ZeQ h1) pl cr acts) rfl rfl rfl (by decide) rfl rfl ?_;rintro r l' ⟨rfl,rfl⟩;refine ⟨_,_,rfl,rfl,?_⟩;simp only[go_sem,hP,Zab];refine vR ?_;by_cases h2:Zf4 w pl cr acts=true
   ·have e1:Zdd w (Zf4 w pl cr acts)=0:=by unfold Zdd;rw[if_pos h1,if_pos h2]
    rw[e1];(refine vC ?_ ?_<;>intro h)
    ·rw[h2] at h;simp at h
    ·refine vR ?_;(refine Zak ?_;simp only[Zaq,inQ,ZaB,Zar,Zae,ZaI];simp only[go_sem,ZaH,AV.keepP,AV.keepPL];refine ⟨_,[.box [iv pl,iv cr],.box [.c (Zaj acts)]],rfl,Zag rfl rfl ?_ ?_ rfl,?_⟩)
     ·simp only[go_sem,Zal,Ob.keepP,AV.keepP,AV.keepPL,Zaj]
     ·trivial
     ·exact ⟨rfl,rfl⟩
   ·have h2:Zf4 w pl cr acts=false:=by simpa using h2
    have e1:Zdd w (Zf4 w pl cr acts)=1:=by unfold Zdd;rw[if_pos h1,h2];rfl
    rw[e1];(refine vC ?_ ?_<;>intro h)
    ·refine vR ?_;(refine Zak ?_;simp only[Zaq,inQ,ZaB,Zar,Zae,ZaI];simp only[go_sem,ZaH,AV.keepP,AV.keepPL];refine ⟨_,[.box [iv pl,iv cr],.box [.c (Zaj acts)]],rfl,Zag rfl rfl ?_ ?_ rfl,?_⟩)
     ·simp only[go_sem,Zal,Ob.keepP,AV.keepP,AV.keepPL,Zaj]
     ·trivial
     ·exact ⟨rfl,rfl⟩
    ·rw[h2] at h;simp at h
 ·have h1:whB w=false:=by simpa using h1
  have e0:whE w=10:=by unfold whE;rw[h1];rfl
  have e1:∀b,Zdd w b=10:=fun b=>by unfold Zdd;rw[h1];rfl
  rw[e0,e1];(refine vC ?_ ?_<;>intro h)
  ·refine vR ?_;(refine Zak ?_;simp only[Zaq,inQ,ZaB,Zar,Zae,ZaI];simp only[go_sem,ZaH,AV.keepP,AV.keepPL];refine ⟨_,[.box [iv pl,iv cr],.box [.c (Zaj acts)]],rfl,Zag rfl rfl ?_ ?_ rfl,?_⟩)
   ·simp only[go_sem,Zal,Ob.keepP,AV.keepP,AV.keepPL,Zaj]
   ·trivial
   ·exact ⟨rfl,rfl⟩
  ·simp at h
def ZdK (w:Wh) (s:Int×Int×Int) (a:Int):Int×Int×Int:=((Zgd w s.1 s.2.1 a).1,(Zgd w s.1 s.2.1 a).2,s.2.2+if a= -1∧0<s.2.1 then 1 else 0)
def Zi2 (w:Wh) (pl cr:Int) (acts:List Int):Int×Int×Int:=acts.foldl (ZdK w) (pl,cr,0)
theorem ZlX {w:Wh} (hw:WhOk w) {pl cr a:Int} (hp:0≤pl∧pl<w.ro) (hc:0≤cr) (ha:ZhG w a=true):(0≤(Zgd w pl cr a).1∧(Zgd w pl cr a).1<w.ro)∧0≤(Zgd w pl cr a).2∧(Zgd w pl cr a).2≤cr+112:=by
 have hro:=hw.ro;unfold Zgd;by_cases h1:a= -1
 ·rw[if_pos h1];split
  ·exact ⟨⟨by simp,by simp;omega⟩,by simp;omega,by simp;omega⟩
  ·exact ⟨hp,hc,by simp;omega⟩
 ·rw[if_neg h1];have hk:0≤a∧a≤w.co.length -1:=by
   simp only[ZhG,Bool.or_eq_true,Zah,Bool.and_eq_true,decide_eq_true_eq,beq_iff_eq] at ha;rcases ha with h|h
   ·exact absurd h h1
   ·exact h
  have hco:=ZuE hw hk;have hb:=Zd5 hw (p:=pl) (c:=w.co.getD a.toNat 0) (by omega);refine ⟨⟨Int.emod_nonneg _ (by omega),Int.emod_lt_of_pos _ (by omega)⟩,?_,?_⟩<;>simp only<;>omega
theorem ZnP {w:Wh} (hw:WhOk w) {pl cr:Int} (hp:0≤pl∧pl<w.ro) (hc:0≤cr):∀(acts:List Int) (s:Int×Int×Int),(0≤s.1∧s.1<w.ro)→0≤s.2.1→0≤s.2.2→acts.all (ZhG w)=true→
  (0≤(acts.foldl (ZdK w) s).1∧(acts.foldl (ZdK w) s).1<w.ro)∧(0≤(acts.foldl (ZdK w) s).2.1∧(acts.foldl (ZdK w) s).2.1≤s.2.1+112*acts.length)∧(0≤(acts.foldl (ZdK w) s).2.2∧(acts.foldl (ZdK w) s).2.2≤s.2.2+acts.length)
 |[],s,h1,h2,h3,_=>by simp only[List.foldl_nil,List.length_nil];omega
 |a::acts,s,h1,h2,h3,h4=>by
  simp only[List.all_cons,Bool.and_eq_true] at h4;have h5:=ZlX hw h1 h2 h4.1;have h6:=ZnP hw hp hc acts (ZdK w s a) h5.1 h5.2.1 (by simp only[ZdK];split<;>omega) h4.2;simp only[List.foldl_cons,List.length_cons];simp only[ZdK] at h6⊢;refine ⟨h6.1,⟨h6.2.1.1,by omega⟩,h6.2.2.1,?_⟩;have:=h6.2.2.2;split at this<;>(rename_i hc;simp only[hc,if_true,if_false] at*;omega)
theorem ZnQ {w:Wh} {pl cr:Int} {acts:List Int} {k:Nat} (h:k<acts.length):Zi2 w pl cr (acts.take (k+1))=ZdK w (Zi2 w pl cr (acts.take k)) acts[k]:=by
 unfold Zi2;rw[List.take_succ_eq_append_getElem h,List.foldl_append];rfl
def Zez (w:Wh) (pl cr:Int) (acts:List Int):(Int×Int×Int)×Int:=if Zdd w (Zf4 w pl cr acts)=0 then (Zi2 w pl cr acts,0) else ((0,0,0),Zdd w (Zf4 w pl cr acts))
set_option maxHeartbeats 8000000 in
theorem run69 (w:Wh) (pl cr:Int) (acts:List Int):FSpec Tryz.prog 40 [w.av,.agg [iv pl,iv cr],.c (Zaj acts)] (.tup [.agg [iv (Zez w pl cr acts).1.1,iv (Zez w pl cr acts).1.2.1],iv (Zez w pl cr acts).1.2.2,iv (Zez w pl cr acts).2]):=by
 refine Zac c40 (Nat.le_refl _) (by decide) fun C hP hN hC hL=> ?_;rw[Zad]
 simp only[Zzx,Wh.av,Wh.avs];refine vR5 ?_;refine Zas [4,5] (Zwq w pl cr acts) rfl rfl rfl (by decide) rfl rfl ?_;rintro r l' ⟨rfl,rfl⟩;by_cases h1:Zdd w (Zf4 w pl cr acts)=0
 ·have e1:Zez w pl cr acts=(Zi2 w pl cr acts,0):=by unfold Zez;rw[if_pos h1]
  rw[e1,if_pos h1,h1];have hb:whB w=true∧Zf4 w pl cr acts=true:=by
   unfold Zdd at h1;split at h1
   ·split at h1
    ·rename_i a b;exact ⟨a,b⟩
    ·cases h1
   ·cases h1
  have hw:=ZeQ hb.1;have hro:=hw.ro;have hb2:=hb.2;simp only[Zf4,Zqq,Zah,Bool.and_eq_true,decide_eq_true_eq] at hb2;refine ⟨_,_,rfl,rfl,?_⟩;simp only[go_sem,hP,Zab];refine vR ?_;(refine vC ?_ ?_<;>intro h)
  ·simp at h
  ·refine vR3 ?_;refine Zax Zud [4] (fun k:Nat=>k≤acts.length) (fun k=>acts.length -k) (fun k=>[(24,iv k),(7,iv (Zi2 w pl cr (acts.take k)).2.2)]) (fun k=>[(4,.box [iv (Zi2 w pl cr (acts.take k)).1,iv (Zi2 w pl cr (acts.take k)).2.1])]) 0 (Nat.zero_le _) ?_ ?_
   ·(refine Zai (by simp only[go_sem];((repeat' (first|exact ZaW _ _|refine ZaJ ?_ ?_))<;>((try simp only[ZaT,ZbG,ZbH,Nat.reduceEqDiff,reduceIte]);first|exact AWk.refl _ _|exact AWk.int (by omega)|exact AWk.int (by rw[w64 (by omega) (by omega)];omega)|exact AWk.grow rfl|exact AWk.nil _|exact AWk.of (by simp[Zi2])))) (by simp only[go_sem];exact Zaa))
   ·intro k hk;refine vR ?_;(refine vC ?_ ?_<;>intro h)
    ·have hi:k<acts.length:=by simpa using h
     have hgd:=ZaD hi;rw[Zbi hi] at hgd;have hall:ZhG w acts[k]=true:=List.all_eq_true.1 hb2.2.2 _ (List.getElem_mem hi);have hok:=ZnP hw (pl:=pl) (cr:=cr) (by omega) (by omega) (acts.take k) (pl,cr,0) (by simp only;omega) (by simp only;omega) (by simp) (List.all_eq_true.2 fun x hx=>List.all_eq_true.1 hb2.2.2 x (List.mem_of_mem_take hx));rw[show (acts.take k).foldl (ZdK w) (pl,cr,0)=Zi2 w pl cr (acts.take k) from rfl] at hok;have hsu:=ZnQ (w:=w) (pl:=pl) (cr:=cr) hi;have hlen:((acts.take k).length:Int)=k:=by rw[List.length_take];omega
     rw[hlen] at hok;generalize Zi2 w pl cr (acts.take k)=s at hok hsu;obtain ⟨s1,s2,s3⟩:=s;simp only at hok;have hk20:(k:Int)<20:=by omega
     have w1:=w64 (n:=(k:Int)+1) (by omega) (by omega);have w2:=w64 (n:=s3+1) (by omega) (by omega);have hact:=act78 hw (pl:=s1) (cr:=s2) (a:=acts[k]) hok.1 (by omega) hall;generalize acts[k]=x at*;(repeat (refine vV ?_;(try simp only[go_sem,hP,hgd,Zaj,List.length_map,Int.toNat_natCast,Int.ofNat_lt,hi,Int.natCast_nonneg]);refine vQ ?_))
     by_cases hm:x= -1∧0<s2
     ·have e2:Zi2 w pl cr (acts.take (k+1))=((Zgd w s1 s2 x).1,(Zgd w s1 s2 x).2,s3+1):=by rw[hsu];simp only[ZdK,hm,and_self,if_true]
      (refine vC ?_ ?_<;>intro h)
      ·refine vW w2 ?_;(refine Zau (hact) ?_;simp only[go_sem,hP,Wh.av,Wh.avs,Zaj];refine vQ ?_;refine vR7 ?_)
       refine vW w1 ?_;refine ⟨k+1,by omega,by omega,?_⟩;rw[e2];exact Zaz
      ·exfalso;simp only[hm.1] at h;simp at h;omega
     ·have e2:Zi2 w pl cr (acts.take (k+1))=((Zgd w s1 s2 x).1,(Zgd w s1 s2 x).2,s3):=by rw[hsu];simp only[ZdK,hm,if_false,Int.add_zero]
      (refine vC ?_ ?_<;>intro h)
      ·exfalso;apply hm;simp at h;exact h
      ·refine vR ?_;(refine Zau (hact) ?_;simp only[go_sem,hP,Wh.av,Wh.avs,Zaj];refine vQ ?_;refine vR7 ?_)
       refine vW w1 ?_;refine ⟨k+1,by omega,by omega,?_⟩;rw[e2];exact Zaz
    ·have hi:k=acts.length:=by simp at h;omega
     subst hi;rw[List.take_length];refine vR ?_;(refine vT ?_;try exact trivial)
 ·have e1:Zez w pl cr acts=((0,0,0),Zdd w (Zf4 w pl cr acts)):=by unfold Zez;rw[if_neg h1]
  rw[e1,if_neg h1];generalize Zdd w (Zf4 w pl cr acts)=e at*;refine ⟨_,_,rfl,rfl,?_⟩;simp only[go_sem,hP,Zab,whZ];refine vR ?_;(refine vC ?_ ?_<;>intro h)
  ·refine vR ?_;(refine vT ?_;try exact trivial)
  ·simp at h;exact absurd h h1
def Zvq:FC:=⟨3,15,[.t 6],(.seq (.ops [JSB 6 false]) (.seq (.ops [JSm 7 1,JSm 8 0,JSb 9 .leq 7 8,JSm 10 9,JTm 11 0 10,JTm 12 2 10,JTb 13 .leq 11 12 10,JSp 14 10 13,JSm 6 14]) .ret))⟩
def Zvr:FC:=⟨1,6,[.t 2],(.seq (.ops [JSB 2 false]) (.seq (.ops [JSm 3 0,JSc 4 146 [.t 3,(.k (Jz 0)),(.k (Jz 12))],JS 5 (.un .not (.t 4)),JSm 2 5]) .ret))⟩
abbrev Zv7:List Ins:=[JSf 8 0 1,JSL 9 3 8,JSc 10 106 [.t 9],JSk 11 .neq 10 0,JSm 12 11,JNf 13 6 1 12,JNl 14 13 12,JNc 15 146 [.t 14,(.k (Jz 0)),(.k (Jz 9999))] 12,JG 16 (.un .not (.t 15)) 12 false,JSo 17 12 16,JSm 18 17,JNf 19 7 1 18,JNl 20 19 18,JNc 21 146 [.t 20,(.k (Jz 0)),(.k (Jz 9))] 18,JG 22 (.un .not (.t 21)) 18 false,JSo 23 18 22]
abbrev Ztk:VC:=(.seq (.cond (.t 32) .skip (.exit 0)) (.seq (.block 1 (.seq (.ops [JS 33 (.raw (.index 219 (.tmp 30) (.tmp 31))),JSm 5 33]) (.seq (.ops [JSm 34 5,JSn 35 34,JSf 36 0 1,JSf 37 2 36,JSl 38 37,JSn 39 38,JSb 40 .neq 35 39,JSm 41 40,JNm 42 5 41,JNc 43 107 [.t 42,(.k (.fn 147 []))] 41,JSo 44 41 43]) (.cond (.t 44) (.seq (.ops [JSi 2 50]) .ret) .skip)))) (.ops [JSk 45 .add 31 1,JSm 31 45])))
-- K115_1: changed and kept: [31]
abbrev Ztl:VC:=(.seq (.block 3 (.seq (.ops [JSm 51 49,JSa 52 1 47 49,JSl 53 52,JSm 6 51,JSm 7 53]) (.seq (.seq (.ops [JSf 54 4 1,JSl 55 54,JSm 56 6,JSa 57 1 55 56,JSl 58 57,JSm 59 7,JSb 60 .gtr 58 59]) (.cond (.t 60) (.seq (.ops [JSi 2 50]) .ret) .skip)) (.ops [JSm 61 3,JSm 62 7,JSf 63 5 1,JSl 64 63,JSm 65 6,JSa 66 1 64 65,JSl 67 66,JSb 68 .add 62 67,JSb 69 .add 61 68,JSm 3 69])))) (.ops [JSk 70 .add 49 1,JSm 49 70]))
-- Zqd: changed and kept: [49,3]
abbrev Zqd:List Nat:=[1,47,48]
abbrev Ztm:VC:=(.seq (.seq (.ops [JSf 24 3 1,JSl 25 24,JSf 26 4 1,JSl 27 26,JSf 28 5 1,JSl 29 28,JS 30 (.raw (.build 219 #[(0,(.tmp 25)),(1,(.tmp 27)),(2,(.tmp 29))])),JSi 31 0]) (.block 0 (.loop (.seq (.ops [JSk 32 .lss 31 3]) Ztk)))) (.seq (.seq (.ops [JSf 46 3 1,JSl 47 46,JSn 48 47,JSi 49 0]) (.block 2 (.loop (.seq (.ops [JSb 50 .lss 49 48]) (.seq (.cond (.t 50) .skip (.exit 2)) Ztl))))) (.seq (.seq (.ops [JSm 71 3,JSk 72 .gtr 71 12]) (.cond (.t 72) (.seq (.ops [JSi 2 50]) .ret) .skip)) (.seq (.ops [JSi 2 0]) .ret))))
def Zu9:FC:=⟨1,73,[.t 2],(.seq (.ops [JS 1 (.box 8 (.t 0)),JSi 2 0]) (.seq (.seq (.ops Zv7) (.cond (.t 23) (.seq (.ops [JSi 2 50]) .ret) .skip)) (.seq (.ops [JSi 3 0]) Ztm)))⟩
theorem ZAO:Zao Tryz.prog [] 146=some Zvq:=by kernel_rfl
theorem ZAP:Zao Tryz.prog [] 147=some Zvr:=by kernel_rfl
theorem ZAw:Zao Tryz.prog [] 115=some Zu9:=by kernel_rfl
structure Bx where
 wh:Wh
 fo:List Int
 ma:List Int
 sl:List Int
 pl:Int
 sk:Int
def Bx.cds (b:Bx):List CD:=[.int .i64 b.wh.ro,Zaj b.wh.no,Zaj b.wh.co,Zaj b.fo,Zaj b.ma,Zaj b.sl,.int .i64 b.pl,.int .i64 b.sk]
def Bx.avs (b:Bx):List AV:=[.c (.int .i64 b.wh.ro),.c (Zaj b.wh.no),.c (Zaj b.wh.co),.c (Zaj b.fo),.c (Zaj b.ma),.c (Zaj b.sl),.c (.int .i64 b.pl),.c (.int .i64 b.sk)]
def Bx.av (b:Bx):AV:=.agg b.avs
theorem Zfc (a b c:Int):FSpec Tryz.prog 146 [iv a,iv b,iv c] (.c (.bool (Zah a b c))):=by
 refine Zac ZAO (Nat.le_refl _) (by decide) fun C hP hN hC hL=> ?_;rw[Zad]
 simp only[Zvq];refine vR ?_;(refine vT ?_;try exact trivial)
def Zf1 (n:Int):Bool:=!Zah n 0 12
theorem Zwr (n:Int):FSpec Tryz.prog 147 [iv n] (.c (.bool (Zf1 n))):=by
 refine Zac ZAP (Nat.le_refl _) (by decide) fun C hP hN hC hL=> ?_;rw[Zad]
 simp only[Zvr];refine vR ?_;(refine Zau (Zfc n 0 12) ?_;simp only[go_sem,hP];refine vQ ?_;refine vR ?_)
 (refine vT ?_;try exact trivial)
def ZfO (w:Wh) (l:List Int):Bool:=!(!(l.length==w.co.length)||l.any Zf1)
def mkK (fo ma:List Int):Nat→Bool
 |0=>true
 |k+1=>mkK fo ma k&&decide (ma.getD k 0≤fo.getD k 0)
def sumK (a b:List Int):Nat→Int
 |0=>0
 |k+1=>sumK a b k+(a.getD k 0+b.getD k 0)
def bxB (b:Bx):Bool:=whB b.wh&&Zah b.pl 0 9999&&Zah b.sk 0 9&&ZfO b.wh b.fo&&ZfO b.wh b.ma&&ZfO b.wh b.sl&&mkK b.fo b.ma b.fo.length&&decide (sumK b.fo b.sl b.fo.length≤12)
def bxE (b:Bx):Int:=if bxB b then 0 else 50
theorem Zih {fo ma:List Int}:∀{k m:Nat},mkK fo ma k=false→k≤m→mkK fo ma m=false
 |k,0,h,hm=>by rwa [show k=0 by omega] at h
 |k,m+1,h,hm=>by
  rcases Nat.lt_or_ge m k with h1|h1
  ·rwa [show k=m+1 by omega] at h
  ·unfold mkK;rw[Zih h h1];rfl
theorem ZaX {w:Wh} {l:List Int} (h:ZfO w l=true):l.length=w.co.length∧∀n∈l,0≤n∧n≤12:=by
 simp only[ZfO,Bool.not_or,Bool.not_not,Bool.and_eq_true,beq_iff_eq,Bool.not_eq_true',List.any_eq_false,Zf1,Zah,decide_eq_true_eq] at h;exact ⟨h.1,fun n hn=>by have:=h.2 n hn;simpa using this⟩
theorem ZaZ {l:List Int} {k:Nat} {P:Int→Prop} (h:∀n∈l,P n) (hk:k<l.length):P (l.getD k 0):=by rw[Zbi hk];exact h _ (List.getElem_mem hk)
theorem ZnZ {a b:List Int} (ha:∀n∈a,0≤n∧n≤12) (hb:∀n∈b,0≤n∧n≤12):∀k:Nat,k≤a.length→k≤b.length→0≤sumK a b k∧sumK a b k≤24*k
 |0,_,_=>by simp[sumK]
 |k+1,h1,h2=>by
  have ih:=ZnZ ha hb k (by omega) (by omega);have e1:=ZaZ ha (k:=k) (by omega);have e2:=ZaZ hb (k:=k) (by omega);simp only[sumK];omega
set_option maxHeartbeats 8000000 in
theorem check28 (b:Bx):FSpec Tryz.prog 115 [b.av] (iv (bxE b)):=by
 refine Zac ZAw (Nat.le_refl _) (by decide) fun C hP hN hC hL=> ?_;rw[Zad]
 simp only[Zu9,Bx.av,Bx.avs];(repeat (refine vV ?_;(try simp only[go_sem,hP,Bx.avs,Zaj]);refine vQ ?_))
 (refine Zau (Zmh b.wh) ?_;simp only[go_sem,hP,Wh.av,Wh.avs,Zaj];refine vQ ?_;refine vR7 ?_)
 have hE:∀{c:Bool},bxB b=c→bxE b=if c then 0 else 50:=fun h=>by unfold bxE;rw[h]
 by_cases h1:whB b.wh=true;case neg=>
  have h1:whB b.wh=false:=by simpa using h1
  have e0:whE b.wh=10:=by unfold whE;rw[h1];rfl
  have e1:bxE b=50:=hE (c:=false) (by unfold bxB;rw[h1];rfl);rw[e0,e1];(refine ZaC ?_;simp only[go_sem,hP];refine vQ ?_;refine vR ?_)
  (refine ZaC ?_;simp only[go_sem,hP];refine vQ ?_;refine vR ?_)
  (refine vC ?_ ?_<;>intro h)
  ·refine vR ?_;(refine vT ?_;try exact trivial)
  ·simp at h
 have e0:whE b.wh=0:=by unfold whE;rw[if_pos h1]
 rw[e0];have hb0:((0:Int) !=0)=false:=rfl;have hw:=ZeQ h1;have hcl:=hw.cl;simp only[go_sem,hb0];(refine Za9 (fun hG=>Zfc b.pl 0 9999) ?_;simp only[go_sem,hP,hb0];refine vQ ?_;refine vW hb0 ?_)
 by_cases h2:Zah b.pl 0 9999=true;case neg=>
  have h2:Zah b.pl 0 9999=false:=by simpa using h2
  have e1:bxE b=50:=hE (c:=false) (by unfold bxB;rw[h1,h2];rfl);rw[e1];simp only[go_sem,h2,hb0];(refine ZaC ?_;simp only[go_sem,hP];refine vQ ?_;refine vR ?_)
  (refine vC ?_ ?_<;>intro h)
  ·refine vR ?_;(refine vT ?_;try exact trivial)
  ·simp at h
 simp only[go_sem,h2,hb0];(refine Za9 (fun hG=>Zfc b.sk 0 9) ?_;simp only[go_sem,hP,h2,hb0];refine vQ ?_;refine vW (vA h2 hb0) ?_)
 by_cases h3:Zah b.sk 0 9=true;case neg=>
  have h3:Zah b.sk 0 9=false:=by simpa using h3
  have e1:bxE b=50:=hE (c:=false) (by unfold bxB;rw[h1,h2,h3];rfl);rw[e1];(refine vC ?_ ?_<;>intro h)
  ·refine vR ?_;(refine vT ?_;try exact trivial)
  ·rw[h3] at h;simp at h
 (refine vC ?_ ?_<;>intro h)
 ·rw[h3] at h;simp at h
 clear h;refine vR ?_;refine Ze9 (e:=22) (n:=3) (sz:=1) (z:=List.replicate 3 (.c (.raw (.slice none 0 0)))) (ps:=[(0,1,.t 25),(1,1,.t 27),(2,1,.t 29)]) (r:=[b.fo,b.ma,b.sl].map fun l=> .c (Zaj l)) (by kernel_rfl) (by kernel_rfl) (by kernel_rfl) rfl ?_ rfl ?_ ?_
 ·intro i q hq;have:i=0∨i=1∨i=2∨3≤i:=by omega
  rcases this with rfl|rfl|rfl|h
  case inr.inr.inr=>rw[List.getElem?_eq_none (by exact h)] at hq;cases hq
  all_goals (cases hq;exact ⟨_,rfl,rfl⟩)
 ·simp only[go_sem]
 simp only[go_sem,hP];refine vR ?_;have hin:∀l∈[b.fo,b.ma,b.sl],ZfO b.wh l=false→bxB b=false:=fun l hl h=>by
  unfold bxB;simp only[List.mem_cons,List.not_mem_nil,or_false] at hl;rcases hl with rfl|rfl|rfl<;>rw[h]<;>simp
 refine Zax [1,3,30] [] (fun k:Nat=>k≤3∧([b.fo,b.ma,b.sl].take k).all (ZfO b.wh)=true) (fun k=>3 -k) (fun k=>[(31,iv k)]) (fun _=>[]) 0 ⟨by omega,rfl⟩ ?_ ?_
 ·exact Zaz
 ·rintro k ⟨hk,hr⟩;refine vR ?_;(refine vC ?_ ?_<;>intro h)
  ·have hi:k<3:=by simp at h;omega
   have hi2:k<[b.fo,b.ma,b.sl].length:=hi;obtain ⟨l,hl⟩:∃l,[b.fo,b.ma,b.sl][k]? =some l:=⟨_,List.getElem?_eq_getElem hi2⟩;have hc:[AV.c (Zaj b.fo),.c (Zaj b.ma),.c (Zaj b.sl)][((k:Int)).toNat]? =some (.c (Zaj l)):=by
    have:=congrArg (Option.map fun l=>AV.c (Zaj l)) hl;rwa [←List.getElem?_map] at this
   have hlm:=List.mem_of_getElem? hl;have hts:([b.fo,b.ma,b.sl].take (k+1)).all (ZfO b.wh)=ZfO b.wh l:=by
    rw[List.take_add_one,hl,List.all_append,hr];simp
   have w1:=w64 (n:=(k:Int)+1) (by omega) (by omega);(refine Zcb ?_;simp only[go_sem])
   refine ZaG (Zcs (ZaG ?_));(refine ZcH ?_;simp only[go_sem,hP];refine vQ ?_)
   refine ZbM (e:=22) (n:=3) (x':=.t 30) (i':=.t 31) (k:=.i64) (j:=k) (by kernel_rfl) (by kernel_rfl) (by kernel_rfl) rfl rfl rfl rfl rfl rfl (by omega) hc ?_;have hne:((l.length:Int) !=(b.wh.co.length:Int))= !(l.length==b.wh.co.length):=Zx9 _ _;simp only[go_sem,hP];(repeat (refine vV ?_;(try simp only[go_sem,hP,Zaj,List.length_map,hne]);refine vQ ?_))
   by_cases hl2:l.length=b.wh.co.length
   ·have hb2:(l.length==b.wh.co.length)=true:=by simpa using hl2
    simp only[go_sem,hb2];(refine Za9 (fun hG=>Zk5 l 147 Zf1 (fun n _=>Zwr n)) ?_;simp only[go_sem,hP,Zaj,hb2];refine vQ ?_;(repeat (refine vV ?_;(try simp only[go_sem,hP,Zaj,hb2]);refine vQ ?_)))
    by_cases h5:l.any Zf1=true
    ·have e1:ZfO b.wh l=false:=by unfold ZfO;rw[hb2,h5];rfl
     have e2:bxE b=50:=hE (c:=false) (hin l hlm e1);rw[e2];(refine vC ?_ ?_<;>intro h)
     ·refine vR ?_;(refine vT ?_;try exact trivial)
     ·rw[h5] at h;simp at h
    ·have h5:l.any Zf1=false:=by simpa using h5
     have e1:ZfO b.wh l=true:=by unfold ZfO;rw[hb2,h5];rfl
     (refine vC ?_ ?_<;>intro h)
     ·rw[h5] at h;simp at h
     ·refine vW w1 ?_;refine ⟨k+1,⟨by omega,by rw[hts,e1]⟩,by omega,?_⟩;(refine Zai (by simp only[go_sem];exact vEi) (by simp only[go_sem];exact Zaa))
   ·have hb2:(l.length==b.wh.co.length)=false:=by simpa using hl2
    have e1:ZfO b.wh l=false:=by unfold ZfO;rw[hb2];rfl
    have e2:bxE b=50:=hE (c:=false) (hin l hlm e1);rw[e2];simp only[go_sem,hb2];(refine ZaC ?_;simp only[go_sem,hP];refine vQ ?_;refine vR ?_)
    (refine vC ?_ ?_<;>intro h)
    ·refine vR ?_;(refine vT ?_;try exact trivial)
    ·simp at h
  ·have hi:k=3:=by simp at h;omega
   subst hi;simp only[List.take_succ_cons,List.take_zero,List.all_cons,List.all_nil,Bool.and_true,Bool.and_eq_true] at hr;obtain ⟨g1,g2,g3⟩:=hr;have k1:=ZaX g1;have k2:=ZaX g2;have k3:=ZaX g3;have hbx:bxB b=(mkK b.fo b.ma b.fo.length&&decide (sumK b.fo b.sl b.fo.length≤12)):=by unfold bxB;rw[h1,h2,h3,g1,g2,g3];rfl
   refine vR0 ?_;refine Zax Zqd [] (fun k:Nat=>k≤b.fo.length∧mkK b.fo b.ma k=true) (fun k=>b.fo.length -k) (fun k=>[(49,iv k),(3,iv (sumK b.fo b.sl k))]) (fun _=>[]) 0 ⟨by omega,rfl⟩ ?_ ?_
   ·(refine Zai (by simp only[go_sem];((repeat' (first|exact ZaW _ _|refine ZaJ ?_ ?_))<;>((try simp only[ZaT,ZbG,ZbH,Nat.reduceEqDiff,reduceIte]);first|exact AWk.refl _ _|exact AWk.int (by omega)|exact AWk.int (by rw[w64 (by omega) (by omega)];omega)|exact AWk.grow rfl|exact AWk.nil _|exact AWk.of (by simp[sumK])))) (by simp only[go_sem];exact Zaa))
   ·rintro k ⟨hk,hr⟩;refine vR ?_;(refine vC ?_ ?_<;>intro h)
    ·have hi:k<b.fo.length:=by simpa using h
     have hi2:k<b.ma.length:=by omega
     have hi3:k<b.sl.length:=by omega
     have gf:=ZaD hi;have gm:=ZaD hi2;have gs:=ZaD hi3;have hs:=ZnZ k1.2 k3.2 k (by omega) (by omega);have rf:=ZaZ k1.2 hi;have rm:=ZaZ k2.2 hi2;have rs:=ZaZ k3.2 hi3;have hms:mkK b.fo b.ma (k+1)=decide (b.ma.getD k 0≤b.fo.getD k 0):=by
      conv=>lhs;unfold mkK
      rw[hr];rfl
     have hss:sumK b.fo b.sl (k+1)=sumK b.fo b.sl k+(b.fo.getD k 0+b.sl.getD k 0):=rfl;have w1:=w64 (n:=(k:Int)+1) (by omega) (by omega);have w2:=w64 (n:=b.fo.getD k 0+b.sl.getD k 0) (by omega) (by omega);have w3:=w64 (n:=sumK b.fo b.sl k+(b.fo.getD k 0+b.sl.getD k 0)) (by omega) (by omega);have hfail:mkK b.fo b.ma (k+1)=false→bxB b=false:=fun h=>by rw[hbx,Zih h hi];rfl
     generalize b.fo.getD k 0=x at*;generalize b.ma.getD k 0=y at*;generalize b.sl.getD k 0=z at*;(repeat (refine vV ?_;(try simp only[go_sem,hP,gf,gm,gs,Zaj,List.length_map,Int.toNat_natCast,Int.ofNat_lt,hi,hi2,hi3,Int.natCast_nonneg]);refine vQ ?_))
     by_cases hxy:y≤x
     ·(refine vC ?_ ?_<;>intro h)
      ·simp at h;omega
      ·(repeat (refine vV ?_;(try simp only[go_sem,hP,gf,gm,gs,Zaj,List.length_map,Int.toNat_natCast,Int.ofNat_lt,hi,hi2,hi3,Int.natCast_nonneg,w1,w2,w3]);refine vQ ?_))
       refine ⟨k+1,⟨by omega,by rw[hms];simpa using hxy⟩,by omega,?_⟩;rw[hss];(refine Zai (by simp only[go_sem];exact vEi) (by simp only[go_sem];exact Zaa))
     ·have e2:bxE b=50:=hE (c:=false) (hfail (by rw[hms];simpa using hxy));rw[e2];(refine vC ?_ ?_<;>intro h)
      ·refine vR ?_;(refine vT ?_;try exact trivial)
      ·simp at h;omega
    ·have hi:k=b.fo.length:=by simp at h;omega
     subst hi;rw[hr] at hbx;refine vR ?_;by_cases hs:sumK b.fo b.sl b.fo.length≤12
     ·have e2:bxE b=0:=hE (c:=true) (by rw[hbx];simpa using hs);rw[e2];(refine vC ?_ ?_<;>intro h)
      ·simp at h;omega
      ·refine vR ?_;(refine vT ?_;try exact trivial)
     ·have e2:bxE b=50:=hE (c:=false) (by rw[hbx];simpa using hs);rw[e2];(refine vC ?_ ?_<;>intro h)
      ·refine vR ?_;(refine vT ?_;try exact trivial)
      ·simp at h;omega
def ZzV:FC:=⟨1,13,[.t 2,.t 3],(.seq (.ops [JS 1 (.box 8 (.t 0)),JS 2 (.mv (.k (.c (.raw (.pointer none))))),JSi 3 0]) (.seq (.seq (.ops [JSL 5 8 1,JSc 6 115 [.t 5],JSm 4 6]) (.seq (.ops [JSm 7 4,JSk 8 .neq 7 0]) (.cond (.t 8) (.seq (.ops [JSm 9 4,JS 2 (.mv (.k (.c (.raw (.pointer none))))),JSm 3 9]) .ret) .skip))) (.seq (.ops [JSL 10 8 1,JS 11 (.bld [Jz 0,J0,J0,J0,J0,J0,Jz 0,Jz 0] [(0,8,(.t 10))]),JS 12 (.box 8 (.t 11)),JSm 2 12,JSi 3 0]) .ret)))⟩
abbrev ZxG:VC:=(.seq (.ops [JSb 11 .lss 10 9]) (.seq (.cond (.t 11) .skip (.exit 0)) (.seq (.block 1 (.seq (.ops [JSm 12 10,JSa 13 1 8 10,JSl 14 13,JSm 6 12,JSm 7 14]) (.ops [JSm 15 5,JSm 16 7,JSm 17 0,JS 18 (.nilc (.t 17)),JSf 19 0 18,JSf 20 0 19,JSf 21 2 20,JSl 22 21,JSm 23 6,JSa 24 1 22 23,JSl 25 24,JSb 26 .mul 16 25,JSb 27 .add 15 26,JSm 5 27]))) (.ops [JSk 28 .add 10 1,JSm 10 28]))))
-- Zum: changed and kept: [10,5]
abbrev Zum:List Nat:=[0,8,9]
def ZzW:FC:=⟨2,30,[.t 4],(.seq (.ops [JSi 4 0]) (.seq (.ops [JSi 5 0]) (.seq (.seq (.ops [JSm 8 1,JSn 9 8,JSi 10 0]) (.block 0 (.loop ZxG))) (.seq (.ops [JSm 29 5,JSm 4 29]) .ret))))⟩
abbrev Ztr:VC:=(.seq (.ops [JSb 13 .lss 12 11]) (.seq (.cond (.t 13) .skip (.exit 0)) (.seq (.block 1 (.seq (.ops [JSm 14 12,JSa 15 1 10 12,JSl 16 15,JSm 4 14,JSm 5 16]) (.ops [JSm 17 4,JSm 18 5,JSm 19 0,JS 20 (.nilc (.t 19)),JSf 21 0 20,JSf 22 5 21,JSl 23 22,JSm 24 4,JSa 25 1 23 24,JSl 26 25,JSb 27 .add 18 26,JS 28 (.iap 4 1 (.t 3) (.t 17)),JUs 1 28 27]))) (.ops [JSk 29 .add 12 1,JSm 12 29]))))
-- Zqg: changed and kept: [12]
abbrev Zqg:List Nat:=[0,2,3,10,11]
def Zvd:FC:=⟨1,31,[.cell 2 false 4],(.seq (.ops [JS 2 (.alloc [Jz 0,Jz 0,Jz 0,Jz 0])]) (.seq (.ops [JS 3 (.alloc [Jz 0,Jz 0,Jz 0,Jz 0])]) (.seq (.seq (.ops [JSm 6 0,JS 7 (.nilc (.t 6)),JSf 8 0 7,JSf 9 3 8,JSl 10 9,JSn 11 10,JSi 12 0]) (.block 0 (.loop Ztr))) (.seq (.ops [JSL 30 4 3,JUs 4 2 30]) .ret))))⟩
theorem c77:Zao Tryz.prog [] 77=some ZzV:=by kernel_rfl
theorem c78:Zao Tryz.prog [] 78=some ZzW:=by kernel_rfl
theorem ZAB:Zao Tryz.prog [] 120=some Zvd:=by kernel_rfl
structure BxOk (b:Bx):Prop where
 wh:WhOk b.wh
 pl:0≤b.pl∧b.pl≤9999
 sk:0≤b.sk∧b.sk≤9
 fl:b.fo.length=b.wh.co.length
 fo:∀n∈b.fo,0≤n∧n≤12
 ml:b.ma.length=b.wh.co.length
 ma:∀n∈b.ma,0≤n∧n≤12
 sl:b.sl.length=b.wh.co.length
 sn:∀n∈b.sl,0≤n∧n≤12
 mm:mkK b.fo b.ma b.fo.length=true
 sum:sumK b.fo b.sl b.fo.length≤12
theorem ZeF {b:Bx} (h:bxB b=true):BxOk b:=by
 simp only[bxB,Bool.and_eq_true,decide_eq_true_eq,Zah] at h;obtain ⟨⟨⟨⟨⟨⟨⟨h1,h2⟩,h3⟩,h4⟩,h5⟩,h6⟩,h7⟩,h8⟩:=h;have k1:=ZaX h4;have k2:=ZaX h5;have k3:=ZaX h6;exact ⟨ZeQ h1,h2,h3,k1.1,k1.2,k2.1,k2.2,k3.1,k3.2,h7,h8⟩
def ZoD (b:Bx):AV:=if bxB b then .c (.pt b.cds) else .c (.raw (.pointer none))
theorem Zm4 (b:Bx):FSpec Tryz.prog 77 [b.av] (.tup [ZoD b,iv (bxE b)]):=by
 refine Zac c77 (Nat.le_refl _) (by decide) fun C hP hN hC hL=> ?_;rw[Zad]
 simp only[ZzV,Bx.av,Bx.avs];(repeat (refine vV ?_;(try simp only[go_sem,hP,Bx.avs,Zaj]);refine vQ ?_))
 (refine Zau (check28 b) ?_;simp only[go_sem,hP,Bx.av,Bx.avs,Zaj];refine vQ ?_;(repeat (refine vV ?_;(try simp only[go_sem,hP,Bx.av,Bx.avs,Zaj]);refine vQ ?_)))
 by_cases h1:bxB b=true
 ·have e0:bxE b=0:=by unfold bxE;rw[if_pos h1]
  have e1:ZoD b= .c (.pt b.cds):=by unfold ZoD;rw[if_pos h1]
  rw[e0,e1];(refine vC ?_ ?_<;>intro h)
  ·simp at h
  ·refine vR ?_;refine ZlV 12 (ds:=b.cds) rfl rfl ?_;simp only[go_sem];(refine vT ?_;try exact trivial)
 ·have h1:bxB b=false:=by simpa using h1
  have e0:bxE b=50:=by unfold bxE;rw[h1];rfl
  have e1:ZoD b= .c (.raw (.pointer none)):=by unfold ZoD;rw[h1];rfl
  rw[e0,e1];(refine vC ?_ ?_<;>intro h)
  ·refine vR ?_;(refine vT ?_;try exact trivial)
  ·simp at h
def Zdk (w:Wh) (l:List Int):Nat→Int
 |0=>0
 |k+1=>Zdk w l k+l.getD k 0*w.co.getD k 0
def Zbq (w:Wh) (l:List Int):Int:=Zdk w l l.length
theorem Zgb {w:Wh} (hw:WhOk w) {l:List Int} (hl:l.length≤w.co.length) (hn:∀n∈l,0≤n∧n≤14):∀k:Nat,k≤l.length→0≤Zdk w l k∧Zdk w l k≤1400*k
 |0,_=>by simp[Zdk]
 |k+1,h=>by
  have ih:=Zgb hw hl hn k (by omega);have e1:=ZaZ hn (k:=k) (by omega);have e2:=ZaZ hw.co (k:=k) (by omega);simp only[Zdk];have h1:0≤l.getD k 0*w.co.getD k 0:=Int.mul_nonneg (by omega) (by omega);have h2:l.getD k 0*w.co.getD k 0≤14*100:=Int.mul_le_mul e1.2 e2.2 (by omega) (by omega);omega
theorem ZkI {w:Wh} (hw:WhOk w) {l:List Int} (hl:l.length≤w.co.length) (hn:∀n∈l,0≤n∧n≤14):0≤Zbq w l∧Zbq w l≤5600:=by
 have:=Zgb hw hl hn l.length (Nat.le_refl _);have:=hw.cl;unfold Zbq;omega
set_option maxHeartbeats 8000000 in
theorem worth25 {b:Bx} (hw:WhOk b.wh) {l:List Int} (hl:l.length≤b.wh.co.length) (hn:∀n∈l,0≤n∧n≤14):FSpec Tryz.prog 78 [.c (.pt b.cds),.c (Zaj l)] (iv (Zbq b.wh l)):=by
 have hcl:=hw.cl;refine Zac c78 (Nat.le_refl _) (by decide) fun C hP hN hC hL=> ?_;rw[Zad]
 simp only[ZzW];refine vR0 ?_;(refine Zax Zum [] (fun k:Nat=>k≤l.length) (fun k=>l.length -k) (fun k=>[(10,iv k),(5,iv (Zdk b.wh l k))]) (fun _=>[]) 0 (Nat.zero_le _) ?_ ?_)
 ·(refine Zai (by simp only[go_sem];((repeat' (first|exact ZaW _ _|refine ZaJ ?_ ?_))<;>((try simp only[ZaT,ZbG,ZbH,Nat.reduceEqDiff,reduceIte]);first|exact AWk.refl _ _|exact AWk.int (by omega)|exact AWk.int (by rw[w64 (by omega) (by omega)];omega)|exact AWk.grow rfl|exact AWk.nil _|exact AWk.of (by simp[Zdk])))) (by simp only[go_sem];exact Zaa))
 ·intro k hk;refine vR ?_;(refine vC ?_ ?_<;>intro h)
  ·have hi:k<l.length:=by simpa using h
   have hi2:k<b.wh.co.length:=by omega
   have g1:=ZaD hi;have g2:=ZaD hi2;have e1:=ZaZ hn hi;have e2:=ZaZ hw.co hi2;have hb:=Zgb hw hl hn k (by omega);have hs:Zdk b.wh l (k+1)=Zdk b.wh l k+l.getD k 0*b.wh.co.getD k 0:=rfl;generalize l.getD k 0=x at*;generalize b.wh.co.getD k 0=y at*;have h1:0≤x*y:=Int.mul_nonneg (by omega) (by omega);have h2:x*y≤14*100:=Int.mul_le_mul e1.2 e2.2 (by omega) (by omega);have w1:=w64 (n:=(k:Int)+1) (by omega) (by omega);have w2:=w64 (n:=x*y) (by omega) (by omega);have w3:=w64 (n:=Zdk b.wh l k+x*y) (by omega) (by omega);(repeat (refine vV ?_;(try simp only[go_sem,hP,g1,g2,Zaj,Bx.cds,List.length_map,Int.toNat_natCast,Int.ofNat_lt,hi,hi2,Int.natCast_nonneg,w1,w2,w3]);refine vQ ?_))
   refine ⟨k+1,by omega,by omega,?_⟩;rw[hs];(refine Zai (by simp only[go_sem];exact vEi) (by simp only[go_sem];exact Zaa))
  ·have hi:k=l.length:=by simp at h;omega
   subst hi;refine vR ?_;(refine Zak ?_;simp only[Zaq,inQ,ZgY,ZcN,Zae,ZaI];simp only[go_sem,ZaH,AV.port,AV.portL,exists_eq_left',Zbq];(first|exact AVle.of rfl|refine AVle.of ?_|skip))
theorem Zrn {b:Bx} (h:bxB b=false):ZoD b= .c (.raw (.pointer none)):=by unfold ZoD;rw[h];rfl
theorem Zje {b:Bx} (h:bxB b=true):ZoD b= .c (.pt b.cds):=by unfold ZoD;rw[if_pos h]
theorem Zqu {b:Bx} (h:bxB b=false):bxE b=50:=by unfold bxE;rw[h];rfl
theorem Zma {b:Bx} (h:bxB b=true):bxE b=0:=by unfold bxE;rw[if_pos h]
def ZeS (l:List Int):List Int:=[l.getD 0 0,l.getD 1 0,l.getD 2 0,l.getD 3 0]
def ZaU (a:List Int):List AV:=a.map fun n=> .c (.int .i64 n)
def ZeD (a b:List Int):List Int:=List.zipWith (·+ ·) a b
def ZbC (b:Bx):List Int:=ZeD b.fo b.sl
theorem ZoC {n:Int}:∀{p:List Int},p.length<4→(ZaU (ZeS p)).set p.length (.c (.int .i64 n))=ZaU (ZeS (p++[n]))
 |[],_=>rfl
 |[a],_=>rfl
 |[a,b],_=>rfl
 |[a,b,c],_=>rfl
 |a::b::c::d::p,h=>by simp at h;omega
set_option maxHeartbeats 8000000 in
theorem put61 {b:Bx} (hb:BxOk b):FSpec Tryz.prog 120 [.c (.pt b.cds)] (.agg (ZaU (ZeS (ZbC b)))):=by
 have hcl:=hb.wh.cl;have hfl:=hb.fl;have hsl:=hb.sl;refine Zac ZAB (Nat.le_refl _) (by decide) fun C hP hN hC hL=> ?_;rw[Zad]
 simp only[Zvd];(repeat (refine vV ?_;(try simp only[go_sem,hP,Bx.cds,Zaj,List.length_map]);refine vQ ?_))
 refine Zax Zqg [3] (fun k:Nat=>k≤b.fo.length) (fun k=>b.fo.length -k) (fun k=>[(12,iv k)]) (fun k=>[(3,.box (ZaU (ZeS ((ZbC b).take k))))]) 0 (by omega) ?_ ?_
 ·exact Zaz
 ·intro k hk;(repeat (refine vV ?_;(try simp only[go_sem,hP,ZaU,ZeS,List.map_cons,List.map_nil]);refine vQ ?_))
  (refine vC ?_ ?_<;>intro h)
  ·have hi:k<b.fo.length:=by simpa using h
   have hi2:k<b.sl.length:=by omega
   have g1:=ZaD hi;have g2:=ZaD hi2;have e1:=ZaZ hb.fo hi;have e2:=ZaZ hb.sn hi2;have hs:(ZbC b).take (k+1)=(ZbC b).take k++[b.fo.getD k 0+b.sl.getD k 0]:=by
    have hp:k<(ZbC b).length:=by simp[ZbC,ZeD];omega
    rw[List.take_succ_eq_append_getElem hp];simp only[ZbC,ZeD,List.getElem_zipWith,Zbi hi,Zbi hi2]
   have hlk:((ZbC b).take k).length=k:=by simp[ZbC,ZeD];omega
   generalize (ZbC b).take k=p at hs hlk;generalize b.fo.getD k 0=x at*;generalize b.sl.getD k 0=y at*;have w1:=w64 (n:=(k:Int)+1) (by omega) (by omega);have w2:=w64 (n:=x+y) (by omega) (by omega);have hk4:(k:Int)<4:=by omega
   (repeat (refine vV ?_;(try simp only[go_sem,hP,g1,g2,Zaj,Bx.cds,List.length_map,Int.toNat_natCast,Int.ofNat_lt,hi,hi2,Int.natCast_nonneg,w1,w2,hk4]);refine vQ ?_))
   refine ⟨k+1,by omega,by omega,?_⟩;rw[hs];have hset:=ZoC (p:=p) (n:=x+y) (by omega);rw[hlk] at hset;simp only[ZaU,ZeS,List.map_cons,List.map_nil] at hset;rw[Nat.mul_one,hset];(refine Zai (by simp only[go_sem];exact vEi) (by simp only[go_sem];exact Zaa))
  ·have hi:k=b.fo.length:=by simp at h;omega
   subst hi;rw[List.take_of_length_le (by simp[ZbC,ZeD];omega)];refine vR ?_;(refine vT ?_;try exact trivial)
def Zz3:FC:=⟨3,15,[.t 6],(.seq (.ops [JSB 6 false]) (.seq (.ops [JSm 7 0,JSm 8 1,JSb 9 .geq 7 8,JSm 10 9,JTm 11 0 10,JTm 12 2 10,JTb 13 .leq 11 12 10,JSp 14 10 13,JSm 6 14]) .ret))⟩
def Zu0:FC:=⟨3,11,[.t 6],(.seq (.ops [JSB 6 false]) (.seq (.ops [JSm 7 0,JSm 8 1,JSm 9 2,JSc 10 89 [.t 7,.t 8,.t 9],JSm 6 10]) .ret))⟩
abbrev Zwa:List Ins:=[JFm 14 0,JFm 15 7,JFa 16 1 14 15,JFl 17 16,JFm 18 1,JFm 19 2,JSc 20 89 [.t 17,.t 18,.t 19],JS 21 (.un .not (.t 20)),JSm 22 21,JNm 23 7 22,JNk 24 .gtr 23 0 22,JNm 25 24 22,JH 26 (Jm 0) 25 true,JH 27 (Jm 7) 25 true,JH 28 (Ja 1 26 27) 25 true,JH 29 (Jl 28) 25 true,JH 30 (Jm 0) 25 true,JH 31 (Jm 7) 25 true,JH 32 (Jk .sub 31 1) 25 true,JH 33 (Ja 1 30 32) 25 true,JH 34 (Jl 33) 25 true,JTb 35 .leq 29 34 25,JNp 36 25 35 22,JSo 37 22 36]
-- Zqh: changed and kept: [7]
abbrev Zqh:List Nat:=[0,1,2]
def Zvi:FC:=⟨3,38,[.t 6],(.seq (.ops [JSB 6 false]) (.seq (.seq (.ops [JSi 7 0]) (.block 0 (.loop (.seq (.seq (.ops [JSm 8 7,JSm 9 0,JSn 10 9,JSb 11 .lss 8 10]) (.cond (.t 11) .skip (.exit 0))) (.seq (.block 1 (.seq (.dops Zwa) (.cond (.t 37) (.seq (.ops [JSB 6 false]) .ret) .skip))) (.ops [JSm 12 7,JSk 13 .add 12 1,JSm 7 13])))))) (.seq (.ops [JSB 6 true]) .ret)))⟩
abbrev Zv0:List Ins:=[JSf 3 0 1,JSl 4 3,JSc 5 89 [.t 4,(.k (Jz 1)),(.k (Jz 200))],JS 6 (.un .not (.t 5)),JSm 7 6,JNf 8 1 1 7,JNl 9 8 7,JNn 10 9 7,JNk 11 .gtr 10 12 7,JSo 12 7 11,JSm 13 12,JNf 14 1 1 13,JNl 15 14 13,JNf 16 0 1 13,JNl 17 16 13,JNc 18 136 [.t 15,(.k (Jz 1)),.t 17] 13,JG 19 (.un .not (.t 18)) 13 false,JSo 20 13 19,JSm 21 20,JNf 22 2 1 21,JNl 23 22 21,JNn 24 23 21,JNk 25 .gtr 24 4 21,JSo 26 21 25,JSm 27 26,JNf 28 2 1 27,JNl 29 28 27,JNc 30 136 [.t 29,(.k (Jz 1)),(.k (Jz 100))] 27,JG 31 (.un .not (.t 30)) 27 false,JSo 32 27 31]
def ZuY:FC:=⟨1,33,[.t 2],(.seq (.ops [JS 1 (.box 3 (.t 0)),JSi 2 0]) (.seq (.seq (.ops Zv0) (.cond (.t 32) (.seq (.ops [JSi 2 10]) .ret) .skip)) (.seq (.ops [JSi 2 0]) .ret)))⟩
-- Zqb: changed and kept: [6,5]
abbrev Zqb:List Nat:=[0,1]
abbrev Zte:VC:=(.block 0 (.loop (.seq (.seq (.ops [JSm 7 6,JSm 8 0,JSn 9 8,JSb 10 .lss 7 9]) (.cond (.t 10) .skip (.exit 0))) (.seq (.block 1 (.dops [JFm 13 5,JFm 14 0,JFm 15 6,JFa 16 1 14 15,JFl 17 16,JFm 18 1,JFm 19 6,JFa 20 1 18 19,JFl 21 20,JFb 22 .add 17 21,JF 23 (.bsl 3 1 [.t 22]),JS 24 (.app 3 1 8 (.t 13) (.t 23)),JSm 5 24])) (.ops [JSm 11 6,JSk 12 .add 11 1,JSm 6 12])))))
def Zu1:FC:=⟨2,26,[.t 4],(.seq (.ops [JS 4 (.mv (.k J0))]) (.seq (.ops [JS 5 (.mv (.k J0))]) (.seq (.seq (.ops [JSi 6 0]) Zte) (.seq (.ops [JSm 25 5,JSm 4 25]) .ret))))⟩
theorem c89:Zao Tryz.prog [] 89=some Zz3:=by kernel_rfl
theorem ZAo:Zao Tryz.prog [] 102=some Zu0:=by kernel_rfl
theorem ZAG:Zao Tryz.prog [] 136=some Zvi:=by kernel_rfl
theorem ZxP:Zao Tryz.prog [] 100=some ZuY:=by kernel_rfl
theorem ZAp:Zao Tryz.prog [] 103=some Zu1:=by kernel_rfl
def i1s (l:List Int):List (List CD):=l.map fun n=>[.int .i64 n]
theorem ZcW (a b c:Int):FSpec Tryz.prog 89 [iv a,iv b,iv c] (.c (.bool (Zah a b c))):=by
 refine Zac c89 (Nat.le_refl _) (by decide) fun C hP hN hC hL=> ?_;rw[Zad]
 simp only[Zz3];refine vR ?_;(refine vT ?_;try exact trivial)
theorem ZhE (a b c:Int):FSpec Tryz.prog 102 [iv a,iv b,iv c] (.c (.bool (Zah a b c))):=by
 refine Zac ZAo (Nat.le_refl _) (by decide) fun C hP hN hC hL=> ?_;rw[Zad]
 simp only[Zu0];refine vR ?_;(refine Zau (ZcW a b c) ?_;simp only[go_sem,hP];refine vQ ?_;refine vR ?_)
 (refine vT ?_;try exact trivial)
set_option maxHeartbeats 8000000 in
theorem rising34 (l:List Int) (lo most:Int):FSpec Tryz.prog 136 [.c (Zaj l),iv lo,iv most] (.c (.bool (ZhH lo most l))):=by
 refine Zac ZAG (Nat.le_refl _) (by decide) fun C hP hN hC hL=> ?_;rw[Zad]
 have hl:l.length≤9223372036854775807:=by simp only[AV.lensL,AV.lens] at hL;exact Zd0 hL.1
 simp only[Zvi];refine vR ?_;refine Zax Zqh [] (fun k:Nat=>k≤l.length∧Zgh lo most l k=true) (fun k=>l.length -k) (fun k=>[(7,iv k)]) (fun _=>[]) 0 ⟨Nat.zero_le _,rfl⟩ ?_ ?_
 ·(refine Zai (by simp only[go_sem];exact vEi) (by simp only[go_sem];exact Zaa))
 rintro k ⟨hk,hr⟩;refine vR0 ?_;(refine vC ?_ ?_<;>intro h)
 ·have hi:k<l.length:=by simpa using h
  have hw:=w64 (n:=(k:Int)+1) (by omega) (by omega);have hgd:=ZaD hi;have hs:Zgh lo most l (k+1)=(Zah (l.getD k 0) lo most&&(decide (k=0)||decide (l.getD (k -1) 0<l.getD k 0))):=by
   conv=>lhs;unfold Zgh
   rw[hr];rfl
  have hfail:Zgh lo most l (k+1)=false→ZhH lo most l=false:=fun h=>Zey h hi
  generalize l.getD k 0=a at hgd hs;have hz0:(Go.IntKind.i64.wrap (((0:Nat):Int) -1)).toNat=0:=rfl;by_cases hz:k=0
  ·subst hz;have hd0:decide ((0:Int)<((0:Nat):Int))=false:=rfl;have hs:Zgh lo most l (0+1)=Zah a lo most:=by rw[hs];simp
   (repeat (refine vV ?_;(try simp only[go_sem,hP,hgd,Zaj,List.length_map,Int.toNat_natCast,Int.ofNat_lt,hi,Int.natCast_nonneg,hd0,hz0]);refine vQ ?_))
   (refine Zau (ZcW a lo most) ?_;simp only[go_sem,hP,hd0,hz0,hgd,Zaj,List.length_map,Int.toNat_natCast];refine vQ ?_;(repeat (refine vV ?_;(try simp only[go_sem,hP,hd0,hz0,hgd,Zaj,List.length_map,Int.toNat_natCast]);refine vQ ?_)))
   by_cases hin:Zah a lo most=true
   ·rw[hin] at hs;(refine vC ?_ ?_<;>intro h)
    ·simp[hin] at h
    refine vW hw ?_;refine ⟨0+1,⟨by omega,hs⟩,by omega,?_⟩;(refine Zai (by simp only[go_sem];exact vEi) (by simp only[go_sem];exact Zaa))
   ·have hin:Zah a lo most=false:=by simpa using hin
    rw[hin] at hs;rw[hfail hs];(refine vC ?_ ?_<;>intro h)
    ·refine vR ?_;(refine vT ?_;try exact trivial)
    ·simp[hin] at h
  ·have hgp:=ZaD (l:=l) (i:=k -1) (by omega);generalize l.getD (k -1) 0=b at hgp hs;have hd1:decide ((0:Int)<(k:Int))=true:=by rw[decide_eq_true_eq];omega
   have wi:=w64 (n:=(k:Int) -1) (by omega) (by omega);have ei:((k:Int) -1).toNat=k -1:=by omega
   have hlt:(k:Int) -1<(l.length:Int):=by omega
   have hge:(0:Int)≤(k:Int) -1:=by omega
   have hs:Zgh lo most l (k+1)=(Zah a lo most&&decide (b<a)):=by rw[hs];simp[hz]
   (repeat (refine vV ?_;(try simp only[go_sem,hP,hgd,Zaj,List.length_map,Int.toNat_natCast,Int.ofNat_lt,hi,Int.natCast_nonneg,hd1]);refine vQ ?_))
   (refine Zau (ZcW a lo most) ?_;simp only[go_sem,hP,hd1,hgd,hgp,wi,ei,hlt,hge,Zaj,List.length_map,Int.toNat_natCast,Int.ofNat_lt,hi,Int.natCast_nonneg];refine vQ ?_;(repeat (refine vV ?_;(try simp only[go_sem,hP,hd1,hgd,hgp,wi,ei,hlt,hge,Zaj,List.length_map,Int.toNat_natCast,Int.ofNat_lt,hi,Int.natCast_nonneg]);refine vQ ?_)))
   by_cases hin:(Zah a lo most&&decide (b<a))=true
   ·rw[hin] at hs;rw[Bool.and_eq_true,decide_eq_true_eq] at hin;(refine vC ?_ ?_<;>intro h)
    ·rw[hin.1] at h;simp at h;omega
    refine vW hw ?_;refine ⟨k+1,⟨by omega,hs⟩,by omega,?_⟩;(refine Zai (by simp only[go_sem];exact vEi) (by simp only[go_sem];exact Zaa))
   ·have hin:(Zah a lo most&&decide (b<a))=false:=by simpa using hin
    rw[hin] at hs;rw[hfail hs];(refine vC ?_ ?_<;>intro h)
    ·refine vR ?_;(refine vT ?_;try exact trivial)
    ·cases h1:Zah a lo most with
     |false=>rw[h1] at h;simp at h
     |true=>rw[h1] at h hin;simp at h hin;omega
 ·have hi:k=l.length:=by simp at h;omega
  subst hi;unfold ZhH;rw[hr];refine vR0 ?_;(refine vT ?_;try exact trivial)
theorem Zrs (w:Wh):FSpec Tryz.prog 100 [w.av] (iv (whE w)):=by
 refine Zac ZxP (Nat.le_refl _) (by decide) fun C hP hN hC hL=> ?_;rw[Zad]
 simp only[ZuY,Wh.av,Wh.avs];refine vR5 ?_;(refine Zau (ZcW w.ro 1 200) ?_;simp only[go_sem,hP,Zaj,List.length_map];refine vQ ?_;refine vR0 ?_)
 have hbad:whB w=false→whE w=10:=fun h=>by unfold whE;rw[h];rfl
 by_cases h1:Zah w.ro 1 200=true;case neg=>
  have h1:Zah w.ro 1 200=false:=by simpa using h1
  rw[hbad (by unfold whB;rw[h1];rfl)];simp only[go_sem,h1];(refine ZaC ?_;simp only[go_sem,hP,List.length_map];refine vQ ?_;refine vR3 ?_)
  (refine ZaC ?_;simp only[go_sem,hP,List.length_map];refine vQ ?_;refine vR3 ?_)
  (refine vC ?_ ?_<;>intro h)
  ·refine vR ?_;(refine vT ?_;try exact trivial)
  ·simp at h
 by_cases h2:(w.no.length:Int)≤12;case neg=>
  have d2:decide ((12:Int)<(w.no.length:Int))=true:=by rw[decide_eq_true_eq];omega
  rw[hbad (by unfold whB;rw[decide_eq_false h2];simp)];simp only[go_sem,h1,d2];(refine ZaC ?_;simp only[go_sem,hP,d2,List.length_map];refine vQ ?_;(repeat (refine vV ?_;(try simp only[go_sem,hP,d2,List.length_map]);refine vQ ?_)))
  (refine ZaC ?_;simp only[go_sem,hP,d2,List.length_map];refine vQ ?_;(repeat (refine vV ?_;(try simp only[go_sem,hP,d2,List.length_map]);refine vQ ?_)))
  (refine vC ?_ ?_<;>intro h)
  ·refine vR ?_;(refine vT ?_;try exact trivial)
  ·simp at h
 have d2:decide ((12:Int)<(w.no.length:Int))=false:=by rw[decide_eq_false_iff_not];omega
 simp only[go_sem,h1,d2];(refine Za9 (fun hG=>rising34 w.no 1 w.ro) ?_;simp only[go_sem,hP,Zaj,h1,d2,List.length_map];refine vQ ?_;(repeat (refine vV ?_;(try simp only[go_sem,hP,Zaj,h1,d2,List.length_map]);refine vQ ?_)))
 by_cases h3:ZhH 1 w.ro w.no=true;case neg=>
  have h3:ZhH 1 w.ro w.no=false:=by simpa using h3
  rw[hbad (by unfold whB;rw[h3];simp)];simp only[go_sem,h3];(refine ZaC ?_;simp only[go_sem,hP,List.length_map];refine vQ ?_;refine vR3 ?_)
  (refine vC ?_ ?_<;>intro h)
  ·refine vR ?_;(refine vT ?_;try exact trivial)
  ·simp at h
 by_cases h4:(w.co.length:Int)≤4;case neg=>
  have d4:decide ((4:Int)<(w.co.length:Int))=true:=by rw[decide_eq_true_eq];omega
  rw[hbad (by unfold whB;rw[decide_eq_false h4];simp)];simp only[go_sem,h3,d4];(refine ZaC ?_;simp only[go_sem,hP,d4,List.length_map];refine vQ ?_;(repeat (refine vV ?_;(try simp only[go_sem,hP,d4,List.length_map]);refine vQ ?_)))
  (refine vC ?_ ?_<;>intro h)
  ·refine vR ?_;(refine vT ?_;try exact trivial)
  ·simp at h
 have d4:decide ((4:Int)<(w.co.length:Int))=false:=by rw[decide_eq_false_iff_not];omega
 simp only[go_sem,h3,d4];(refine Za9 (fun hG=>rising34 w.co 1 100) ?_;simp only[go_sem,hP,Zaj,h3,d4,List.length_map];refine vQ ?_;(repeat (refine vV ?_;(try simp only[go_sem,hP,Zaj,h3,d4,List.length_map]);refine vQ ?_)))
 by_cases h5:ZhH 1 100 w.co=true
 ·have:whE w=0:=by unfold whE whB;rw[h1,h3,h5,decide_eq_true h2,decide_eq_true h4];rfl
  rw[this];(refine vC ?_ ?_<;>intro h)
  ·simp[h5] at h
  ·refine vR ?_;(refine vT ?_;try exact trivial)
 ·have h5:ZhH 1 100 w.co=false:=by simpa using h5
  rw[hbad (by unfold whB;rw[h5];simp)];(refine vC ?_ ?_<;>intro h)
  ·refine vR ?_;(refine vT ?_;try exact trivial)
  ·simp[h5] at h
theorem Zqt {a b:List Int} (hl:a.length=b.length) (h5:a.length≤5) (ha:∀n∈a,0≤n∧n≤12) (hb:∀n∈b,0≤n∧n≤12):FSpec Tryz.prog 103 [.c (Zaj a),.c (Zaj b)] (.c (Zaj (ZeD a b))):=by
 have hmax:maxLen=9223372036854775807:=rfl;have hal:(ZeD a b).length=a.length:=by simp[ZeD];omega
 refine Zac ZAp (Nat.le_refl _) (by decide) fun C hP hN hC hL=> ?_;rw[Zad]
 simp only[Zu1];refine vR0 ?_;refine Zby 5 24 3 1 (by decide) (by decide) rfl rfl ?_;simp only[go_sem];refine Zax Zqb [24] (fun k:Nat=>k≤a.length) (fun k=>a.length -k) (fun k=>[(6,iv k),(5,.gr 24)]) (fun k=>[(24,.grow 3 1 (i1s ((ZeD a b).take k)))]) 0 (by omega) ?_ ?_
 ·(refine Zai (by simp only[go_sem];((repeat' (first|exact ZaW _ _|refine ZaJ ?_ ?_))<;>((try simp only[ZaT,ZbG,ZbH,Nat.reduceEqDiff,reduceIte]);first|exact AWk.refl _ _|exact AWk.int (by omega)|exact AWk.int (by rw[w64 (by omega) (by omega)];omega)|exact AWk.grow rfl|exact AWk.nil _|exact AWk.of (by simp[i1s])))) (by simp only[go_sem];exact Zaa))
 ·intro k hk;refine vR0 ?_;(refine vC ?_ ?_<;>intro h)
  ·have hi:k<a.length:=by simpa using h
   have hi2:k<b.length:=by omega
   have g1:=ZaD hi;have g2:=ZaD hi2;have e1:=ZaZ ha hi;have e2:=ZaZ hb hi2;have hs:i1s ((ZeD a b).take (k+1))=i1s ((ZeD a b).take k)++[[.int .i64 (a.getD k 0+b.getD k 0)]]:=by
    rw[List.take_succ_eq_append_getElem (by omega)];simp only[i1s,List.map_append,List.map_cons,List.map_nil,ZeD,List.getElem_zipWith,Zbi hi,Zbi hi2]
   have hlk:(i1s ((ZeD a b).take k)).length=k:=by simp[i1s,hal];omega
   have hon:((i1s ((ZeD a b).take k)).all fun e=>e.length==1)=true:=by rw[List.all_eq_true];intro e he;obtain ⟨n,_,rfl⟩:=List.mem_map.1 he;rfl
   generalize i1s ((ZeD a b).take k)=L at hs hlk hon;generalize a.getD k 0=x at*;generalize b.getD k 0=y at*;have w1:=w64 (n:=(k:Int)+1) (by omega) (by omega);have w2:=w64 (n:=x+y) (by omega) (by omega);(repeat (refine vV ?_;(try simp only[go_sem,hP,g1,g2,Zaj,List.length_map,Int.toNat_natCast,Int.ofNat_lt,hi,hi2,Int.natCast_nonneg,w1,w2,hlk,hon]);refine vQ ?_))
   refine ⟨k+1,by omega,by omega,?_⟩;rw[hs];exact Zaz
  ·have hi:k=a.length:=by simp at h;omega
   subst hi;rw[List.take_of_length_le (by omega)];refine vR ?_;(refine vT ?_;try exact trivial)
abbrev Ztd:VC:=(.seq (.seq (.ops [JSm 13 6,JSm 14 1,JSn 15 14,JSb 16 .lss 13 15]) (.cond (.t 16) .skip (.exit 0))) (.seq (.block 1 (.seq (.seq (.ops [JSm 19 1,JSm 20 6,JSa 21 1 19 20,JSl 22 21,JSc 23 89 [.t 22,(.k (Jz 0)),(.k (Jz 12))],JS 24 (.un .not (.t 23))]) (.cond (.t 24) (.seq (.ops [JSB 4 false]) .ret) .skip)) (.ops [JSm 25 5,JSm 26 1,JSm 27 6,JSa 28 1 26 27,JSl 29 28,JSb 30 .add 25 29,JSm 5 30]))) (.ops [JSm 17 6,JSk 18 .add 17 1,JSm 6 18])))
-- Zqa: changed and kept: [6,5]
abbrev Zqa:List Nat:=[1]
def ZuZ:FC:=⟨2,33,[.t 4],(.seq (.ops [JS 2 (.box 3 (.t 0)),JSB 4 false]) (.seq (.seq (.ops [JSm 7 1,JSn 8 7,JSf 9 2 2,JSl 10 9,JSn 11 10,JSb 12 .neq 8 11]) (.cond (.t 12) (.seq (.ops [JSB 4 false]) .ret) .skip)) (.seq (.ops [JSi 5 0]) (.seq (.seq (.ops [JSi 6 0]) (.block 0 (.loop Ztd))) (.seq (.ops [JSm 31 5,JSk 32 .leq 31 12,JSm 4 32]) .ret)))))⟩
abbrev ZwU:OT:=(.cons (JFf 3 0 1) (.cons (JFl 4 3) (.cons (JFf 6 1 1) (.cons (JFl 7 6) (.cons (JFf 10 2 1) (.cons (JFl 11 10) (.br [(.cons (JF 5 (.bsl 3 1 [])) (.br [(.cons (JF 8 (.app 3 1 8 (.t 5) (.t 7))) (.cons (JF 9 (.bsl 3 1 [])) (.cons (JF 12 (.app 3 1 8 (.t 9) (.t 11))) (.cons (JS 13 (.bld [Jz 0,J0,J0] [(0,1,(.t 4)),(1,1,(.t 8)),(2,1,(.t 12))])) (.cons (JUs 3 2 13) .nil))))),(.cons (JF 9 (.bsl 3 1 [])) (.cons (JF 8 (.app 3 1 8 (.t 5) (.t 7))) (.cons (JF 12 (.app 3 1 8 (.t 9) (.t 11))) (.cons (JS 13 (.bld [Jz 0,J0,J0] [(0,1,(.t 4)),(1,1,(.t 8)),(2,1,(.t 12))])) (.cons (JUs 3 2 13) .nil)))))])),(.cons (JF 9 (.bsl 3 1 [])) (.cons (JF 5 (.bsl 3 1 [])) (.cons (JF 8 (.app 3 1 8 (.t 5) (.t 7))) (.cons (JF 12 (.app 3 1 8 (.t 9) (.t 11))) (.cons (JS 13 (.bld [Jz 0,J0,J0] [(0,1,(.t 4)),(1,1,(.t 8)),(2,1,(.t 12))])) (.cons (JUs 3 2 13) .nil))))))])))))))
def ZrN:FC:=⟨1,14,[.cell 2 false 3],(.seq (.ops [JS 1 (.box 3 (.t 0)),JS 2 (.alloc [Jz 0,J0,J0])]) (.seq (.drw ZwU) .ret))⟩
abbrev Zy1:OT:=(.cons (JFf 10 3 1) (.cons (JFl 11 10) (.cons (JFf 14 4 1) (.cons (JFl 15 14) (.cons (JFf 18 5 1) (.cons (JFl 19 18) (.br [(.cons (JF 9 (.bsl 3 1 [])) (.br [(.cons (JF 12 (.app 3 1 8 (.t 9) (.t 11))) (.cons (JFf 21 3 3) (.br [(.cons (JF 13 (.bsl 3 1 [])) (.br [(.cons (JF 16 (.app 3 1 8 (.t 13) (.t 15))) (.cons (JF 17 (.bsl 3 1 [])) (.cons (JF 20 (.app 3 1 8 (.t 17) (.t 19))) (.cons (JUs 1 21 12) (.cons (JSf 22 4 3) (.cons (JUs 1 22 16) (.cons (JSf 23 5 3) (.cons (JUs 1 23 20) .nil)))))))),(.cons (JF 17 (.bsl 3 1 [])) (.cons (JF 16 (.app 3 1 8 (.t 13) (.t 15))) (.cons (JF 20 (.app 3 1 8 (.t 17) (.t 19))) (.cons (JUs 1 21 12) (.cons (JSf 22 4 3) (.cons (JUs 1 22 16) (.cons (JSf 23 5 3) (.cons (JUs 1 23 20) .nil))))))))])),(.cons (JF 17 (.bsl 3 1 [])) (.cons (JF 13 (.bsl 3 1 [])) (.cons (JF 16 (.app 3 1 8 (.t 13) (.t 15))) (.cons (JF 20 (.app 3 1 8 (.t 17) (.t 19))) (.cons (JUs 1 21 12) (.cons (JSf 22 4 3) (.cons (JUs 1 22 16) (.cons (JSf 23 5 3) (.cons (JUs 1 23 20) .nil)))))))))]))),(.cons (JF 13 (.bsl 3 1 [])) (.br [(.cons (JF 12 (.app 3 1 8 (.t 9) (.t 11))) (.cons (JFf 21 3 3) (.br [(.cons (JF 16 (.app 3 1 8 (.t 13) (.t 15))) (.cons (JF 17 (.bsl 3 1 [])) (.cons (JF 20 (.app 3 1 8 (.t 17) (.t 19))) (.cons (JUs 1 21 12) (.cons (JSf 22 4 3) (.cons (JUs 1 22 16) (.cons (JSf 23 5 3) (.cons (JUs 1 23 20) .nil)))))))),(.cons (JF 17 (.bsl 3 1 [])) (.cons (JF 16 (.app 3 1 8 (.t 13) (.t 15))) (.cons (JF 20 (.app 3 1 8 (.t 17) (.t 19))) (.cons (JUs 1 21 12) (.cons (JSf 22 4 3) (.cons (JUs 1 22 16) (.cons (JSf 23 5 3) (.cons (JUs 1 23 20) .nil))))))))]))),(.cons (JF 17 (.bsl 3 1 [])) (.cons (JF 12 (.app 3 1 8 (.t 9) (.t 11))) (.cons (JF 16 (.app 3 1 8 (.t 13) (.t 15))) (.cons (JF 20 (.app 3 1 8 (.t 17) (.t 19))) (.cons (JFf 21 3 3) (.cons (JUs 1 21 12) (.cons (JSf 22 4 3) (.cons (JUs 1 22 16) (.cons (JSf 23 5 3) (.cons (JUs 1 23 20) .nil))))))))))])),(.cons (JF 17 (.bsl 3 1 [])) (.br [(.cons (JF 12 (.app 3 1 8 (.t 9) (.t 11))) (.cons (JF 13 (.bsl 3 1 [])) (.cons (JF 16 (.app 3 1 8 (.t 13) (.t 15))) (.cons (JF 20 (.app 3 1 8 (.t 17) (.t 19))) (.cons (JFf 21 3 3) (.cons (JUs 1 21 12) (.cons (JSf 22 4 3) (.cons (JUs 1 22 16) (.cons (JSf 23 5 3) (.cons (JUs 1 23 20) .nil)))))))))),(.cons (JF 13 (.bsl 3 1 [])) (.cons (JF 12 (.app 3 1 8 (.t 9) (.t 11))) (.cons (JF 16 (.app 3 1 8 (.t 13) (.t 15))) (.cons (JF 20 (.app 3 1 8 (.t 17) (.t 19))) (.cons (JFf 21 3 3) (.cons (JUs 1 21 12) (.cons (JSf 22 4 3) (.cons (JUs 1 22 16) (.cons (JSf 23 5 3) (.cons (JUs 1 23 20) .nil))))))))))]))])),(.cons (JF 13 (.bsl 3 1 [])) (.br [(.cons (JF 9 (.bsl 3 1 [])) (.br [(.cons (JF 12 (.app 3 1 8 (.t 9) (.t 11))) (.cons (JFf 21 3 3) (.br [(.cons (JF 16 (.app 3 1 8 (.t 13) (.t 15))) (.cons (JF 17 (.bsl 3 1 [])) (.cons (JF 20 (.app 3 1 8 (.t 17) (.t 19))) (.cons (JUs 1 21 12) (.cons (JSf 22 4 3) (.cons (JUs 1 22 16) (.cons (JSf 23 5 3) (.cons (JUs 1 23 20) .nil)))))))),(.cons (JF 17 (.bsl 3 1 [])) (.cons (JF 16 (.app 3 1 8 (.t 13) (.t 15))) (.cons (JF 20 (.app 3 1 8 (.t 17) (.t 19))) (.cons (JUs 1 21 12) (.cons (JSf 22 4 3) (.cons (JUs 1 22 16) (.cons (JSf 23 5 3) (.cons (JUs 1 23 20) .nil))))))))]))),(.cons (JF 17 (.bsl 3 1 [])) (.cons (JF 12 (.app 3 1 8 (.t 9) (.t 11))) (.cons (JF 16 (.app 3 1 8 (.t 13) (.t 15))) (.cons (JF 20 (.app 3 1 8 (.t 17) (.t 19))) (.cons (JFf 21 3 3) (.cons (JUs 1 21 12) (.cons (JSf 22 4 3) (.cons (JUs 1 22 16) (.cons (JSf 23 5 3) (.cons (JUs 1 23 20) .nil))))))))))])),(.cons (JF 17 (.bsl 3 1 [])) (.cons (JF 9 (.bsl 3 1 [])) (.cons (JF 12 (.app 3 1 8 (.t 9) (.t 11))) (.cons (JF 16 (.app 3 1 8 (.t 13) (.t 15))) (.cons (JF 20 (.app 3 1 8 (.t 17) (.t 19))) (.cons (JFf 21 3 3) (.cons (JUs 1 21 12) (.cons (JSf 22 4 3) (.cons (JUs 1 22 16) (.cons (JSf 23 5 3) (.cons (JUs 1 23 20) .nil)))))))))))])),(.cons (JF 17 (.bsl 3 1 [])) (.br [(.cons (JF 9 (.bsl 3 1 [])) (.br [(.cons (JF 12 (.app 3 1 8 (.t 9) (.t 11))) (.cons (JF 13 (.bsl 3 1 [])) (.cons (JF 16 (.app 3 1 8 (.t 13) (.t 15))) (.cons (JF 20 (.app 3 1 8 (.t 17) (.t 19))) (.cons (JFf 21 3 3) (.cons (JUs 1 21 12) (.cons (JSf 22 4 3) (.cons (JUs 1 22 16) (.cons (JSf 23 5 3) (.cons (JUs 1 23 20) .nil)))))))))),(.cons (JF 13 (.bsl 3 1 [])) (.cons (JF 12 (.app 3 1 8 (.t 9) (.t 11))) (.cons (JF 16 (.app 3 1 8 (.t 13) (.t 15))) (.cons (JF 20 (.app 3 1 8 (.t 17) (.t 19))) (.cons (JFf 21 3 3) (.cons (JUs 1 21 12) (.cons (JSf 22 4 3) (.cons (JUs 1 22 16) (.cons (JSf 23 5 3) (.cons (JUs 1 23 20) .nil))))))))))])),(.cons (JF 13 (.bsl 3 1 [])) (.cons (JF 9 (.bsl 3 1 [])) (.cons (JF 12 (.app 3 1 8 (.t 9) (.t 11))) (.cons (JF 16 (.app 3 1 8 (.t 13) (.t 15))) (.cons (JF 20 (.app 3 1 8 (.t 17) (.t 19))) (.cons (JFf 21 3 3) (.cons (JUs 1 21 12) (.cons (JSf 22 4 3) (.cons (JUs 1 22 16) (.cons (JSf 23 5 3) (.cons (JUs 1 23 20) .nil)))))))))))]))])))))))
def Zye:FC:=⟨1,25,[.cell 2 false 8],(.seq (.ops [JS 1 (.box 8 (.t 0)),JS 2 (.alloc [Jz 0,J0,J0,J0,J0,J0,Jz 0,Jz 0])]) (.seq (.ops [JSL 4 8 1,JS 3 (.alloc [Jz 0,J0,J0,J0,J0,J0,Jz 0,Jz 0]),JUs 8 3 4]) (.seq (.ops [JSf 5 0 1,JSL 6 3 5,JSc 7 123 [.t 6],JSf 8 0 3,JUs 3 8 7]) (.seq (.drw Zy1) (.seq (.ops [JSL 24 8 3,JUs 8 2 24]) .ret)))))⟩
theorem ZAn:Zao Tryz.prog [] 101=some ZuZ:=by kernel_rfl
theorem Zzd:Zao Tryz.prog [] 123=some ZrN:=by kernel_rfl
theorem c84:Zao Tryz.prog [] 84=some Zye:=by kernel_rfl
def Zf0 (w:Wh) (l:List Int):Bool:=ZfO w l&&decide (l.sum≤12)
theorem Zhr {w:Wh} (hw:WhOk w) (l:List Int):FSpec Tryz.prog 101 [w.av,.c (Zaj l)] (.c (.bool (Zf0 w l))):=by
 have hcl:=hw.cl;refine Zac ZAn (Nat.le_refl _) (by decide) fun C hP hN hC hL=> ?_;rw[Zad]
 simp only[ZuZ,Wh.av,Wh.avs];have hne:((l.length:Int) !=(w.co.length:Int))= !(l.length==w.co.length):=Zx9 _ _;(repeat (refine vV ?_;(try simp only[go_sem,hP,Wh.avs,Zaj,List.length_map,hne]);refine vQ ?_))
 by_cases hlen:l.length=w.co.length;case neg=>
  have hb2:(l.length==w.co.length)=false:=by simpa using hlen
  have e1:Zf0 w l=false:=by unfold Zf0 ZfO;rw[hb2];rfl
  rw[e1];(refine vC ?_ ?_<;>intro h)
  ·refine vR ?_;(refine vT ?_;try exact trivial)
  ·simp[hb2] at h
 have hb2:(l.length==w.co.length)=true:=by simpa using hlen
 (refine vC ?_ ?_<;>intro h)
 ·simp[hb2] at h
 have hlst:ZfO w l=l.all fun n=>Zah n 0 12:=by
  unfold ZfO;rw[hb2,Bool.not_true,Bool.false_or,List.not_any_eq_all_not];congr 1;funext n;simp[Zf1]
 refine vR0 ?_;refine Zax Zqa [] (fun k:Nat=>k≤l.length∧(∀n∈l.take k,Zah n 0 12=true)∧0≤(l.take k).sum∧(l.take k).sum≤12*k) (fun k=>l.length -k) (fun k=>[(6,iv k),(5,iv (l.take k).sum)]) (fun _=>[]) 0 ⟨by omega,by simp,by simp,by simp⟩ ?_ ?_
 ·exact Zaz
 ·rintro k ⟨hk,hin,hs1,hs2⟩;refine vR0 ?_;(refine vC ?_ ?_<;>intro h)
  ·have hi:k<l.length:=by simpa using h
   have g1:=ZaD hi;have hm:l.getD k 0∈l:=by rw[Zbi hi];exact List.getElem_mem _
   have hs:(l.take (k+1)).sum=(l.take k).sum+l.getD k 0:=by rw[List.take_succ_eq_append_getElem hi,List.sum_append,Zbi hi];simp
   have ht:∀n∈l.take (k+1),n∈l.take k∨n=l.getD k 0:=fun n hn=>by
    rw[List.take_succ_eq_append_getElem hi,List.mem_append,List.mem_singleton] at hn;rw[Zbi hi];exact hn
   generalize l.getD k 0=x at*;generalize (l.take k).sum=y at*;(repeat (refine vV ?_;(try simp only[go_sem,hP,g1,Zaj,List.length_map,Int.toNat_natCast,Int.ofNat_lt,hi,Int.natCast_nonneg]);refine vQ ?_))
   (refine Zau (ZcW x 0 12) ?_;simp only[go_sem,hP,Zaj];refine vQ ?_;refine vR2 ?_)
   by_cases hx:Zah x 0 12=true
   ·have hx2:0≤x∧x≤12:=by simpa [Zah] using hx
    have w1:=w64 (n:=(k:Int)+1) (by omega) (by omega);have w2:=w64 (n:=y+x) (by omega) (by omega);(refine vC ?_ ?_<;>intro h)
    ·simp[hx] at h
    (repeat (refine vV ?_;(try simp only[go_sem,hP,g1,Zaj,List.length_map,Int.toNat_natCast,Int.ofNat_lt,hi,Int.natCast_nonneg,w1,w2]);refine vQ ?_))
    refine ⟨k+1,⟨by omega,fun n hn=> ?_,by omega,by omega⟩,by omega,?_⟩
    ·rcases ht n hn with h1|rfl
     ·exact hin n h1
     ·exact hx
    ·rw[hs];(refine Zai (by simp only[go_sem];exact vEi) (by simp only[go_sem];exact Zaa))
   ·have hx:Zah x 0 12=false:=by simpa using hx
    have e1:Zf0 w l=false:=by
     unfold Zf0;rw[hlst,List.all_eq_false.2 ⟨x,hm,by simp[hx]⟩];rfl
    rw[e1];(refine vC ?_ ?_<;>intro h)
    ·refine vR ?_;(refine vT ?_;try exact trivial)
    ·simp[hx] at h
  ·have hi:k=l.length:=by simp at h;omega
   subst hi;rw[List.take_length] at hin⊢;have e1:Zf0 w l=decide (l.sum≤12):=by unfold Zf0;rw[hlst,List.all_eq_true.2 hin];rfl
   rw[e1];refine vR ?_;(refine vT ?_;try exact trivial)
theorem ones (l:List Int):((l.map fun n=>[CD.int .i64 n]).all fun e=>e.length==1)=true:=by
 rw[List.all_eq_true];intro e he;obtain ⟨n,_,rfl⟩:=List.mem_map.1 he;rfl
set_option maxHeartbeats 8000000 in
theorem copy26 {w:Wh} (h1:w.no.length≤1000) (h2:w.co.length≤1000):FSpec Tryz.prog 123 [w.av] w.av:=by
 have hmax:maxLen=9223372036854775807:=rfl;refine Zac Zzd (Nat.le_refl _) (by decide) fun C hP hN hC hL=> ?_;rw[Zad]
 simp only[ZrN,Wh.av,Wh.avs];(repeat (refine vV ?_;(try simp only[go_sem,hP,Wh.avs,Zaj,List.length_map]);refine vQ ?_))
 (refine Zbx ?_;simp only[go_sem,hP,Zaj,List.length_map,ones];(repeat' (refine And.intro ?_ ?_)))
 all_goals first|omega|skip
 all_goals ((refine Zak ?_;simp only[Zaq,inQ,ZgY,ZcN,Zae,ZaI];simp only[go_sem,ZaH,AV.port,AV.portL,exists_eq_left',Zaj];(first|exact AVle.of rfl|refine AVle.of ?_|skip)))
set_option maxHeartbeats 16000000 in
set_option maxRecDepth 20000 in
theorem copy10 {b:Bx} (h1:b.wh.no.length≤1000) (h2:b.wh.co.length≤1000) (h3:b.fo.length≤1000) (h4:b.ma.length≤1000) (h5:b.sl.length≤1000):FSpec Tryz.prog 84 [b.av] b.av:=by
 have hmax:maxLen=9223372036854775807:=rfl;refine Zac c84 (Nat.le_refl _) (by decide) fun C hP hN hC hL=> ?_;rw[Zad]
 simp only[Zye,Bx.av,Bx.avs];(repeat (refine vV ?_;(try simp only[go_sem,hP,Bx.avs,Zaj,List.length_map]);refine vQ ?_))
 (refine Zau (copy26 h1 h2) ?_;simp only[go_sem,hP,Wh.av,Wh.avs,Zaj,List.length_map];refine vQ ?_;(repeat (refine vV ?_;(try simp only[go_sem,hP,Wh.av,Wh.avs,Zaj,List.length_map]);refine vQ ?_)))
 (refine Zbx ?_;simp only[go_sem,hP,Zaj,List.length_map,ones];(repeat' (refine And.intro ?_ ?_)))
 all_goals first|omega|skip
 all_goals (refine vR ?_)
 all_goals ((refine Zak ?_;simp only[Zaq,inQ,ZgY,ZcN,Zae,ZaI];simp only[go_sem,ZaH,AV.port,AV.portL,exists_eq_left',Zaj];(first|exact AVle.of rfl|refine AVle.of ?_|skip)))
def ZvH:FC:=⟨1,6,[.cell 2 false 2],(.seq (.ops [JS 1 (.box 1 (.t 0)),JS 2 (.alloc [Jz 0,(.c (.raw .nilIface))])]) (.seq (.ops [JS 3 (.mkfn 217 [.t 1]),JS 4 (.raw (.makeInterface 204 (.tmp 3))),JS 5 (.bld [Jz 0,(.c (.raw .nilIface))] [(1,1,(.t 4))]),JUs 2 2 5]) .ret))⟩
def ZvJ:FC:=⟨1,6,[.cell 2 false 2],(.seq (.ops [JS 1 (.box 1 (.t 0)),JS 2 (.alloc [Jz 0,(.c (.raw .nilIface))])]) (.seq (.ops [JS 3 (.mkfn 219 [.t 1]),JS 4 (.raw (.makeInterface 204 (.tmp 3))),JS 5 (.bld [Jz 0,(.c (.raw .nilIface))] [(1,1,(.t 4))]),JUs 2 2 5]) .ret))⟩
def ZvK:FC:=⟨1,6,[.cell 2 false 2],(.seq (.ops [JS 1 (.box 1 (.t 0)),JS 2 (.alloc [Jz 0,(.c (.raw .nilIface))])]) (.seq (.ops [JS 3 (.mkfn 220 [.t 1]),JS 4 (.raw (.makeInterface 204 (.tmp 3))),JS 5 (.bld [Jz 0,(.c (.raw .nilIface))] [(1,1,(.t 4))]),JUs 2 2 5]) .ret))⟩
theorem ZA4:Zao Tryz.prog [] 188=some ZvH:=by kernel_rfl
theorem ZA6:Zao Tryz.prog [] 193=some ZvJ:=by kernel_rfl
theorem ZA7:Zao Tryz.prog [] 194=some ZvK:=by kernel_rfl
theorem Zjx (f:FuncId):Za3 Tryz.prog 188 [.fn f []] (fun r os=>∃b:Nat,r= .agg [iv 0,.c (.raw (.iface 204 (fnV 217 [Zd6 b 0])))]∧os=[vbox (fnV f []) b]):=by
 refine ZaK ZA4 (Nat.le_refl _) (by decide) fun C hP hN hC hL=> ?_;rw[Zad]
 simp only[ZvH];(refine ZhR ?_;simp only[go_sem,hP];refine vQ ?_)
 refine Ze0 10 (by decide) (by simp only[go_sem]) ?_;simp only[go_sem];refine Zi8 10 1 1 (v:=fnV f []) (by decide) (by simp only[go_sem]) (by simp only[go_sem]) (by simp only[go_sem]) (fun w M loc u h=>Zhx h) fun b=> ?_
 simp only[go_sem];refine ZaL (σ':=⟨upd (upd e0 1 (.c (.raw (Zd6 b 0)))) 2 (.bp 2 0),upd (upd o0 2 (.box [iv 0,.c (.raw .nilIface)])) 10 (vbox (fnV f []) b)⟩) (Zai (by simp only[go_sem];exact Zam) (by simp only[go_sem];exact Zaa)) ?_;refine vR ?_;refine Zhu (v:=fnV 217 [Zd6 b 0]) (by kernel_rfl) rfl rfl (fun w M loc u h=>ZjD h) ?_;simp only[go_sem,hP];refine vR ?_;(refine Zak ?_;simp only[Zaq,inQ,Zbe,ZaP,Zae,ZaI];simp only[go_sem,ZaH])
 exact ⟨[10],_,_,_,by simp,by simp,rfl,AVle.refl _,rfl,b,rfl,rfl⟩
theorem Zl8 (f:FuncId):Za3 Tryz.prog 193 [.fn f []] (fun r os=>∃b:Nat,r= .agg [iv 0,.c (.raw (.iface 204 (fnV 219 [Zd6 b 0])))]∧os=[vbox (fnV f []) b]):=by
 refine ZaK ZA6 (Nat.le_refl _) (by decide) fun C hP hN hC hL=> ?_;rw[Zad]
 simp only[ZvJ];(refine ZhR ?_;simp only[go_sem,hP];refine vQ ?_)
 refine Ze0 10 (by decide) (by simp only[go_sem]) ?_;simp only[go_sem];refine Zi8 10 1 1 (v:=fnV f []) (by decide) (by simp only[go_sem]) (by simp only[go_sem]) (by simp only[go_sem]) (fun w M loc u h=>Zhx h) fun b=> ?_
 simp only[go_sem];refine ZaL (σ':=⟨upd (upd e0 1 (.c (.raw (Zd6 b 0)))) 2 (.bp 2 0),upd (upd o0 2 (.box [iv 0,.c (.raw .nilIface)])) 10 (vbox (fnV f []) b)⟩) (Zai (by simp only[go_sem];exact Zam) (by simp only[go_sem];exact Zaa)) ?_;refine vR ?_;refine Zhu (v:=fnV 219 [Zd6 b 0]) (by kernel_rfl) rfl rfl (fun w M loc u h=>ZjD h) ?_;simp only[go_sem,hP];refine vR ?_;(refine Zak ?_;simp only[Zaq,inQ,Zbe,ZaP,Zae,ZaI];simp only[go_sem,ZaH])
 exact ⟨[10],_,_,_,by simp,by simp,rfl,AVle.refl _,rfl,b,rfl,rfl⟩
theorem Zrl (f:FuncId):Za3 Tryz.prog 194 [.fn f []] (fun r os=>∃b:Nat,r= .agg [iv 0,.c (.raw (.iface 204 (fnV 220 [Zd6 b 0])))]∧os=[vbox (fnV f []) b]):=by
 refine ZaK ZA7 (Nat.le_refl _) (by decide) fun C hP hN hC hL=> ?_;rw[Zad]
 simp only[ZvK];(refine ZhR ?_;simp only[go_sem,hP];refine vQ ?_)
 refine Ze0 10 (by decide) (by simp only[go_sem]) ?_;simp only[go_sem];refine Zi8 10 1 1 (v:=fnV f []) (by decide) (by simp only[go_sem]) (by simp only[go_sem]) (by simp only[go_sem]) (fun w M loc u h=>Zhx h) fun b=> ?_
 simp only[go_sem];refine ZaL (σ':=⟨upd (upd e0 1 (.c (.raw (Zd6 b 0)))) 2 (.bp 2 0),upd (upd o0 2 (.box [iv 0,.c (.raw .nilIface)])) 10 (vbox (fnV f []) b)⟩) (Zai (by simp only[go_sem];exact Zam) (by simp only[go_sem];exact Zaa)) ?_;refine vR ?_;refine Zhu (v:=fnV 220 [Zd6 b 0]) (by kernel_rfl) rfl rfl (fun w M loc u h=>ZjD h) ?_;simp only[go_sem,hP];refine vR ?_;(refine Zak ?_;simp only[Zaq,inQ,Zbe,ZaP,Zae,ZaI];simp only[go_sem,ZaH])
 exact ⟨[10],_,_,_,by simp,by simp,rfl,AVle.refl _,rfl,b,rfl,rfl⟩
abbrev Zwg:List Ins:=[JS 1 (.raw (.makeMap 233 none)),JS 2 (.raw (.makeInterface 206 (.func 176))),JS 3 (.bld [Jz 0,(.c (.raw .nilIface))] [(0,1,(.k (Jz 1))),(1,1,(.t 2))]),⟨none,.raw (.insert 233 (.tmp 1) (.const (.string ⟨#[99,111,105,110]⟩)) (.tmp 3)),none,true⟩,JS 4 (.raw (.makeInterface 206 (.func 178))),JS 5 (.bld [Jz 0,(.c (.raw .nilIface))] [(0,1,(.k (Jz 1))),(1,1,(.t 4))]),⟨none,.raw (.insert 233 (.tmp 1) (.const (.string ⟨#[109,97,114,107]⟩)) (.tmp 5)),none,true⟩,JS 6 (.raw (.makeInterface 206 (.func 179))),JS 7 (.bld [Jz 0,(.c (.raw .nilIface))] [(0,1,(.k (Jz 1))),(1,1,(.t 6))]),⟨none,.raw (.insert 233 (.tmp 1) (.const (.string ⟨#[115,108,117,103]⟩)) (.tmp 7)),none,true⟩,JS 8 (.raw (.makeInterface 206 (.func 180))),JS 9 (.bld [Jz 0,(.c (.raw .nilIface))] [(0,1,(.k (Jz 2))),(1,1,(.t 8))]),⟨none,.raw (.insert 233 (.tmp 1) (.const (.string ⟨#[112,114,101,115,115]⟩)) (.tmp 9)),none,true⟩,JS 10 (.raw (.makeInterface 206 (.func 181))),JS 11 (.bld [Jz 0,(.c (.raw .nilIface))] [(0,1,(.k (Jz 1))),(1,1,(.t 10))]),⟨none,.raw (.insert 233 (.tmp 1) (.const (.string ⟨#[108,111,115,101]⟩)) (.tmp 11)),none,true⟩,JS 12 (.raw (.makeInterface 206 (.func 182))),JS 13 (.bld [Jz 0,(.c (.raw .nilIface))] [(0,1,(.k (Jz 1))),(1,1,(.t 12))]),⟨none,.raw (.insert 233 (.tmp 1) (.const (.string ⟨#[115,107,105,112,115]⟩)) (.tmp 13)),none,true⟩,JS 14 (.raw (.makeInterface 206 (.func 183))),JS 15 (.bld [Jz 0,(.c (.raw .nilIface))] [(0,1,(.k (Jz 0))),(1,1,(.t 14))]),⟨none,.raw (.insert 233 (.tmp 1) (.const (.string ⟨#[101,109,112,116,121]⟩)) (.tmp 15)),none,true⟩,JS 16 (.raw (.makeInterface 204 (.func 184))),JS 17 (.bld [Jz 0,(.c (.raw .nilIface))] [(0,1,(.k (Jz 0))),(1,1,(.t 16))]),⟨none,.raw (.insert 233 (.tmp 1) (.const (.string ⟨#[115,116,97,110,100]⟩)) (.tmp 17)),none,true⟩,JS 18 (.raw (.makeInterface 204 (.func 185))),JS 19 (.bld [Jz 0,(.c (.raw .nilIface))] [(0,1,(.k (Jz 1))),(1,1,(.t 18))]),⟨none,.raw (.insert 233 (.tmp 1) (.const (.string ⟨#[103,105,118,101,115]⟩)) (.tmp 19)),none,true⟩,JS 20 (.raw (.makeInterface 204 (.func 186))),JS 21 (.bld [Jz 0,(.c (.raw .nilIface))] [(0,1,(.k (Jz 1))),(1,1,(.t 20))]),⟨none,.raw (.insert 233 (.tmp 1) (.const (.string ⟨#[99,104,101,97,112,101,115,116]⟩)) (.tmp 21)),none,true⟩,JS 22 (.raw (.makeInterface 204 (.func 187))),JS 23 (.bld [Jz 0,(.c (.raw .nilIface))] [(0,1,(.k (Jz 1))),(1,1,(.t 22))]),⟨none,.raw (.insert 233 (.tmp 1) (.const (.string ⟨#[119,97,105,116]⟩)) (.tmp 23)),none,true⟩,JSc 24 188 [(.k (.fn 26 []))],⟨none,.raw (.insert 233 (.tmp 1) (.const (.string ⟨#[108,111,110,103,101,115,116]⟩)) (.tmp 24)),none,true⟩,JSc 25 188 [(.k (.fn 27 []))],⟨none,.raw (.insert 233 (.tmp 1) (.const (.string ⟨#[101,110,100]⟩)) (.tmp 25)),none,true⟩,JS 26 (.raw (.makeInterface 204 (.func 189))),JS 27 (.bld [Jz 0,(.c (.raw .nilIface))] [(0,1,(.k (Jz 1))),(1,1,(.t 26))]),⟨none,.raw (.insert 233 (.tmp 1) (.const (.string ⟨#[97,116]⟩)) (.tmp 27)),none,true⟩,JS 28 (.raw (.makeInterface 204 (.func 190))),JS 29 (.bld [Jz 0,(.c (.raw .nilIface))] [(0,1,(.k (Jz 2))),(1,1,(.t 28))]),⟨none,.raw (.insert 233 (.tmp 1) (.const (.string ⟨#[108,97,116,101,115,116]⟩)) (.tmp 29)),none,true⟩,JSc 30 188 [(.k (.fn 191 []))],⟨none,.raw (.insert 233 (.tmp 1) (.const (.string ⟨#[115,111,111,110,101,115,116]⟩)) (.tmp 30)),none,true⟩,JS 31 (.raw (.makeInterface 204 (.func 192))),JS 32 (.bld [Jz 0,(.c (.raw .nilIface))] [(0,1,(.k (Jz 0))),(1,1,(.t 31))]),⟨none,.raw (.insert 233 (.tmp 1) (.const (.string ⟨#[99,97,115,104]⟩)) (.tmp 32)),none,true⟩,JSc 33 193 [(.k (.fn 31 []))],⟨none,.raw (.insert 233 (.tmp 1) (.const (.string ⟨#[99,97,110]⟩)) (.tmp 33)),none,true⟩,JSc 34 194 [(.k (.fn 32 []))],⟨none,.raw (.insert 233 (.tmp 1) (.const (.string ⟨#[109,105,115,115,105,110,103]⟩)) (.tmp 34)),none,true⟩,JSc 35 193 [(.k (.fn 33 []))],⟨none,.raw (.insert 233 (.tmp 1) (.const (.string ⟨#[119,104,105,99,104]⟩)) (.tmp 35)),none,true⟩,JSc 36 194 [(.k (.fn 34 []))],⟨none,.raw (.insert 233 (.tmp 1) (.const (.string ⟨#[115,107,105,112,112,101,100]⟩)) (.tmp 36)),none,true⟩,JSc 37 194 [(.k (.fn 35 []))],⟨none,.raw (.insert 233 (.tmp 1) (.const (.string ⟨#[115,104,111,114,116]⟩)) (.tmp 37)),none,true⟩,JSm 38 1,JSm 0 38]
def Zvx:FC:=⟨0,39,[.t 0],(.seq (.ops [JS 0 (.mv (.k (.c (.raw (.map none)))))]) (.seq (.ops Zwg) .ret))⟩
theorem ZAV:Zao Tryz.prog [] 157=some Zvx:=by kernel_rfl
def wv (n:Int) (t:Nat) (v:Value):Value:=.agg #[.int .i64 n,.iface t v]
theorem Zo7 {σ:St} {K:St→Prop} (n:Nat) {b s:Nat} {l:SL} {key:ByteArray} {m:Int} {t:TypeId} {v:Value} (hown:σ.own n=smap l b) (hm:σ.env 1= .c (.raw (.map (some b)))) (hs:σ.env s= .agg [iv m,.c (.raw (.iface t v))])
  (hlen:decide (key.data.toList.length≤100)=true) (hls:(l.all fun p=>decide (p.1.length≤100))=true) (hnew:Zd8 l key.data.toList=none) (hK:K ⟨σ.env,upd σ.own n (smap (l++[(key.data.toList,wv m t v)]) b)⟩):Zcq Tryz.prog none (.raw (.insert 233 (.tmp 1) (.const (.string key)) (.tmp s))) K σ:=by
 have hml:100≤maxLen:=by decide
 refine ZpH (k:=9) (e:=200) (x':=.t 1) (i':=.k (.c (.str key.data.toList))) (v':=.t s) (val:=wv m t v) (.inr rfl) (by kernel_rfl) (by kernel_rfl) rfl rfl rfl ?_ rfl ?_ ?_ rfl ?_ hown ?_ ?_ hnew hK
 ·simp only[go_sem,hm]
 ·simp only[go_sem,hs]
 ·simp only[go_sem,hm]
 ·intro w M loc u h;simp only[go_sem,hs,RepA,RepAs,RepC] at h;obtain ⟨l,rfl,v1,vs,rfl,rfl,v2,vs2,rfl,⟨rfl,_⟩,rfl⟩:=h;rfl
 ·exact Nat.le_trans (of_decide_eq_true hlen) hml
 ·intro p hp;exact Nat.le_trans (of_decide_eq_true (List.all_eq_true.1 hls p hp)) hml
theorem mkW {σ:St} {K:St→Prop} {d:Nat} {t f:Nat} (ht:(Tryz.prog.underlying t).map Zpm=some true) (hK:K (σ.put (some d) (.c (.raw (.iface t (fnV f [])))))):Zcq Tryz.prog (some d) (.raw (.makeInterface t (.func f))) K σ:=
 Zhu (x':=.k (.fn f [])) ht rfl rfl (fun w M loc u h=>Zhx h) hK
theorem ZpY:(Tryz.prog.underlying 206).map Zpm=some true:=by kernel_rfl
theorem u99:(Tryz.prog.underlying 204).map Zpm=some true:=by kernel_rfl
def Zt7 (q:Nat→Nat):SL:=[
 ([99,111,105,110],wv 1 206 (fnV 176 [])),
 ([109,97,114,107],wv 1 206 (fnV 178 [])),
 ([115,108,117,103],wv 1 206 (fnV 179 [])),
 ([112,114,101,115,115],wv 2 206 (fnV 180 [])),
 ([108,111,115,101],wv 1 206 (fnV 181 [])),
 ([115,107,105,112,115],wv 1 206 (fnV 182 [])),
 ([101,109,112,116,121],wv 0 206 (fnV 183 [])),
 ([115,116,97,110,100],wv 0 204 (fnV 184 [])),
 ([103,105,118,101,115],wv 1 204 (fnV 185 [])),
 ([99,104,101,97,112,101,115,116],wv 1 204 (fnV 186 [])),
 ([119,97,105,116],wv 1 204 (fnV 187 [])),
 ([108,111,110,103,101,115,116],wv 0 204 (fnV 217 [Zd6 (q 0) 0])),
 ([101,110,100],wv 0 204 (fnV 217 [Zd6 (q 1) 0])),
 ([97,116],wv 1 204 (fnV 189 [])),
 ([108,97,116,101,115,116],wv 2 204 (fnV 190 [])),
 ([115,111,111,110,101,115,116],wv 0 204 (fnV 217 [Zd6 (q 2) 0])),
 ([99,97,115,104],wv 0 204 (fnV 192 [])),
 ([99,97,110],wv 0 204 (fnV 219 [Zd6 (q 3) 0])),
 ([109,105,115,115,105,110,103],wv 0 204 (fnV 220 [Zd6 (q 4) 0])),
 ([119,104,105,99,104],wv 0 204 (fnV 219 [Zd6 (q 5) 0])),
 ([115,107,105,112,112,101,100],wv 0 204 (fnV 220 [Zd6 (q 6) 0])),
 ([115,104,111,114,116],wv 0 204 (fnV 220 [Zd6 (q 7) 0]))]
def ZBr (b:Nat) (q:Nat→Nat):List Ob:=[smap (Zt7 q) b,vbox (fnV 26 []) (q 0),vbox (fnV 27 []) (q 1),vbox (fnV 191 []) (q 2),vbox (fnV 31 []) (q 3),vbox (fnV 32 []) (q 4),vbox (fnV 33 []) (q 5),vbox (fnV 34 []) (q 6),vbox (fnV 35 []) (q 7)]
set_option maxRecDepth 100000 in
set_option maxHeartbeats 2000000 in
theorem words67:Za3 Tryz.prog 157 [] (fun r os=>∃(b:Nat) (q:Nat→Nat),r= .c (.raw (.map (some b)))∧os=ZBr b q):=by
 refine ZaK ZAV (Nat.le_refl _) (by decide) fun C hP hN hC hL=> ?_;rw[Zad]
 simp only[Zvx];(refine ZhR ?_;simp only[go_sem,hP];refine vQ ?_)
 refine ZhR ?_;simp only[go_sem,hP];refine vQ ?_;refine ZsS rfl fun b=> ?_
 simp only[go_sem,hP];refine vQ ?_;(repeat (first|(refine mkW ZpY ?_;simp only[go_sem,hP];refine vQ ?_)|(refine mkW u99 ?_;simp only[go_sem,hP];refine vQ ?_)|(refine Zo7 1 rfl rfl rfl rfl rfl rfl ?_;simp only[go_sem,hP];refine vQ ?_)))
 refine ZaR (Zjx 26) rfl rfl rfl rfl ?_;rintro r os ⟨b0,rfl,rfl⟩;refine ⟨[101],_,_,by simp,rfl,rfl,rfl,rfl,?_⟩;simp only[go_sem,hP,Zab];refine vQ ?_;(repeat (first|(refine mkW ZpY ?_;simp only[go_sem,hP];refine vQ ?_)|(refine mkW u99 ?_;simp only[go_sem,hP];refine vQ ?_)|(refine Zo7 1 rfl rfl rfl rfl rfl rfl ?_;simp only[go_sem,hP];refine vQ ?_)))
 refine ZaR (Zjx 27) rfl rfl rfl rfl ?_;rintro r os ⟨b1,rfl,rfl⟩;refine ⟨[102],_,_,by simp,rfl,rfl,rfl,rfl,?_⟩;simp only[go_sem,hP,Zab];refine vQ ?_;(repeat (first|(refine mkW ZpY ?_;simp only[go_sem,hP];refine vQ ?_)|(refine mkW u99 ?_;simp only[go_sem,hP];refine vQ ?_)|(refine Zo7 1 rfl rfl rfl rfl rfl rfl ?_;simp only[go_sem,hP];refine vQ ?_)))
 refine ZaR (Zjx 191) rfl rfl rfl rfl ?_;rintro r os ⟨b2,rfl,rfl⟩;refine ⟨[103],_,_,by simp,rfl,rfl,rfl,rfl,?_⟩;simp only[go_sem,hP,Zab];refine vQ ?_;(repeat (first|(refine mkW ZpY ?_;simp only[go_sem,hP];refine vQ ?_)|(refine mkW u99 ?_;simp only[go_sem,hP];refine vQ ?_)|(refine Zo7 1 rfl rfl rfl rfl rfl rfl ?_;simp only[go_sem,hP];refine vQ ?_)))
 refine ZaR (Zl8 31) rfl rfl rfl rfl ?_;rintro r os ⟨b3,rfl,rfl⟩;refine ⟨[104],_,_,by simp,rfl,rfl,rfl,rfl,?_⟩;simp only[go_sem,hP,Zab];refine vQ ?_;(repeat (first|(refine mkW ZpY ?_;simp only[go_sem,hP];refine vQ ?_)|(refine mkW u99 ?_;simp only[go_sem,hP];refine vQ ?_)|(refine Zo7 1 rfl rfl rfl rfl rfl rfl ?_;simp only[go_sem,hP];refine vQ ?_)))
 refine ZaR (Zrl 32) rfl rfl rfl rfl ?_;rintro r os ⟨b4,rfl,rfl⟩;refine ⟨[105],_,_,by simp,rfl,rfl,rfl,rfl,?_⟩;simp only[go_sem,hP,Zab];refine vQ ?_;(repeat (first|(refine mkW ZpY ?_;simp only[go_sem,hP];refine vQ ?_)|(refine mkW u99 ?_;simp only[go_sem,hP];refine vQ ?_)|(refine Zo7 1 rfl rfl rfl rfl rfl rfl ?_;simp only[go_sem,hP];refine vQ ?_)))
 refine ZaR (Zl8 33) rfl rfl rfl rfl ?_;rintro r os ⟨b5,rfl,rfl⟩;refine ⟨[106],_,_,by simp,rfl,rfl,rfl,rfl,?_⟩;simp only[go_sem,hP,Zab];refine vQ ?_;(repeat (first|(refine mkW ZpY ?_;simp only[go_sem,hP];refine vQ ?_)|(refine mkW u99 ?_;simp only[go_sem,hP];refine vQ ?_)|(refine Zo7 1 rfl rfl rfl rfl rfl rfl ?_;simp only[go_sem,hP];refine vQ ?_)))
 refine ZaR (Zrl 34) rfl rfl rfl rfl ?_;rintro r os ⟨b6,rfl,rfl⟩;refine ⟨[107],_,_,by simp,rfl,rfl,rfl,rfl,?_⟩;simp only[go_sem,hP,Zab];refine vQ ?_;(repeat (first|(refine mkW ZpY ?_;simp only[go_sem,hP];refine vQ ?_)|(refine mkW u99 ?_;simp only[go_sem,hP];refine vQ ?_)|(refine Zo7 1 rfl rfl rfl rfl rfl rfl ?_;simp only[go_sem,hP];refine vQ ?_)))
 refine ZaR (Zrl 35) rfl rfl rfl rfl ?_;rintro r os ⟨b7,rfl,rfl⟩;refine ⟨[108],_,_,by simp,rfl,rfl,rfl,rfl,?_⟩;simp only[go_sem,hP,Zab];refine vQ ?_;(repeat (first|(refine mkW ZpY ?_;simp only[go_sem,hP];refine vQ ?_)|(refine mkW u99 ?_;simp only[go_sem,hP];refine vQ ?_)|(refine Zo7 1 rfl rfl rfl rfl rfl rfl ?_;simp only[go_sem,hP];refine vQ ?_)))
 (refine Zak ?_;simp only[Zaq,inQ,Zbe,ZaP,Zae,ZaI];simp only[go_sem,ZaH])
 exact ⟨[1,101,102,103,104,105,106,107,108],_,_,_,by simp,by simp,rfl,AVle.refl _,rfl,b,fun i=>[b0,b1,b2,b3,b4,b5,b6,b7].getD i 0,rfl,rfl⟩
end Go.Proofs.YtcggfogkfhlmlaaGreatDoor
namespace Go.Proofs.YtcggfogkfhlmlaaGreatDoor
open Go Go.V Go.RowKit Go.Shelf
def Zvw:FC:=⟨2,8,[.t 4],(.seq (.ops [JS 4 (.mv (.k J0))]) (.seq (.ops [JSm 5 0,JSm 6 1,JSc 7 175 [.t 5,.t 6,(.k (Jz 0)),(.k (Jz (-1)))],JSm 4 7]) .ret))⟩
theorem ZAU:Zao Tryz.prog [] 156=some Zvw:=by kernel_rfl
attribute [local go_sem] Nat.reduceEqDiff Nat.reduceAdd Nat.reduceMul reduceIte Nat.reduceLeDiff Nat.reduceLT Nat.reduceBEq reduceCtorEq
def ZsX:Ren:=⟨fun|101=>195|208=>221|206=>241|n=>n,
 fun x=>x,
 fun x=>x⟩
def ZpN:Ren:=⟨fun|221=>175|268=>213|138=>214|143=>215|195=>234|197=>235|218=>236|219=>237|260=>254|217=>255|225=>256|224=>257|267=>258|266=>268|314=>269|n=>n,
 fun|31=>35|105=>288|46=>245|119=>318|139=>321|138=>320|146=>322|51=>270|n=>n,
 fun|1=>0|3=>4|4=>5|n=>n⟩
def ZsV:Ren:=⟨fun|172=>196|244=>222|245=>223|247=>242|279=>243|280=>244|281=>245|282=>246|287=>261|316=>262|171=>159|205=>263|321=>270|322=>271|243=>197|246=>224|283=>247|284=>248|285=>249|286=>250|129=>212|317=>264|318=>265|319=>266|320=>267|337=>272|338=>273|n=>n,
 fun|75=>255|76=>256|167=>294|37=>100|85=>295|168=>297|53=>272|175=>310|46=>245|210=>313|127=>281|145=>327|143=>325|171=>300|173=>302|212=>316|51=>270|213=>317|232=>328|233=>329|80=>261|n=>n,
 fun|15=>1|16=>2|17=>3|18=>6|19=>7|n=>n⟩
theorem Zcg {P:Program} {f:Nat} {B:Func} (h:P.funcs[f]? = some B) (hb:B.body.isSome = true) (hn:(B.name == "runtime.NumGoroutine") = false):Zbs P f :=
 ⟨_,h,hb,by simpa using hn⟩
theorem ZmP:Lays.n101 Tryz.prog ZsX:=by
 constructor<;>first|kernel_rfl|(intro w;kernel_rfl)
theorem Ze5:Lays.n221 Tryz.prog ZpN:=by
 constructor<;>first|kernel_rfl|(intro w;kernel_rfl)
theorem ZmN:Lays.n172 Tryz.prog ZsV:=by
 constructor<;>first|kernel_rfl|(intro w;kernel_rfl)
theorem Ztb (s p:List UInt8):FSpec Tryz.prog 195 [.c (.str s),.c (.str p)] (.c (.str (Lib.trimPrefix s p))):=by
 refine ⟨Zcg ZmP.f101 (by kernel_rfl) (by kernel_rfl),fun w M vs hM hr=> ?_⟩;simp only[RepAs,RepA,RepC] at hr;obtain ⟨_,_,rfl,rfl,_,_,rfl,rfl,rfl⟩:=hr;refine (Any.strings_TrimPrefix ZmP ⟨s.toArray⟩ ⟨p.toArray⟩ w).mono ?_;rintro e w' ⟨rfl,rfl⟩;exact ⟨_,rfl,by simp only[RepA,RepC],rfl,rfl,rfl,Nat.le_refl _,fun k _=>rfl⟩
theorem Zrg {s:List UInt8} {n:Int} (hl:s.length≤18) (h:Lib.atoi s=some n):FSpec Tryz.prog 196 [.c (.str s)] (.tup [iv n,.c (.raw .nilIface)]):=by
 refine ⟨Zcg ZmN.f172 (by kernel_rfl) (by kernel_rfl),fun w M vs hM hr=> ?_⟩;simp only[RepAs,RepA,RepC] at hr;obtain ⟨_,_,rfl,rfl,rfl⟩:=hr;refine (Any.strconv_Atoi ZmN ⟨s.toArray⟩ n (by simpa [ByteArray.size] using hl) h w).mono ?_;rintro e w' ⟨rfl,t,rfl⟩;refine ⟨_,rfl,?_,Lib.bytesWorld_below w _ _⟩;simp only[RepA,RepAs,RepC];exact ⟨[_,_],rfl,_,_,rfl,rfl,_,_,rfl,⟨rfl,rfl⟩,rfl⟩
theorem ZiI {w:World} {M:Cells} {loc:Nat→Value}:∀(l:List (List UInt8)),RepAs w M loc (l.map fun s=> .c (.str s)) (l.map sv)
 |[]=>by simp[RepAs]
 |s::l=>by
  simp only[List.map_cons,RepAs,RepA,RepC];exact ⟨_,_,rfl,rfl,ZiI l⟩
theorem ZfD:∀l:List (List UInt8),(l.map fun s=>[CD.str s]).flatten.map AV.c=l.map fun s=>AV.c (.str s)
 |[]=>rfl
 |x::l=>by simp only[List.map_cons,List.flatten_cons,List.map_append,ZfD l];rfl
def ZeG (s:List UInt8):List (List UInt8):=Lib.split s [32]
def ZaY (l:List (List UInt8)):CD:=.sl 1 (l.map fun x=>[.str x])
theorem Zs4 {s:List UInt8} (hs:s.length<4294967281):FSpec Tryz.prog 175 [.c (.str s),.c (.str [32]),iv 0,iv (-1)] (.c (ZaY (ZeG s))):=by
 refine ⟨Zcg Ze5.f221 (by kernel_rfl) (by kernel_rfl),fun w M vs hM hr=> ?_⟩;simp only[RepAs,RepA,RepC] at hr;obtain ⟨_,_,rfl,rfl,_,_,rfl,rfl,_,_,rfl,rfl,_,_,rfl,rfl,rfl⟩:=hr;obtain ⟨S,hS⟩:∃S:ByteArray,S=⟨s.toArray⟩:=⟨_,rfl⟩;have hSd:S.data.toList=s:=by rw[hS]
 have hSs:S.size=s.length:=by rw[hS];simp[ByteArray.size]
 rw[←hS];have h1:1≤(⟨#[32]⟩:ByteArray).size:=Nat.le_refl 1;have hle:=Lib.countB_le ⟨#[32]⟩ h1 S.size S (Nat.le_refl _);have hlen:=Lib.splitB_all ⟨#[32]⟩ h1 0 _ S rfl;have c:=Any.strings_genSplit_core Ze5 (by kernel_rfl) S ⟨#[32]⟩ 0 (-1) (Lib.countB S ⟨#[32]⟩+1) w (by omega) h1 (Nat.zero_le _)
  (fun x c hx=>(Any.strings_Index_one {Ze5 with} x 32 _).mono fun e w' ⟨he,hw⟩=>⟨by rw[he];show _=Ending.returned (Value.int .i64 (Lib.index x.data.toList [32]));rw[Lib.index_one],hw⟩)
  ((Any.strings_Count_one {Ze5 with} S 32 w).mono fun e w' ⟨he,hw⟩=>⟨by rw[he];show _=Ending.returned (Value.int .i64 ((Lib.count S.data.toList [32]:Nat):Int));rw[Lib.count_one];rfl,hw⟩)
  (by decide) (by decide) (by rw[if_pos (by decide)];omega)
 rw[Nat.add_sub_cancel,hlen] at c;have e2:Lib.cellsOf (Lib.splitB ⟨#[32]⟩ 0 (Lib.countB S ⟨#[32]⟩) S) (Lib.countB S ⟨#[32]⟩+1)=((Lib.splitB ⟨#[32]⟩ 0 (Lib.countB S ⟨#[32]⟩) S).map Value.string).toArray:=by rw[←hlen];exact Lib.cellsOf_full _
 rw[e2] at c;have e3:(Lib.splitB ⟨#[32]⟩ 0 (Lib.countB S ⟨#[32]⟩) S).map Value.string=(ZeG s).map sv:=by
  have:=Lib.splitB_data ⟨#[32]⟩ 0 (Lib.countB S ⟨#[32]⟩) S;unfold ZeG Lib.split;rw[←hSd];rw[←this,List.map_map];rfl
 have e4:(ZeG s).length=Lib.countB S ⟨#[32]⟩+1:=by
  have:=congrArg List.length e3;simpa [hlen] using this.symm
 rw[e3,←e4] at c;refine (show Calls Tryz.prog 175 _ w _ from c).mono ?_;rintro e w' ⟨rfl,rfl⟩;refine ⟨_,rfl,?_,(Below.refl _ _).alloc (Nat.le_refl _) _⟩;have hmax:s.length≤maxLen:=by have:maxLen=9223372036854775807:=rfl;omega
 simp only[RepA,RepC,ZaY,List.length_map];refine ⟨_,_,rfl,Nat.le_refl _,?_,.inr ⟨_,rfl,?_⟩⟩
 ·have:maxLen=9223372036854775807:=rfl;omega
 ·refine Zhw _ ((ZeG s).map sv) 0 (fun e he=> ?_) ?_ (fun j u hj=> ?_) (fun j hj hm=> ?_)
  ·obtain ⟨n,_,rfl⟩:=List.mem_map.1 he;rfl
  ·rw[ZfD];exact ZiI _
  ·rw[cell_of_row _ _ _ _ _ _ (heap_alloc_new w _),Nat.zero_add,←Array.getElem?_toList];exact hj
  ·have:=hM _ _ hm;omega
theorem Zs3 {s:List UInt8} (hs:s.length<4294967281):FSpec Tryz.prog 156 [.c (.str s),.c (.str [32])] (.c (ZaY (ZeG s))):=by
 refine Zac ZAU (Nat.le_refl _) (by decide) fun C hP hN hC hL=> ?_;rw[Zad]
 simp only[Zvw];refine vR ?_;(refine Zau (Zs4 hs) ?_;simp only[go_sem,hP];refine vQ ?_;refine vR ?_)
 refine vR ?_;(refine vT ?_;try exact trivial)
end Go.Proofs.YtcggfogkfhlmlaaGreatDoor
