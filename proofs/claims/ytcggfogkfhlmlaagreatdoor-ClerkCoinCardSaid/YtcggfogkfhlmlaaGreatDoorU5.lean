/-
  Contracts of the layer's functions, of the laws' helpers and of the law; conditions: as each theorem states.
-/
import Derived.Test.YtcggfogkfhlmlaaGreatDoorU4
import Derived.Test.YtcggfogkfhlmlaaGreatDoorV2
import Derived.Test.YtcggfogkfhlmlaaGreatDoorV3
import Derived.Shelf.Strconv.Itoa3
import Derived.Shelf.Strings.OnBuilder
import Derived.Lib.AppendIntMem
import Derived.Lib.ItoaLen
import Derived.DeepKeys5
import Derived.Shelf.SlIterI.Nil
import Derived.Shelf.SortM.Plain
import Derived.Shelf.SortM.SortNone
import Derived.Shelf.Slices.Reverse
import Derived.Sort.OwnSortedInts
set_option linter.unusedVariables false
set_option linter.unusedSimpArgs false
namespace Go.Proofs.YtcggfogkfhlmlaaGreatDoor
open Go Go.V
abbrev Zwh:List Ins:=[JSm 10 4,JS 11 (.prim .slen [.t 10]),JSk 12 .eql 11 0,JSm 13 12,JNm 14 4 13,JG 15 (.prim .slen [.t 14]) 13 false,JNk 16 .gtr 15 9 13,JSo 17 13 16,JSm 18 17,JNm 19 4 18,JG 20 (.prim .sidx [.t 19,(.k (Jz 0))]) 18 false,JG 21 (.bin .eql (.t 20) (.k (.c (.int .u8 48)))) 18 false,JNm 22 21 18,JTm 23 4 22,JG 24 (.prim .slen [.t 23]) 22 true,JTk 25 .gtr 24 1 22,JTm 26 25 22,JNm 27 0 26,JG 28 (.prim .slen [.t 27]) 26 false,JNk 29 .gtr 28 1 26,JTo 30 26 29 22,JNp 31 22 30 18,JSo 32 18 31]
abbrev Zwi:List Ins:=[JSm 38 4,JSm 39 5,JS 40 (.prim .sidx [.t 38,.t 39]),JS 41 (.bin .lss (.t 40) (.k (.c (.int .u8 48)))),JSm 42 41,JNm 43 4 42,JNm 44 5 42,JG 45 (.prim .sidx [.t 43,.t 44]) 42 false,JG 46 (.bin .gtr (.t 45) (.k (.c (.int .u8 57)))) 42 false,JSo 47 42 46]
-- K158_1: changed and kept: [35]
abbrev Zs8:OT:=(.cons (JFm 55 7) (.br [(.cons (JFm 54 6) (.br [(.cons (JS 56 (.raw (.binOp .eql 255 (.tmp 55) (.const .nilIface) 255))) (.cons (JFm 2 54) (.cons (JSm 3 56) .nil))),(.cons (JFm 2 54) (.cons (JS 56 (.raw (.binOp .eql 255 (.tmp 55) (.const .nilIface) 255))) (.cons (JSm 3 56) .nil)))])),(.cons (JS 56 (.raw (.binOp .eql 255 (.tmp 55) (.const .nilIface) 255))) (.cons (JFm 54 6) (.cons (JFm 2 54) (.cons (JSm 3 56) .nil))))]))
abbrev ZtH:VC:=(.seq (.seq (.ops [JSm 33 4,JS 34 (.prim .slen [.t 33]),JSi 35 0]) (.block 0 (.loop (.seq (.ops [JSb 36 .lss 35 34]) (.seq (.cond (.t 36) .skip (.exit 0)) (.seq (.block 1 (.seq (.ops [JSm 37 35,JSm 5 37]) (.seq (.ops Zwi) (.cond (.t 47) (.seq (.ops [JSi 2 0,JSB 3 false]) .ret) .skip)))) (.ops [JSk 48 .add 35 1,JSm 35 48]))))))) (.seq (.ops [JSm 50 0,JSc 51 196 [.t 50],JSm 49 51,JSe 52 49 0,JSe 53 49 1,JSm 6 52,JSm 7 53]) (.seq (.drw Zs8) .ret)))
def Zvy:FC:=⟨1,57,[.t 2,.t 3],(.seq (.ops [JSi 2 0,JSB 3 false]) (.seq (.ops [JSm 8 0,JSc 9 195 [.t 8,(.k (.c (.str [45])))],JSm 4 9]) (.seq (.seq (.ops Zwh) (.cond (.t 32) (.seq (.ops [JSi 2 0,JSB 3 false]) .ret) .skip)) ZtH)))⟩
theorem ZAW:Zao Tryz.prog [] 158=some Zvy:=by kernel_rfl
attribute [local go_sem] Nat.reduceEqDiff Nat.reduceAdd Nat.reduceMul reduceIte Nat.reduceLeDiff Nat.reduceLT Nat.reduceBEq reduceCtorEq
def Zba (s:List UInt8):List UInt8:=Lib.trimPrefix s [45]
def dgt (b:UInt8):Bool:=decide (48≤b.toNat)&&decide (b.toNat≤57)
def Zcw (s:List UInt8):Bool:=(((Zba s).length:Int)==0||decide (9<((Zba s).length:Int))||((((Zba s).getD 0 0).toNat:Int)==48&&(decide (1<((Zba s).length:Int))||decide (1<(s.length:Int)))))
def Zbo (s:List UInt8):Bool:=!Zcw s&&(Zba s).all dgt
def ZgG (s:List UInt8):Int:=if Zbo s then (Lib.atoi s).getD 0 else 0
theorem Zb8 (p:UInt8→Bool):∀(l:List UInt8) (k:Nat),k<l.length→(l.take (k+1)).all p=((l.take k).all p&&p (l.getD k 0))
 |[],k,h=>by simp at h
 |b::l,0,_=>by simp
 |b::l,k+1,h=>by
  have:=Zb8 p l k (by simpa using h);simp only[List.take_succ_cons,List.all_cons,this,List.getD_cons_succ,Bool.and_assoc]
theorem ZcP:∀(l:List UInt8) (acc:Nat),l.all dgt=true→∃m,Lib.decFrom acc l=some m
 |[],acc,_=>⟨acc,rfl⟩
 |b::l,acc,h=>by
  simp only[List.all_cons,Bool.and_eq_true] at h;have hb:Lib.digitVal b=some (b.toNat -48):=by
   have:=h.1;unfold dgt at this;simp only[Bool.and_eq_true,decide_eq_true_eq] at this;unfold Lib.digitVal;rw[if_pos this]
  obtain ⟨m,hm⟩:=ZcP l (acc*10+(b.toNat -48)) h.2;exact ⟨m,by unfold Lib.decFrom;rw[hb];exact hm⟩
theorem ZfR {s:List UInt8} (h:Zbo s=true):0<(Zba s).length∧(Zba s).length≤9∧s.length≤10∧(Zba s).all dgt=true:=by
 unfold Zbo at h;rw[Bool.and_eq_true] at h;obtain ⟨h1,h2⟩:=h;have hb':Zcw s=false:=by simpa using h1
 unfold Zcw at hb';simp at hb';have h3:=List.length_pos_iff.2 hb'.1.1;have h4:s.length≤(Zba s).length+1:=by unfold Zba Lib.trimPrefix;split<;>simp;omega
 exact ⟨h3,by omega,by omega,h2⟩
theorem Zl6 {s:List UInt8} (h:Zbo s=true):Lib.atoi s=some (ZgG s):=by
 obtain ⟨h1,h2,h3,h4⟩:=ZfR h;have:∃n,Lib.atoi s=some n:=by
  cases s with
  |nil=>exact absurd h1 (by simp[Zba,Lib.trimPrefix])
  |cons b r=>
   unfold Lib.atoi;by_cases hb:b=45
   ·subst hb;have hd:Zba (45::r)=r:=by simp[Zba,Lib.trimPrefix,Lib.hasPrefix]
    rw[hd] at h1 h4;obtain ⟨m,hm⟩:=ZcP r 0 h4;have:r.isEmpty=false:=by cases r<;>simp at h1⊢
    simp[Lib.decNat,this,hm]
   ·have hd:Zba (b::r)=b::r:=by
     have:(45:UInt8)≠b:=fun e=>hb e.symm
     simp[Zba,Lib.trimPrefix,Lib.hasPrefix,this]
    rw[hd] at h4;obtain ⟨m,hm⟩:=ZcP (b::r) 0 h4;have h43:b≠43:=by
     rintro rfl;simp[dgt] at h4
    simp[Lib.decNat,hb,h43,hm]
 obtain ⟨n,hn⟩:=this;unfold ZgG;rw[if_pos h,hn];rfl
theorem Zpo {s:List UInt8} (hs:s.length≤1000):FSpec Tryz.prog 158 [.c (.str s)] (.tup [iv (ZgG s),.c (.bool (Zbo s))]):=by
 have hm:maxLen=9223372036854775807:=rfl;have hdl:(Zba s).length≤s.length:=by unfold Zba Lib.trimPrefix;split<;>simp
 refine Zac ZAW (Nat.le_refl _) (by decide) fun C hP hN hC hL=> ?_;rw[Zad]
 simp only[Zvy];refine vR ?_;(refine Zau (Ztb s [45]) ?_;simp only[go_sem,hP];refine vQ ?_;refine vR ?_)
 rw[show Lib.trimPrefix s [45]=Zba s from rfl];refine ⟨fun h=>⟨h,Int.le_refl 0,by simp at h;have:=List.length_pos_iff.2 h.1;omega⟩,fun h=>⟨h,fun h2=>⟨h,by simp[h2]⟩⟩,fun h=>⟨h,fun h2=>⟨h,h2⟩⟩,fun h=>by rw[h];rfl,?_⟩;refine ZaL (σ':=⟨upd (upd (upd (upd (upd e0 0 (.c (.str s))) 4 (.c (.str (Zba s)))) 32 (.c (.bool (Zcw s)))) 2 (iv 0)) 3 (.c (.bool false)),o0⟩) (Zai (by simp only[go_sem];exact vEr) (by simp only[go_sem];exact Zaa)) ?_;by_cases hb:Zcw s=true
 ·have hok:Zbo s=false:=by unfold Zbo;rw[hb];rfl
  have hv:ZgG s=0:=by unfold ZgG;rw[hok];rfl
  rw[hok,hv];refine vR ?_;(refine vC ?_ ?_<;>intro h)
  ·refine vR ?_;(refine vT ?_;try exact trivial)
  ·rw[hb] at h;cases h
 ·have hb':Zcw s=false:=by simpa using hb
  have hd9:(Zba s).length≤9:=by
   unfold Zcw at hb';simp at hb';omega
  have hd0:0<(Zba s).length:=by
   unfold Zcw at hb';simp at hb';exact List.length_pos_iff.2 hb'.1.1
  refine vR ?_;(refine vC ?_ ?_<;>intro h)
  ·exact absurd h hb
  refine vR ?_;refine ZaQ (fun k:Nat=>⟨upd (upd (upd (upd (upd (upd e0 0 (.c (.str s))) 4 (.c (.str (Zba s)))) 2 (iv 0)) 3 (.c (.bool false))) 34 (iv (Zba s).length)) 35 (iv k),o0⟩) (fun k=>k≤(Zba s).length∧((Zba s).take k).all dgt=true) (fun k=>(Zba s).length -k) 0 ⟨Nat.zero_le _,rfl⟩ ?_ ?_
  ·exact Zaz
  rintro k ⟨hk,hr⟩;refine vR ?_;(refine vC ?_ ?_<;>intro h)
  ·have hi:k<(Zba s).length:=by simpa using h
   have hw:=w64 (n:=(k:Int)+1) (by omega) (by omega);have hts:=Zb8 dgt (Zba s) k hi;rw[hr,Bool.true_and] at hts;have hfail:dgt ((Zba s).getD k 0)=false→Zbo s=false:=fun h=>by
    unfold Zbo;have:(Zba s).all dgt=false:=by
     cases hx:(Zba s).all dgt with
     |false=>rfl
     |true=>
      have:=List.all_eq_true.1 hx ((Zba s).getD k 0) (by rw[List.getD_eq_getElem?_getD,List.getElem?_eq_getElem hi];exact List.getElem_mem hi);rw[h] at this;cases this
    rw[this,Bool.and_false]
   (repeat (refine vV ?_;(try simp only[go_sem,hP,Int.toNat_natCast]);refine vQ ?_))
   by_cases hdg:dgt ((Zba s).getD k 0)=true
   ·rw[hdg] at hts;unfold dgt at hdg;simp only[Bool.and_eq_true,decide_eq_true_eq] at hdg;generalize (Zba s).getD k 0=z at hdg⊢;(refine vC ?_ ?_<;>intro h)
    ·simp at h;omega
    refine vW hw ?_;refine ⟨k+1,⟨by omega,hts⟩,by omega,?_⟩;exact Zaz
   ·have hdg':dgt ((Zba s).getD k 0)=false:=by simpa using hdg
    have hok:=hfail hdg';have hv:ZgG s=0:=by unfold ZgG;rw[hok];rfl
    rw[hok,hv];unfold dgt at hdg';simp only[Bool.and_eq_false_iff,decide_eq_false_iff_not] at hdg';generalize (Zba s).getD k 0=z at hdg'⊢;(refine vC ?_ ?_<;>intro h)
    ·refine vR ?_;(refine vT ?_;try exact trivial)
    ·simp at h;omega
  ·have hkl:k=(Zba s).length:=by
    have:¬(k<(Zba s).length):=by simpa using h
    omega
   subst hkl;rw[List.take_length] at hr;have hok:Zbo s=true:=by unfold Zbo;rw[hb',hr];rfl
   have h10:=ZfR hok;rw[hok];refine vR ?_;(refine Zau (Zrg (by omega) (Zl6 hok)) ?_;simp only[go_sem,hP];refine vQ ?_;refine vR ?_)
   refine vR ?_;refine Zbx ?_;simp only[go_sem,hP];(repeat' (refine And.intro ?_ ?_))
   all_goals (
    refine ZsR (by kernel_rfl) rfl rfl rfl ?_;simp only[go_sem,hP];(try (refine ⟨?_,?_⟩<;>first|trivial|skip))
    all_goals (try ((refine vT ?_;try exact trivial))))
abbrev ZwV:OT:=(.br [(.cons (JSc 13 157 []) (.cons (JFm 14 5) (.cons (JF 15 (.ia 1 (.t 14) (.k (Jz 0)))) (.cons (JFl 16 15) (.cons (JS 17 (.raw (.lookup 233 (.tmp 13) (.tmp 16) true))) (.cons (JSm 12 17) (.cons (JFe 18 12 0) (.cons (JFe 19 12 1) (.cons (JE (Js 2 2 18)) (.cons (JSm 4 19) .nil)))))))))),(.cons (JFm 14 5) (.br [(.cons (JSc 13 157 []) (.cons (JF 15 (.ia 1 (.t 14) (.k (Jz 0)))) (.cons (JFl 16 15) (.cons (JS 17 (.raw (.lookup 233 (.tmp 13) (.tmp 16) true))) (.cons (JSm 12 17) (.cons (JFe 18 12 0) (.cons (JFe 19 12 1) (.cons (JE (Js 2 2 18)) (.cons (JSm 4 19) .nil))))))))),(.cons (JF 15 (.ia 1 (.t 14) (.k (Jz 0)))) (.br [(.cons (JSc 13 157 []) (.cons (JFl 16 15) (.cons (JS 17 (.raw (.lookup 233 (.tmp 13) (.tmp 16) true))) (.cons (JSm 12 17) (.cons (JFe 18 12 0) (.cons (JFe 19 12 1) (.cons (JE (Js 2 2 18)) (.cons (JSm 4 19) .nil)))))))),(.cons (JFl 16 15) (.cons (JSc 13 157 []) (.cons (JS 17 (.raw (.lookup 233 (.tmp 13) (.tmp 16) true))) (.cons (JSm 12 17) (.cons (JFe 18 12 0) (.cons (JFe 19 12 1) (.cons (JE (Js 2 2 18)) (.cons (JSm 4 19) .nil))))))))]))]))])
abbrev Zts:VC:=(.seq (.ops [JSa 36 1 32 34,JSl 37 36,JSm 7 37]) (.seq (.ops [JSm 39 7,JSc 40 158 [.t 39],JSm 38 40,JSe 41 38 0,JSe 42 38 1,JSm 8 41,JSm 9 42]) (.seq (.seq (.ops [JSm 43 9,JS 44 (.un .not (.t 43))]) (.cond (.t 44) (.seq (.ops [JSL 45 2 2,JUs 2 2 45,JS 3 (.mv (.k J0)),JSB 4 false]) .ret) .skip)) (.ops [JSm 46 3,JSm 47 8,JS 48 (.bsl 3 1 [.t 47]),JS 49 (.app 3 1 8 (.t 46) (.t 48)),JSm 3 49]))))
-- K126_1: changed and kept: [34,3]
abbrev Ztt:VC:=(.seq (.seq (.ops [JSm 20 4,JS 21 (.un .not (.t 20)),JSm 22 21,JNm 23 5 22,JNn 24 23 22,JNf 25 0 2 22,JNl 26 25 22,JNk 27 .add 26 1 22,JNb 28 .neq 24 27 22,JSo 29 22 28]) (.cond (.t 29) (.seq (.ops [JSL 30 2 2,JUs 2 2 30,JS 3 (.mv (.k J0)),JSB 4 false]) .ret) .skip)) (.seq (.seq (.ops [JSm 31 5,JS 32 (.slc 1 (.t 31) (some (.k (Jz 1))) none),JSn 33 32,JSi 34 0]) (.block 0 (.loop (.seq (.ops [JSb 35 .lss 34 33]) (.seq (.cond (.t 35) .skip (.exit 0)) (.seq (.block 1 Zts) (.ops [JSk 50 .add 34 1,JSm 34 50]))))))) (.seq (.ops [JSL 51 2 2,JSm 52 3,JUs 2 2 51,JSm 3 52,JSB 4 true]) .ret)))
def Zvg:FC:=⟨1,53,[.cell 2 false 2,.t 3,.t 4],(.seq (.ops [JS 2 (.alloc [Jz 0,(.c (.raw .nilIface))]),JS 3 (.mv (.k J0)),JSB 4 false]) (.seq (.ops [JSm 10 0,JSc 11 156 [.t 10,(.k (.c (.str [32])))],JSm 5 11]) (.seq (.drw ZwV) Ztt)))⟩
theorem ZAE:Zao Tryz.prog [13] 126=some Zvg:=by kernel_rfl
structure Wd where
 many:Int
 t:Nat
 f:Nat
 cap:Option Nat
def Wd.caps (e:Wd) (q:Nat→Nat):List Value:=match e.cap with|none=>[]|some i=>[Zd6 (q i) 0]
def Wd.v (e:Wd) (q:Nat→Nat):Value:=.iface e.t (fnV e.f (e.caps q))
def Zi0:List (List UInt8×Wd):=[
 ([99,111,105,110],⟨1,206,176,none⟩),
 ([109,97,114,107],⟨1,206,178,none⟩),
 ([115,108,117,103],⟨1,206,179,none⟩),
 ([112,114,101,115,115],⟨2,206,180,none⟩),
 ([108,111,115,101],⟨1,206,181,none⟩),
 ([115,107,105,112,115],⟨1,206,182,none⟩),
 ([101,109,112,116,121],⟨0,206,183,none⟩),
 ([115,116,97,110,100],⟨0,204,184,none⟩),
 ([103,105,118,101,115],⟨1,204,185,none⟩),
 ([99,104,101,97,112,101,115,116],⟨1,204,186,none⟩),
 ([119,97,105,116],⟨1,204,187,none⟩),
 ([108,111,110,103,101,115,116],⟨0,204,217,some 0⟩),
 ([101,110,100],⟨0,204,217,some 1⟩),
 ([97,116],⟨1,204,189,none⟩),
 ([108,97,116,101,115,116],⟨2,204,190,none⟩),
 ([115,111,111,110,101,115,116],⟨0,204,217,some 2⟩),
 ([99,97,115,104],⟨0,204,192,none⟩),
 ([99,97,110],⟨0,204,219,some 3⟩),
 ([109,105,115,115,105,110,103],⟨0,204,220,some 4⟩),
 ([119,104,105,99,104],⟨0,204,219,some 5⟩),
 ([115,107,105,112,112,101,100],⟨0,204,220,some 6⟩),
 ([115,104,111,114,116],⟨0,204,220,some 7⟩)]
def ZbX (k:List UInt8):Option Wd:=(Zi0.find? fun p=>p.1==k).map (·.2)
theorem Zoe (q:Nat→Nat):Zt7 q=Zi0.map fun p=>(p.1,.agg #[.int .i64 p.2.many,p.2.v q]):=rfl
theorem ZiO (g:Wd→Value) (k:List UInt8):∀l:List (List UInt8×Wd),Zd8 (l.map fun p=>(p.1,g p.2)) k=((l.find? fun p=>p.1==k).map (·.2)).map g
 |[]=>rfl
 |p::l=>by
  have ih:=ZiO g k l;unfold Zd8 at ih⊢;simp only[List.map_cons,List.find?_cons];cases h:(p.1==k) with
  |true=>rfl
  |false=>exact ih
theorem ZnV (q:Nat→Nat) (k:List UInt8):Zd8 (Zt7 q) k=(ZbX k).map fun e=> .agg #[.int .i64 e.many,e.v q]:=by
 rw[Zoe];exact ZiO (fun e=> .agg #[.int .i64 e.many,e.v q]) k Zi0
def wM (k:List UInt8):Int:=match ZbX k with|some e=>e.many|none=>0
def wV (q:Nat→Nat) (k:List UInt8):Value:=match ZbX k with|some e=>e.v q|none=> .nilIface
theorem ZxN (q:Nat→Nat) (k:List UInt8):(wV q k).oneCell'=true:=by unfold wV;split<;>rfl
theorem ZBs (q:Nat→Nat) (k:List UInt8) (w:World) (M:Cells) (loc:Nat→Value):RepA w M loc (.agg [iv (wM k),.c (.raw (wV q k))]) ((Zd8 (Zt7 q) k).getD (.agg #[.int .i64 0,.nilIface])):=by
 have h1:=ZxN q k;rw[ZnV];simp only[RepA,RepAs,RepC];refine ⟨[.int .i64 (wM k),wV q k],?_,_,_,rfl,rfl,_,_,rfl,⟨rfl,h1⟩,rfl⟩;unfold wM wV;cases ZbX k<;>rfl
def ZBq (q:Nat→Nat):List Ob:=[vbox (fnV 26 []) (q 0),vbox (fnV 27 []) (q 1),vbox (fnV 191 []) (q 2),vbox (fnV 31 []) (q 3),vbox (fnV 32 []) (q 4),vbox (fnV 33 []) (q 5),vbox (fnV 34 []) (q 6),vbox (fnV 35 []) (q 7)]
theorem Zp0 (q:Nat→Nat):∀p∈Zt7 q,p.1.length≤maxLen:=by
 intro p hp;rw[Zoe] at hp;obtain ⟨x,hx,rfl⟩:=List.mem_map.1 hp;have h:(Zi0.all fun p=>decide (p.1.length≤100))=true:=rfl;have:=of_decide_eq_true (List.all_eq_true.1 h x hx);exact Nat.le_trans this (by decide)
theorem ZgR (sep:List UInt8):∀(k:Nat) (s w:List UInt8),w∈Lib.splitK sep 0 k s→w.length≤s.length
 |0,s,w,h=>by simp only[Lib.splitK,List.mem_singleton] at h;rw[h];exact Nat.le_refl _
 |k+1,s,w,h=>by
  unfold Lib.splitK at h;split at h
  ·simp only[List.mem_singleton] at h;rw[h];exact Nat.le_refl _
  ·rcases List.mem_cons.1 h with h|h
   ·rw[h,List.length_take];omega
   ·have:=ZgR sep k _ w h;rw[List.length_drop] at this;omega
theorem Zg8 {s w:List UInt8} (h:w∈ZeG s):w.length≤s.length:=ZgR _ _ _ _ h
theorem ZjY (s:List UInt8):∃w args,ZeG s=w::args:=by
 unfold ZeG Lib.split;cases Lib.count s [32] with
 |zero=>exact ⟨_,_,rfl⟩
 |succ k=>
  unfold Lib.splitK;split
  ·exact ⟨_,_,rfl⟩
  ·exact ⟨_,_,rfl⟩
theorem Zy9 (w:List UInt8):0≤wM w∧wM w≤2:=by
 unfold wM ZbX;cases h:Zi0.find? fun p=>p.1==w with
 |none=>simp
 |some p=>
  have h2:(Zi0.all fun p=>decide (0≤p.2.many)&&decide (p.2.many≤2))=true:=rfl;have:=List.all_eq_true.1 h2 p (List.mem_of_find?_eq_some h);simpa using this
def Zoj (q:Nat→Nat) (o:Nat→Ob):Nat→Ob:=upd (upd (upd (upd (upd (upd (upd (upd o 101 (vbox (fnV 26 []) (q 0))) 102 (vbox (fnV 27 []) (q 1))) 103 (vbox (fnV 191 []) (q 2))) 104 (vbox (fnV 31 []) (q 3))) 105 (vbox (fnV 32 []) (q 4))) 106 (vbox (fnV 33 []) (q 5))) 107 (vbox (fnV 34 []) (q 6))) 108 (vbox (fnV 35 []) (q 7))
theorem ZhD {l:List (List UInt8)} {k:Nat} {d:List CD} (h:k<l.length):(l.map fun x=>[CD.str x]).getD k d=[CD.str (l.getD k [])]:=by
 rw[List.getD_eq_getElem?_getD,List.getElem?_map,List.getElem?_eq_getElem h,List.getD_eq_getElem?_getD,List.getElem?_eq_getElem h];rfl
def Za4 (s:List UInt8):Option (List UInt8×List Int):=match ZeG s with
 |[]=>none
 |w::args=>match ZbX w with
  |none=>none
  |some e=>if (args.length:Int)=e.many∧args.all Zbo=true then some (w,args.map ZgG) else none
def ZbJ (s:List UInt8) (r:AV) (os:List Ob):Prop:=match Za4 s with
 |some (w,ns)=>∃(q:Nat→Nat) (e:Wd),ZbX w=some e∧r= .tup [.agg [iv e.many,.c (.raw (e.v q))],.c (Zaj ns),.c (.bool true)]∧os=ZBq q
 |none=>∃(m:Int) (v:Value),r= .tup [.agg [iv m,.c (.raw v)],.c (.raw (.slice none 0 0)),.c (.bool false)]∧os=[]
theorem Zds {s w:List UInt8} {args:List (List UInt8)} (hc:ZeG s=w::args) (h:ZbX w=none∨(args.length:Int)≠wM w∨args.all Zbo=false):Za4 s=none:=by
 unfold Za4;rw[hc];simp only;unfold wM at h;cases hw:ZbX w with
 |none=>rfl
 |some e=>
  rw[hw] at h;simp only at h⊢;rw[if_neg];rintro ⟨h1,h2⟩;rcases h with h|h|h
  ·cases h
  ·exact h h1
  ·rw[h2] at h;cases h
set_option maxRecDepth 100000 in
theorem parse53 {s:List UInt8} (hs:s.length≤1000):Za3 Tryz.prog 126 [.c (.str s)] (ZbJ s):=by
 obtain ⟨w,args,hc⟩:=ZjY s;have hm:maxLen=9223372036854775807:=rfl;have hwl:w.length≤maxLen:=by have:=Zg8 (s:=s) (w:=w) (by rw[hc];exact List.mem_cons_self ..);omega
 have hsp:=Zs3 (s:=s) (by omega);rw[hc] at hsp;refine ZaK ZAE (Nat.le_refl _) (by decide) fun C hP hN hC hL=> ?_;rw[Zad]
 simp only[Zvg];refine vR ?_;(refine Zau (hsp) ?_;simp only[go_sem,hP,ZaY];refine vQ ?_;(repeat (refine vV ?_;(try simp only[go_sem,hP,ZaY]);refine vQ ?_)))
 refine Zdx (fun σ'=>∃q:Nat→Nat,Sub σ' ⟨upd (upd (upd (upd e0 2 (.bp 2 0)) 3 (.c (.raw (.slice none 0 0)))) 4 (.c (.bool (ZbX w).isSome))) 5 (.c (ZaY (w::args))),upd (Zoj q o0) 2 (.box [iv (wM w),.c (.raw (wV q w))])⟩) ?_ ?_
 ·refine Zbx ?_;simp only[go_sem,hP];(repeat' (refine And.intro ?_ ?_))
  all_goals (first|exact Int.le_refl 0|exact Nat.one_pos|exact Int.natCast_pos.2 (Nat.succ_pos _)|skip)
  all_goals (
   refine ZaR words67 rfl rfl rfl rfl ?_;rintro r os ⟨b,q,rfl,rfl⟩;refine ⟨[100,101,102,103,104,105,106,107,108],_,_,by simp,rfl,rfl,rfl,rfl,?_⟩;simp only[go_sem,hP,Zab];(repeat' (refine And.intro ?_ ?_))
   all_goals (first|exact Int.le_refl 0|exact Nat.one_pos|exact Int.natCast_pos.2 (Nat.succ_pos _)|skip)
   refine ZpG (n:=100) (k:=9) (e:=200) (key:=w) (l:=Zt7 q) (z:=.agg #[.int .i64 0,.nilIface]) (vr:=.agg [iv (wM w),.c (.raw (wV q w))]) (by kernel_rfl) (by kernel_rfl) (by kernel_rfl) rfl rfl rfl rfl rfl rfl rfl hwl (Zp0 q) (ZBs q w) ?_;rw[ZnV,Option.isSome_map];simp only[go_sem,hP];refine ⟨q,Zai ?_ ?_⟩
   ·unfold ZaY;simp only[go_sem];exact Zam
   ·unfold Zoj;simp only[go_sem];exact Zaa)
 ·rintro σ' ⟨q,hsub⟩;refine ZaL hsub ?_;unfold Zoj;have hM:=Zy9 w;have hw1:=w64 (n:=wM w+1) (by omega) (by omega);(repeat (refine vV ?_;(try simp only[go_sem,hP,ZaY,List.length_map,hw1]);refine vQ ?_))
  refine ZaL (σ':=⟨upd (upd (upd (upd e0 2 (.bp 2 0)) 3 (.c (.raw (.slice none 0 0)))) 5 (.c (ZaY (w::args)))) 29 (.c (.bool (!(ZbX w).isSome||(((args.length+1:Nat):Int) !=wM w+1)))),upd (Zoj q o0) 2 (.box [iv (wM w),.c (.raw (wV q w))])⟩) (Zai (by unfold ZaY;simp only[go_sem];exact Zam) (by unfold Zoj;simp only[go_sem];exact Zaa)) ?_;by_cases hbad:ZbX w=none∨(args.length:Int)≠wM w
  ·have hpn:Za4 s=none:=Zds hc (hbad.imp id .inl);have hv:(!(ZbX w).isSome||(((args.length+1:Nat):Int) !=wM w+1))=true:=by
    rcases hbad with h|h
    ·rw[h];rfl
    ·simp only[Bool.or_eq_true,bne_iff_ne,ne_eq];right;omega
   rw[hv];(refine vC ?_ ?_<;>intro h)
   ·refine vR ?_;(refine Zak ?_;simp only[Zaq,inQ,Zbe,ZaP,Zae,ZaI];simp only[go_sem,ZaH])
    refine ⟨[],_,_,_,by simp,by simp,rfl,AVle.refl _,rfl,?_⟩;unfold ZbJ;rw[hpn];exact ⟨_,_,rfl,rfl⟩
   ·cases h
  ·obtain ⟨hn1,hn2⟩:=not_or.1 hbad;have hn2:(args.length:Int)=wM w:=by omega
   obtain ⟨e,he⟩:=Option.ne_none_iff_exists'.1 hn1;have hv:(!(ZbX w).isSome||(((args.length+1:Nat):Int) !=wM w+1))=false:=by
    rw[he,←hn2];simp
   rw[hv];(refine vC ?_ ?_<;>intro h)
   ·cases h
   ·(repeat (refine vV ?_;(try simp only[go_sem,hP,ZaY,List.length_map,List.map_cons]);refine vQ ?_))
    have hdr:List.drop (Int.toNat 1) (List.take (((args.length+1:Nat):Int)).toNat ([CD.str w]::args.map fun x=>[CD.str x]))=args.map fun x=>[CD.str x]:=by
     rw[Int.toNat_natCast,List.take_succ_cons,show Int.toNat 1=1 from rfl,List.drop_succ_cons,List.drop_zero,List.take_of_length_le (by simp)]
    rw[hdr,List.length_map];refine ZaL (σ':=⟨upd (upd (upd (upd (upd e0 2 (.bp 2 0)) 3 (.c (.raw (.slice none 0 0)))) 32 (.c (ZaY args))) 33 (iv args.length)) 34 (iv 0),upd (Zoj q o0) 2 (.box [iv (wM w),.c (.raw (wV q w))])⟩) (Zai (by unfold ZaY;simp only[go_sem];exact Zam) (by simp only[go_sem];exact Zaa)) ?_;refine Zby 3 49 3 1 (by decide) (by decide) rfl rfl ?_;unfold Zoj;simp only[go_sem];refine ZaQ (fun k:Nat=>⟨upd (upd (upd (upd (upd e0 2 (.bp 2 0)) 32 (.c (ZaY args))) 33 (iv args.length)) 34 (iv k)) 3 (.gr 49),upd (upd (Zoj q o0) 2 (.box [iv (wM w),.c (.raw (wV q w))])) 49 (.grow 3 1 (((args.take k).map ZgG).map fun n=>[CD.int .i64 n]))⟩) (fun k=>k≤args.length∧(args.take k).all Zbo=true) (fun k=>args.length -k) 0 ⟨Nat.zero_le _,rfl⟩ ?_ ?_
    ·refine Zai (by simp only[go_sem];exact Zam) (by unfold Zoj;simp only[List.take_zero,List.map_nil];simp only[go_sem];exact Zaa)
    rintro k ⟨hk,hr⟩;unfold Zoj;refine vR ?_;(refine vC ?_ ?_<;>intro h)
    ·have hi:k<args.length:=by simpa using h
     have hwk:=w64 (n:=(k:Int)+1) (by omega) (by omega);have hg:=ZhD (l:=args) (k:=k) (d:=[]) hi;have hxm:args.getD k []∈args:=by rw[List.getD_eq_getElem?_getD,List.getElem?_eq_getElem hi];exact List.getElem_mem hi
     have hxl:(args.getD k []).length≤1000:=by have:=Zg8 (s:=s) (w:=args.getD k []) (by rw[hc];exact List.mem_cons_of_mem _ hxm);omega
     have htk:args.take (k+1)=args.take k++[args.getD k []]:=by rw[List.take_succ_eq_append_getElem hi,List.getD_eq_getElem?_getD,List.getElem?_eq_getElem hi];rfl
     have htl:(args.take k).length=k:=by rw[List.length_take];omega
     generalize args.getD k []=x at hg hxm hxl htk;(repeat (refine vV ?_;(try simp only[go_sem,hP,ZaY,hg,List.length_map,Int.toNat_natCast]);refine vQ ?_))
     (refine Zau (Zpo hxl) ?_;simp only[go_sem,hP,hwk,htl,List.length_map];refine vQ ?_;(repeat (refine vV ?_;(try simp only[go_sem,hP,hwk,htl,List.length_map]);refine vQ ?_)))
     by_cases hok:Zbo x=true
     ·(refine vC ?_ ?_<;>intro h)
      ·rw[hok] at h;cases h
      ·(repeat (refine vV ?_;(try simp only[go_sem,hP,hwk,htl,List.length_map]);refine vQ ?_))
       refine ⟨k+1,⟨by omega,by rw[htk,List.all_append,hr];simp[hok]⟩,by omega,?_⟩;rw[htk,List.map_append,List.map_append];refine Zai (by simp only[go_sem];exact Zam) (by simp only[go_sem];exact Zaa)
     ·have hok:Zbo x=false:=by simpa using hok
      have hall:args.all Zbo=false:=by
       cases hx:args.all Zbo with
       |false=>rfl
       |true=>have:=List.all_eq_true.1 hx x hxm;rw[hok] at this;cases this
      have hpn:Za4 s=none:=Zds hc (.inr (.inr hall));(refine vC ?_ ?_<;>intro h)
      ·refine vR ?_;(refine Zak ?_;simp only[Zaq,inQ,Zbe,ZaP,Zae,ZaI];simp only[go_sem,ZaH])
       refine ⟨[],_,_,_,by simp,by simp,rfl,AVle.refl _,rfl,?_⟩;unfold ZbJ;rw[hpn];exact ⟨_,_,rfl,rfl⟩
      ·rw[hok] at h;simp at h
    ·have hkl:k=args.length:=by
      have:¬(k<args.length):=by simpa using h
      omega
     subst hkl;rw[List.take_length] at hr;have hps:Za4 s=some (w,args.map ZgG):=by
      unfold Za4;rw[hc];simp only;rw[he];simp only;rw[if_pos ⟨by rw[hn2];unfold wM;rw[he],hr⟩]
     (repeat (refine vV ?_;(try simp only[go_sem,hP,List.take_length]);refine vQ ?_))
     (refine Zak ?_;simp only[Zaq,inQ,Zbe,ZaP,Zae,ZaI];simp only[go_sem,ZaH,List.take_length])
     refine ⟨[101,102,103,104,105,106,107,108],_,_,_,by simp,by simp,rfl,AVle.refl _,rfl,?_⟩;unfold ZbJ;rw[hps];refine ⟨q,e,he,?_,rfl⟩;have hm1:wM w=e.many:=by unfold wM;rw[he]
     have hv1:wV q w=e.v q:=by unfold wV;rw[he]
     rw[hm1,hv1];rfl
end Go.Proofs.YtcggfogkfhlmlaaGreatDoor
namespace Go.Proofs.YtcggfogkfhlmlaaGreatDoor
open Go Go.V Go.RowKit Go.Shelf
variable {tb:Obj}
def ZsW:Ren:=⟨fun|171=>159|243=>197|246=>224|283=>247|284=>248|285=>249|286=>250|129=>212|317=>264|318=>265|319=>266|320=>267|337=>272|338=>273|n=>n,
 fun|171=>300|53=>272|37=>100|173=>302|212=>316|51=>270|213=>317|46=>245|232=>328|233=>329|n=>n,
 fun|17=>3|18=>6|19=>7|n=>n⟩
def ZnH:Ren:=⟨fun|156=>160|165=>198|166=>199|169=>200|240=>225|241=>226|276=>251|277=>252|n=>n,
 fun|31=>35|72=>260|76=>256|70=>258|37=>100|75=>255|127=>281|164=>304|80=>261|n=>n,
 fun x=>x⟩
theorem ZmO:LaysM.n171 Tryz.prog ZsW:=by
 constructor<;>first|kernel_rfl|(intro w;kernel_rfl)|(constructor<;>first|kernel_rfl|(intro w;kernel_rfl))
theorem Zjv:Lays.n156 Tryz.prog ZnH:=by
 constructor<;>first|kernel_rfl|(intro w;kernel_rfl)
def ZBp (tb:Obj) (rem:List Ent) (L:List Nat) (_:Nat→Nat→Prop) (w:World):Prop:=
 rem=[]∧L=[3]∧w.heap[3]? =some tb∧∃ty fr,tb= .cells (Lib.pow10Tab.map (Value.int .u64)).toArray ty fr
def ZAf (tb:Obj):Gst:=⟨.bool false,ZBp tb⟩
def tabO (tb:Obj):Ob:=.guest (ZAf tb) []
theorem Zta (P:Program) (tb:Obj):(ZAf tb).Ok P:=by
 refine ⟨rfl,?_,?_⟩
 ·rintro rem L M w M' w' ⟨h1,h2,h3⟩ hk hb hs;exact ⟨h1,h2,by rw[hb 3 (by rw[h2];simp)];exact h3⟩
 ·rintro args wins r rem L M w loc vs ⟨h1,_⟩;cases h1
attribute [go_sem] tabO
theorem ZvQ {n:Int} (h0:-9223372036854775808≤n) (h1:n≤9223372036854775807):ZaE Tryz.prog 159 [iv n] [(tabO tb)] [] (fun r l'=>r= .c (.str (Lib.itoa n))∧l'=[(tabO tb)]):=by
 refine Zfg (Zcg ZmO.f171 (by kernel_rfl) (by kernel_rfl)) (Nat.le_of_ble_eq_true rfl) fun w M loc vs hLO hrep=> ?_
 have h2:ObOk Tryz.prog (fun _=>True) w (AddM M _ loc) loc (loc 1000) (tabO tb):=hLO.objs 1000;obtain ⟨_,L,_,⟨_,_,hb,ty,fr,rfl⟩,_⟩:=h2;simp only[RepAs,RepA,RepC] at hrep;obtain ⟨_,_,rfl,rfl,rfl⟩:=hrep;have htab:Lib.TabIs Tryz.prog w "internal/strconv.uint64pow10" .u64 Lib.pow10Tab:=by
  unfold Lib.TabIs World.var?;rw [show Tryz.prog.globalNamed "internal/strconv.uint64pow10" = some 3 by kernel_rfl];simp[hb]
 refine (show Calls Tryz.prog 159 _ w _ from Any.strconv_Itoa ZmO n h0 h1 w htab).mono ?_;rintro e w' ⟨rfl,k,os,rfl⟩;exact ⟨_,_,rfl,rfl,Lib.below_grow _ _ (Nat.le_refl _) _ _,fun M' _=>by simp only[RepA,RepC]⟩
end Go.Proofs.YtcggfogkfhlmlaaGreatDoor
namespace Go.Proofs.YtcggfogkfhlmlaaGreatDoor
open Go Go.V Go.RowKit Go.Shelf
theorem Zz9:Builder.Extra Tryz.prog ZnH:=by
 constructor<;>first|kernel_rfl|(intro w;kernel_rfl)|decide|(constructor<;>first|kernel_rfl|(intro w;kernel_rfl))
theorem ZeO {w:World} {M:Cells} {loc:Nat→Value}:∀(l:List (List UInt8)) (vs:List Value),RepAs w M loc (l.map fun s=> .c (.str s)) vs→vs=l.map sv
 |[],vs,h=>by simpa [RepAs] using h
 |s::l,vs,h=>by
  simp only[List.map_cons,RepAs,RepA,RepC] at h;obtain ⟨v,vs',rfl,rfl,h⟩:=h;rw[ZeO l vs' h];rfl
theorem ZvR {xs:List (List UInt8)} (hN:xs.length≤1000000) (hlen:(Lib.join xs [32]).length≤140737488355328):FSpec Tryz.prog 160 [.c (ZaY xs),.c (.str [32])] (.c (.str (Lib.join xs [32]))):=by
 refine ⟨Zcg Zjv.f156 (by kernel_rfl) (by kernel_rfl),fun w M vs hM hr=> ?_⟩;simp only[RepAs,RepA,RepC,ZaY] at hr;obtain ⟨_,_,rfl,⟨A,cap,rfl,hcap,hmax,hA⟩,_,_,rfl,rfl,rfl⟩:=hr;rw[List.length_map] at hcap⊢;cases hx:xs with
 |nil=>
  refine (show Calls Tryz.prog 160 _ w _ from Any.strings_Join_none Zjv Zz9 A cap ⟨#[32]⟩ w).mono ?_;rintro e w' ⟨rfl,rfl⟩;exact ⟨_,rfl,by simp only[RepA,RepC];rfl,Below.refl _ _⟩
 |cons x0 r=>
  rw[←hx];rcases hA with h|⟨ad,rfl,hE⟩
  ·rw[hx] at h;cases h
  obtain ⟨l,k1,k2,k3,k4⟩:=RepE.vals (loc:=fun _=>undef) _ _ hE;rw[ZfD] at k3;have hl:=ZeO _ _ k3;subst hl;have h0:=k2 0 (sv x0) (by rw[hx];rfl);have hsp:ad.spot=none:=by
   unfold World.cell? at h0;split at h0
   ·split at h0
    ·cases h0
    ·rename_i h;cases hs:(ad.add 0).spot with
     |none=>exact hs
     |some q=>rw[hs] at h;exact absurd rfl h
   ·cases h0
  obtain ⟨bk,o,sp⟩:=ad;simp only at hsp;subst hsp;have hm:(xs.map fun s=>(⟨s.toArray⟩:ByteArray)).map (·.data.toList)=xs:=by
   rw[List.map_map];exact (List.map_congr_left fun s _=>rfl).trans (List.map_id xs)
  have c:=Any.strings_Join Zjv Zz9 bk o cap (xs.map fun s => (⟨s.toArray⟩ : ByteArray)) ⟨#[32]⟩ w (fun j x hj => by
   rw[List.getElem?_map] at hj;cases hxj:xs[j]? with
   |none=>rw[hxj] at hj;cases hj
   |some s=>
    rw[hxj] at hj;simp only[Option.map_some,Option.some.injEq] at hj;subst hj;have:=k2 j (sv s) (by rw[List.getElem?_map,hxj];rfl);rw[Zgq] at this;exact this) (Zbg (p:=⟨bk,o,none⟩) (by rw[show w.cell? ⟨bk,o,none⟩=some (sv x0) from h0];rfl)) (by rw[List.length_map];omega) (by rw[List.length_map];exact hcap) (by rw[hm];exact hlen)
  rw[hm,List.length_map] at c;refine (show Calls Tryz.prog 160 _ w _ from c).mono ?_;rintro e w' ⟨rfl,hb⟩;exact ⟨_,rfl,by simp only[RepA,RepC],hb⟩
end Go.Proofs.YtcggfogkfhlmlaaGreatDoor
namespace Go.Proofs.YtcggfogkfhlmlaaGreatDoor
open Go Go.V Go.RowKit
variable {tb:Obj}
abbrev Ztu:VC:=(.seq (.ops [JSm 9 1,JSk 10 .eql 9 3,JSm 11 10,JNm 12 1 11,JNk 13 .eql 12 0 11,JNm 14 13 11,JTm 15 0 14,JTn 16 15 14,JTk 17 .eql 16 0 14,JNp 18 14 17 11,JSo 19 11 18,JSm 8 19]) (.cond (.t 8) (.seq (.ops [JS 4 (.mv (.k (.c (.str [110,111,110,101]))))]) .ret) (.seq (.ops [JSm 21 1,JSk 22 .neq 21 0,JSm 20 22]) (.cond (.t 20) (.seq (.ops [JS 4 (.mv (.k (.c (.str [110,111]))))]) .ret) .skip))))
-- K127_1: changed and kept: [25,5]
abbrev Ztv:VC:=(.seq (.seq (.ops [JSm 23 0,JSn 24 23,JSi 25 0]) (.block 1 (.loop (.seq (.ops [JSb 26 .lss 25 24]) (.seq (.cond (.t 26) .skip (.exit 1)) (.seq (.block 2 (.seq (.ops [JSa 27 1 23 25,JSl 28 27,JSm 7 28]) (.ops [JSm 29 5,JSm 30 7,JSc 31 159 [.t 30],JS 32 (.bsl 9 1 [.t 31]),JS 33 (.app 9 1 16 (.t 29) (.t 32)),JSm 5 33]))) (.ops [JSk 34 .add 25 1,JSm 25 34]))))))) (.seq (.ops [JSm 35 5,JSc 36 160 [.t 35,(.k (.c (.str [32])))],JSm 4 36]) .ret))
def Zvh:FC:=⟨2,37,[.t 4],(.seq (.ops [JS 4 (.mv (.k (.c (.str []))))]) (.seq (.block 0 Ztu) (.seq (.ops [JS 5 (.mv (.k J0))]) Ztv)))⟩
theorem ZAF:Zao Tryz.prog [] 127=some Zvh:=by kernel_rfl
attribute [local go_sem] Nat.reduceEqDiff Nat.reduceAdd Nat.reduceMul reduceIte Nat.reduceLeDiff Nat.reduceLT Nat.reduceBEq reduceCtorEq
def ZhF:List UInt8:=[121,101,115]
def noS:List UInt8:=[110,111]
def ZvZ:List UInt8:=[110,111,110,101]
def ZtX:List UInt8:=[119,104,97,116]
def Zi9 (l:List Int) (e:Int):List UInt8:=if e=3∨(e=0∧l=[]) then ZvZ else if e≠0 then noS else Lib.join (l.map Lib.itoa) [32]
def i64 (n:Int):Prop:=-9223372036854775808≤n∧n≤9223372036854775807
theorem Zld:∀(l:List Int),(∀n∈l,i64 n)→(Lib.join (l.map Lib.itoa) [32]).length≤22*l.length
 |[],_=>by simp[Lib.join_nil]
 |n::l,h=>by
  rw[List.map_cons,Lib.join_length];have hl:∀l:List Int,(∀n∈l,i64 n)→Lib.lens (l.map Lib.itoa)≤21*l.length:=by
   intro l h;induction l with
   |nil=>simp[Lib.lens]
   |cons n l ih=>
    have h1:=Lib.itoa_length_le n (h n (by simp)).1 (h n (by simp)).2;have h2:=ih fun m hm=>h m (by simp[hm])
    simp only[Lib.lens,List.map_cons,List.sum_cons,List.length_cons] at h2⊢;omega
  have:=hl (n::l) h;simp only[List.map_cons,List.length_cons,List.length_nil,List.length_map] at this⊢;omega
theorem ZjR {l:List Int} (hl:l.length≤10000) (hr:∀n∈l,i64 n) (e:Int):ZaE Tryz.prog 127 [.c (Zaj l),iv e] [(tabO tb)] [] (fun r l'=>r= .c (.str (Zi9 l e))∧l'=[(tabO tb)]):=by
 have hm:maxLen=9223372036854775807:=rfl;refine Zat ZAF (by first|simp|exact Nat.le_of_ble_eq_true rfl) (Nat.le_refl _) (by decide) (by decide) fun C hP hN hC hL=> ?_;rw[Zap,Zaw (by first|simp|exact Nat.le_of_ble_eq_true rfl)];simp only[Zvh,Zco,Za1,List.map_nil,List.map_cons,Nat.reduceAdd,]
 refine vR0 ?_;refine ZaL (σ':=⟨upd (upd (upd (upd e0 0 (.c (Zaj l))) 1 (iv e)) 4 (.c (.str []))) 8 (.c (.bool (e==3||e==0&&(l.length:Int)==0))),upd o0 1000 (tabO tb)⟩) (Zai (by unfold Zaj;simp only[go_sem];exact Zam) (by simp only[go_sem];exact Zaa)) ?_;by_cases h1:e=3∨(e=0∧l=[])
 ·have ha:Zi9 l e=ZvZ:=if_pos h1;have hv:(e==3||e==0&&(l.length:Int)==0)=true:=by
   rcases h1 with h|⟨h,h'⟩
   ·rw[h];rfl
   ·rw[h,h'];rfl
  rw[ha,hv];(refine vC ?_ ?_<;>intro h)
  ·refine vR ?_;(refine Zak ?_;simp only[Zaq,inQ,ZaB,Zar,Zae,ZaI];simp only[go_sem,ZaH,AV.keepP,AV.keepPL];refine ⟨_,[(tabO tb)],rfl,Zag rfl rfl ?_ ?_ rfl,?_⟩)
   ·simp only[go_sem,Zal,Ob.keepP,AV.keepP,AV.keepPL]
   ·trivial
   ·exact ⟨rfl,rfl⟩
  ·cases h
 ·have hv:(e==3||e==0&&(l.length:Int)==0)=false:=by
   cases hx:(e==3||e==0&&(l.length:Int)==0) with
   |false=>rfl
   |true=>simp at hx;exact absurd hx h1
  rw[hv];(refine vC ?_ ?_<;>intro h)
  ·cases h
  ·refine vR ?_;by_cases h2:e=0
   ·have ha:Zi9 l e=Lib.join (l.map Lib.itoa) [32]:=by unfold Zi9;rw[if_neg h1,if_neg (by simpa using h2)]
    rw[ha];(refine vC ?_ ?_<;>intro h)
    ·rw[h2] at h;simp at h
    ·refine vR0 ?_;refine Zby 5 33 9 1 (by decide) (by decide) rfl rfl ?_;simp only[go_sem];refine ZaQ (fun k:Nat=>⟨upd (upd (upd (upd (upd e0 4 (.c (.str []))) 23 (.c (Zaj l))) 24 (iv l.length)) 25 (iv k)) 5 (.gr 33),upd (upd o0 1000 (tabO tb)) 33 (.grow 9 1 (((l.take k).map Lib.itoa).map fun x=>[CD.str x]))⟩) (fun k=>k≤l.length) (fun k=>l.length -k) 0 (Nat.zero_le _) ?_ ?_
     ·refine Zai (by unfold Zaj;simp only[go_sem];exact Zam) (by simp only[List.take_zero,List.map_nil];simp only[go_sem];exact Zaa)
     intro k hk;refine vR0 ?_;(refine vC ?_ ?_<;>intro h)
     ·have hi:k<l.length:=by simpa using h
      have hwk:=w64 (n:=(k:Int)+1) (by omega) (by omega);have hg:=ZaD (l:=l) (i:=k) hi;have htk:l.take (k+1)=l.take k++[l.getD k 0]:=by rw[List.take_succ_eq_append_getElem hi,List.getD_eq_getElem?_getD,List.getElem?_eq_getElem hi];rfl
      have htl:(l.take k).length=k:=by rw[List.length_take];omega
      have hxr:=hr (l.getD k 0) (by rw[List.getD_eq_getElem?_getD,List.getElem?_eq_getElem hi];exact List.getElem_mem hi);generalize l.getD k 0=x at hg hxr htk;(repeat (refine vV ?_;(try simp only[go_sem,hP,hg,List.length_map,Int.toNat_natCast]);refine vQ ?_))
      refine Zas [1000] (ZvQ hxr.1 hxr.2) rfl rfl rfl (by decide) rfl rfl ?_;rintro r l' ⟨rfl,rfl⟩;refine ⟨_,_,rfl,rfl,?_⟩;simp only[go_sem,hP,Zab,htl,List.length_map];refine vQ ?_;(repeat (refine vV ?_;(try simp only[go_sem,hP,hwk,htl,List.length_map]);refine vQ ?_))
      refine ⟨k+1,by omega,by omega,?_⟩;rw[htk,List.map_append,List.map_append];refine Zai (by simp only[go_sem];exact Zam) (by simp only[go_sem];exact Zaa)
     ·have hkl:k=l.length:=by
       have:¬(k<l.length):=by simpa using h
       omega
      subst hkl;have hb:=Zld l hr;refine vR ?_;rw[List.take_length];(refine Zau (ZvR (xs:=l.map Lib.itoa) (by rw[List.length_map];omega) (by omega)) ?_;simp only[go_sem,hP];refine vQ ?_;refine vR ?_)
      refine vR ?_;(refine Zak ?_;simp only[Zaq,inQ,ZaB,Zar,Zae,ZaI];simp only[go_sem,ZaH,AV.keepP,AV.keepPL];refine ⟨_,[(tabO tb)],rfl,Zag rfl rfl ?_ ?_ rfl,?_⟩)
      ·simp only[go_sem,Zal,Ob.keepP,AV.keepP,AV.keepPL]
      ·trivial
      ·exact ⟨rfl,rfl⟩
   ·have ha:Zi9 l e=noS:=by unfold Zi9;rw[if_neg h1,if_pos h2]
    rw[ha];(refine vC ?_ ?_<;>intro h)
    ·refine vR ?_;(refine Zak ?_;simp only[Zaq,inQ,ZaB,Zar,Zae,ZaI];simp only[go_sem,ZaH,AV.keepP,AV.keepPL];refine ⟨_,[(tabO tb)],rfl,Zag rfl rfl ?_ ?_ rfl,?_⟩)
     ·simp only[go_sem,Zal,Ob.keepP,AV.keepP,AV.keepPL]
     ·trivial
     ·exact ⟨rfl,rfl⟩
    ·simp at h;exact absurd h h2
abbrev ZyD:List Ins:=[JSf 4 0 1,JSL 5 3 4,JSc 6 100 [.t 5],JSk 7 .neq 6 0,JSm 8 7,JNf 9 0 1 8,JNL 10 3 9 8,JNf 11 3 1 8,JNl 12 11 8,JNc 13 101 [.t 10,.t 12] 8,JG 14 (.un .not (.t 13)) 8 false,JSo 15 8 14,JSm 16 15,JNf 17 0 1 16,JNL 18 3 17 16,JNf 19 5 1 16,JNl 20 19 16,JNc 21 101 [.t 18,.t 20] 16,JG 22 (.un .not (.t 21)) 16 false,JSo 23 16 22,JSm 24 23,JNf 25 4 1 24,JNl 26 25 24,JNn 27 26 24,JNf 28 3 1 24,JNl 29 28 24,JNn 30 29 24,JNb 31 .neq 27 30 24,JSo 32 24 31,JSm 33 32,JNf 34 6 1 33,JNl 35 34 33,JNc 36 102 [.t 35,(.k (Jz 0)),(.k (Jz 9999))] 33,JG 37 (.un .not (.t 36)) 33 false,JSo 38 33 37,JSm 39 38,JNf 40 7 1 39,JNl 41 40 39,JNc 42 102 [.t 41,(.k (Jz 0)),(.k (Jz 9))] 39,JG 43 (.un .not (.t 42)) 39 false,JSo 44 39 43]
abbrev Zxp:VC:=(.seq (.seq (.ops [JSm 45 3,JSf 46 3 1,JSl 47 46,JSn 48 47,JSb 49 .lss 45 48]) (.cond (.t 49) .skip (.exit 0))) (.seq (.block 1 (.seq (.dops [JFf 52 4 1,JFl 53 52,JFm 54 3,JFa 55 1 53 54,JFl 56 55,JFf 57 3 1,JFl 58 57,JFm 59 3,JFa 60 1 58 59,JFl 61 60,JSc 62 102 [.t 56,(.k (Jz 0)),.t 61],JS 63 (.un .not (.t 62))]) (.cond (.t 63) (.seq (.ops [JSi 2 50]) .ret) .skip))) (.ops [JSm 50 3,JSk 51 .add 50 1,JSm 3 51])))
-- Zue: changed and kept: [3]
abbrev Zue:List Nat:=[1]
abbrev Zxq:VC:=(.seq (.seq (.ops ZyD) (.cond (.t 44) (.seq (.ops [JSi 2 50]) .ret) .skip)) (.seq (.seq (.ops [JSi 3 0]) (.block 0 (.loop Zxp))) (.seq (.seq (.dops [JFf 64 0 1,JFL 65 3 64,JFf 66 3 1,JFl 67 66,JFf 68 5 1,JFl 69 68,JFc 70 103 [.t 67,.t 69],JSc 71 101 [.t 65,.t 70],JS 72 (.un .not (.t 71))]) (.cond (.t 72) (.seq (.ops [JSi 2 50]) .ret) .skip)) (.seq (.ops [JSi 2 0]) .ret))))
def ZzG:FC:=⟨1,73,[.t 2],(.seq (.ops [JS 1 (.box 8 (.t 0)),JSi 2 0]) Zxq)⟩
theorem c55:Zao Tryz.prog [] 55=some ZzG:=by kernel_rfl
def Zkm (b:Bx):Nat→Bool
 |0=>true
 |k+1=>Zkm b k&&Zah (b.ma.getD k 0) 0 (b.fo.getD k 0)
theorem ZgB {b:Bx}:∀{k m:Nat},Zkm b k=false→k≤m→Zkm b m=false
 |k,0,h,hm=>by rwa [show k=0 by omega] at h
 |k,m+1,h,hm=>by
  rcases Nat.lt_or_ge m k with h1|h1
  ·rwa [show k=m+1 by omega] at h
  ·simp only[Zkm,ZgB h h1,Bool.false_and]
def Zdw (b:Bx):Bool:=whB b.wh&&Zf0 b.wh b.fo&&Zf0 b.wh b.sl&&(b.ma.length==b.fo.length)&&Zah b.pl 0 9999&&Zah b.sk 0 9&&Zkm b b.fo.length&&Zf0 b.wh (ZbC b)
def Zog (b:Bx):Int:=if Zdw b then 0 else 50
theorem ZwH {b:Bx} (h:Zdw b=true):bxB b=true:=by
 simp only[Zdw,Zf0,Bool.and_eq_true,beq_iff_eq,decide_eq_true_eq] at h;obtain ⟨⟨⟨⟨⟨⟨⟨h1,h2,h2s⟩,h3,h3s⟩,h4⟩,h5⟩,h6⟩,h7⟩,h8,h8s⟩:=h;have k2:=ZaX h2;have k3:=ZaX h3;have hm:∀k,Zkm b k=true→∀i,i<k→0≤b.ma.getD i 0∧b.ma.getD i 0≤b.fo.getD i 0:=by
  intro k;induction k with
  |zero=>intro _ i hi;omega
  |succ k ih=>
   intro h i hi;simp only[Zkm,Bool.and_eq_true,Zah,decide_eq_true_eq] at h;rcases Nat.lt_or_ge i k with h9|h9
   ·exact ih h.1 i h9
   ·obtain rfl:i=k:=by omega
    exact h.2
 have hml:ZfO b.wh b.ma=true:=by
  unfold ZfO;have e1:(b.ma.length==b.wh.co.length)=true:=by rw[beq_iff_eq,h4,k2.1]
  have e2:b.ma.any Zf1=false:=by
   rw[List.any_eq_false];intro n hn;obtain ⟨i,hi,rfl⟩:=List.mem_iff_getElem.1 hn;have:=hm _ h7 i (by omega);have h9:=ZaZ k2.2 (k:=i) (by omega);rw[Zbi hi] at this;simp[Zf1,Zah];omega
  rw[e1,e2];rfl
 have hmk:∀k,k≤b.fo.length→mkK b.fo b.ma k=true:=by
  intro k;induction k with
  |zero=>intro _;rfl
  |succ k ih=>
   intro hk;simp only[mkK,ih (by omega),Bool.true_and,decide_eq_true_eq];exact (hm _ h7 k (by omega)).2
 have hsum:∀k,k≤b.fo.length→sumK b.fo b.sl k=((ZbC b).take k).sum:=by
  intro k;induction k with
  |zero=>intro _;simp[sumK]
  |succ k ih=>
   intro hk;have hp:k<(ZbC b).length:=by simp[ZbC,ZeD];omega
   rw[List.take_succ_eq_append_getElem hp,List.sum_append,sumK,ih (by omega)];simp only[ZbC,ZeD,List.getElem_zipWith,Zbi (l:=b.fo) (k:=k) (by omega),Zbi (l:=b.sl) (k:=k) (by omega)];simp
 have hpl:(ZbC b).length=b.fo.length:=by simp[ZbC,ZeD];omega
 have hs:=hsum b.fo.length (Nat.le_refl _);rw[List.take_of_length_le (by omega)] at hs;unfold bxB;rw[h1,h5,h6,h2,hml,h3,hmk _ (Nat.le_refl _),hs,decide_eq_true h8s];rfl
set_option maxHeartbeats 16000000 in
set_option maxRecDepth 20000 in
theorem check8 (b:Bx):FSpec Tryz.prog 55 [b.av] (iv (Zog b)):=by
 refine Zac c55 (Nat.le_refl _) (by decide) fun C hP hN hC hL=> ?_;rw[Zad]
 simp only[ZzG,Bx.av,Bx.avs];have hbad:Zdw b=false→Zog b=50:=fun h=>by unfold Zog;rw[h];rfl
 have hb0:((0:Int) !=0)=false:=rfl;have hne:((b.ma.length:Int) !=(b.fo.length:Int))= !(b.ma.length==b.fo.length):=Zx9 _ _;(repeat (refine vV ?_;(try simp only[go_sem,hP,Bx.avs,Zaj,List.length_map]);refine vQ ?_))
 (refine Zau (Zrs b.wh) ?_;simp only[go_sem,hP,Wh.av,Wh.avs,Zaj,List.length_map,hne];refine vQ ?_;(repeat (refine vV ?_;(try simp only[go_sem,hP,Wh.av,Wh.avs,Zaj,List.length_map,hne]);refine vQ ?_)))
 by_cases h1:whB b.wh=true;case neg=>
  have h1:whB b.wh=false:=by simpa using h1
  have e0:whE b.wh=10:=by unfold whE;rw[h1];rfl
  rw[hbad (by unfold Zdw;rw[h1];rfl),e0];have hb1:((10:Int) !=0)=true:=rfl;simp only[go_sem,hb1];(refine ZaC ?_;simp only[go_sem,hP,List.length_map,hne];refine vQ ?_;refine vR1 ?_)
  (refine ZaC ?_;simp only[go_sem,hP,List.length_map,hne];refine vQ ?_;refine vR1 ?_)
  (refine ZaC ?_;simp only[go_sem,hP,List.length_map,hne];refine vQ ?_;refine vR1 ?_)
  (refine ZaC ?_;simp only[go_sem,hP,List.length_map,hne];refine vQ ?_;refine vR1 ?_)
  (refine vC ?_ ?_<;>intro h)
  ·refine vR ?_;(refine vT ?_;try exact trivial)
  ·simp at h
 have e0:whE b.wh=0:=by unfold whE;rw[if_pos h1]
 have hw:=ZeQ h1;rw[e0];simp only[go_sem,hb0];(refine Za9 (fun hG=>Zhr hw b.fo) ?_;simp only[go_sem,hP,Wh.av,Wh.avs,Zaj,hb0,List.length_map,hne];refine vQ ?_;(repeat (refine vV ?_;(try simp only[go_sem,hP,Wh.av,Wh.avs,Zaj,hb0,List.length_map,hne]);refine vQ ?_)))
 by_cases h2:Zf0 b.wh b.fo=true;case neg=>
  have h2:Zf0 b.wh b.fo=false:=by simpa using h2
  rw[hbad (by unfold Zdw;rw[h2];simp)];simp only[go_sem,h2];(refine ZaC ?_;simp only[go_sem,hP,List.length_map,hne];refine vQ ?_;refine vR1 ?_)
  (refine ZaC ?_;simp only[go_sem,hP,List.length_map,hne];refine vQ ?_;refine vR1 ?_)
  (refine ZaC ?_;simp only[go_sem,hP,List.length_map,hne];refine vQ ?_;refine vR1 ?_)
  (refine vC ?_ ?_<;>intro h)
  ·refine vR ?_;(refine vT ?_;try exact trivial)
  ·simp at h
 simp only[go_sem,h2];(refine Za9 (fun hG=>Zhr hw b.sl) ?_;simp only[go_sem,hP,Wh.av,Wh.avs,Zaj,hb0,h2,List.length_map,hne];refine vQ ?_;(repeat (refine vV ?_;(try simp only[go_sem,hP,Wh.av,Wh.avs,Zaj,hb0,h2,List.length_map,hne]);refine vQ ?_)))
 by_cases h3:Zf0 b.wh b.sl=true;case neg=>
  have h3:Zf0 b.wh b.sl=false:=by simpa using h3
  rw[hbad (by unfold Zdw;rw[h3];simp)];simp only[go_sem,h3];(refine ZaC ?_;simp only[go_sem,hP,List.length_map,hne];refine vQ ?_;refine vR1 ?_)
  (refine ZaC ?_;simp only[go_sem,hP,List.length_map,hne];refine vQ ?_;refine vR1 ?_)
  (refine vC ?_ ?_<;>intro h)
  ·refine vR ?_;(refine vT ?_;try exact trivial)
  ·simp at h
 by_cases h4:b.ma.length=b.fo.length;case neg=>
  have hb4:(b.ma.length==b.fo.length)=false:=by simpa using h4
  rw[hbad (by unfold Zdw;rw[hb4];simp)];simp only[go_sem,h3,hb4];(refine ZaC ?_;simp only[go_sem,hP,List.length_map,hne];refine vQ ?_;refine vR1 ?_)
  (refine ZaC ?_;simp only[go_sem,hP,List.length_map,hne];refine vQ ?_;refine vR1 ?_)
  (refine vC ?_ ?_<;>intro h)
  ·refine vR ?_;(refine vT ?_;try exact trivial)
  ·simp at h
 have hb4:(b.ma.length==b.fo.length)=true:=by simpa using h4
 simp only[go_sem,h3,hb4];(refine Za9 (fun hG=>ZhE b.pl 0 9999) ?_;simp only[go_sem,hP,Zaj,hb0,h3,hb4,List.length_map,hne];refine vQ ?_;(repeat (refine vV ?_;(try simp only[go_sem,hP,Zaj,hb0,h3,hb4,List.length_map,hne]);refine vQ ?_)))
 by_cases h5:Zah b.pl 0 9999=true;case neg=>
  have h5:Zah b.pl 0 9999=false:=by simpa using h5
  rw[hbad (by unfold Zdw;rw[h5];simp)];simp only[go_sem,h5];(refine ZaC ?_;simp only[go_sem,hP,List.length_map,hne];refine vQ ?_;refine vR1 ?_)
  (refine vC ?_ ?_<;>intro h)
  ·refine vR ?_;(refine vT ?_;try exact trivial)
  ·simp at h
 simp only[go_sem,h5];(refine Za9 (fun hG=>ZhE b.sk 0 9) ?_;simp only[go_sem,hP,Zaj,hb0,h5,List.length_map,hne];refine vQ ?_;(repeat (refine vV ?_;(try simp only[go_sem,hP,Zaj,hb0,h5,List.length_map,hne]);refine vQ ?_)))
 by_cases h6:Zah b.sk 0 9=true;case neg=>
  have h6:Zah b.sk 0 9=false:=by simpa using h6
  rw[hbad (by unfold Zdw;rw[h6];simp)];(refine vC ?_ ?_<;>intro h)
  ·refine vR ?_;(refine vT ?_;try exact trivial)
  ·simp[h6] at h
 (refine vC ?_ ?_<;>intro h)
 ·simp[h6] at h
 clear h;have hfl:b.fo.length=b.wh.co.length:=by
  simp only[Zf0,Bool.and_eq_true] at h2;exact (ZaX h2.1).1
 have hcl:=hw.cl;have hmb:Zkm b b.fo.length=false→Zog b=50:=fun h=>hbad (by unfold Zdw;rw[h];simp)
 have hrest:Zkm b b.fo.length=true→Zog b=if Zf0 b.wh (ZbC b) then 0 else 50:=fun h=>by
  have:Zdw b=Zf0 b.wh (ZbC b):=by unfold Zdw;rw[h1,h2,h3,hb4,h5,h6,h];rfl
  unfold Zog;rw[this]
 refine vR0 ?_;refine Zax Zue [] (fun k:Nat=>k≤b.fo.length∧Zkm b k=true) (fun k=>b.fo.length -k) (fun k=>[(3,iv k)]) (fun _=>[]) 0 ⟨by omega,rfl⟩ ?_ ?_
 ·exact Zaz
 ·rintro k ⟨hk,hr⟩;refine vR0 ?_;(refine vC ?_ ?_<;>intro h)
  ·have hi:k<b.fo.length:=by simpa using h
   have hi2:k<b.ma.length:=by omega
   have gf:=ZaD hi;have gm:=ZaD hi2;have w1:=w64 (n:=(k:Int)+1) (by omega) (by omega);have hs:Zkm b (k+1)=Zah (b.ma.getD k 0) 0 (b.fo.getD k 0):=by simp only[Zkm,hr,Bool.true_and]
   generalize b.fo.getD k 0=x at*;generalize b.ma.getD k 0=y at*;(repeat (refine vV ?_;(try simp only[go_sem,hP,gf,gm,Zaj,List.length_map,Int.toNat_natCast,Int.ofNat_lt,hi,hi2,Int.natCast_nonneg]);refine vQ ?_))
   (refine Zau (ZhE y 0 x) ?_;simp only[go_sem,hP,Zaj];refine vQ ?_;refine vR2 ?_)
   by_cases hx:Zah y 0 x=true
   ·(refine vC ?_ ?_<;>intro h)
    ·simp[hx] at h
    refine vW w1 ?_;refine ⟨k+1,⟨by omega,by rw[hs];exact hx⟩,by omega,?_⟩;(refine Zai (by simp only[go_sem];exact vEi) (by simp only[go_sem];exact Zaa))
   ·have hx:Zah y 0 x=false:=by simpa using hx
    rw[hmb (ZgB (k:=k+1) (by rw[hs];exact hx) (by omega))];(refine vC ?_ ?_<;>intro h)
    ·refine vR ?_;(refine vT ?_;try exact trivial)
    ·simp[hx] at h
  ·have hi:k=b.fo.length:=by simp at h;omega
   subst hi;have hfo:∀n∈b.fo,0≤n∧n≤12:=by
    simp only[Zf0,Bool.and_eq_true] at h2;exact (ZaX h2.1).2
   have hslo:b.sl.length=b.wh.co.length∧∀n∈b.sl,0≤n∧n≤12:=by
    simp only[Zf0,Bool.and_eq_true] at h3;exact ZaX h3.1
   clear h hk;by_cases h9:Zf0 b.wh (ZbC b)=true
   ·have e1:Zog b=0:=by rw[hrest hr,if_pos h9]
    rw[e1];refine vR0 ?_;(refine Za0 (Zqt (by omega) (by omega) hfo hslo.2) rfl rfl rfl rfl rfl ?_;simp only[go_sem,hP,Zaj];refine vQ ?_;refine vR2 ?_)
    (refine Zau (Zhr hw (ZbC b)) ?_;simp only[go_sem,hP,Wh.av,Wh.avs,Zaj,ZbC];refine vQ ?_;(repeat (refine vV ?_;(try simp only[go_sem,hP,Wh.av,Wh.avs,Zaj,ZbC]);refine vQ ?_)))
    simp only[ZbC] at h9;(refine vC ?_ ?_<;>intro h)
    ·simp[h9] at h
    ·refine vR ?_;(refine vT ?_;try exact trivial)
   ·have e1:Zog b=50:=by rw[hrest hr,if_neg h9]
    have h9:Zf0 b.wh (ZbC b)=false:=by simpa using h9
    rw[e1];refine vR0 ?_;(refine Za0 (Zqt (by omega) (by omega) hfo hslo.2) rfl rfl rfl rfl rfl ?_;simp only[go_sem,hP,Zaj];refine vQ ?_;refine vR2 ?_)
    (refine Zau (Zhr hw (ZbC b)) ?_;simp only[go_sem,hP,Wh.av,Wh.avs,Zaj,ZbC];refine vQ ?_;(repeat (refine vV ?_;(try simp only[go_sem,hP,Wh.av,Wh.avs,Zaj,ZbC]);refine vQ ?_)))
    simp only[ZbC] at h9;(refine vC ?_ ?_<;>intro h)
    ·refine vR ?_;(refine vT ?_;try exact trivial)
    ·simp[h9] at h
structure Pt where
 pl:Int
 cr:Int
 a:Int
 b:Int
 c:Int
 d:Int
 bo:Int
 deriving DecidableEq
def Pt.l (p:Pt):List Int:=[p.pl,p.cr,p.a,p.b,p.c,p.d,p.bo]
theorem Pt.inj {p q:Pt} (h:p.l=q.l):p=q:=by
 cases p;cases q;simp only[Pt.l,List.cons.injEq,and_true] at h;simp only[Pt.mk.injEq];exact h
theorem Znu:KLaw Tryz.prog 187 (fun v=>∃l,keyOf Tryz.prog 187 v=some l):=KLaw.wide (deep_law_gate (by kernel_rfl) (Nat.le_of_ble_eq_true (by kernel_rfl)) (Nat.le_of_ble_eq_true (by kernel_rfl)) (by kernel_rfl) (by kernel_rfl))
theorem ZBt {n:Int} (h:i64 n):(Lit.int .i64 n).wf=true:=by
 simp only[Lit.wf,Bool.and_eq_true,decide_eq_true_eq];exact h
set_option maxRecDepth 100000 in
theorem ptKey {p:Pt} (h1:i64 p.pl) (h2:i64 p.cr) (h3:i64 p.a) (h4:i64 p.b) (h5:i64 p.c) (h6:i64 p.d) (h7:i64 p.bo):∃l,keyOf Tryz.prog 187 (Za2 true p.l)=some l:=by
 have u3:Tryz.prog.underlying 3=some (.int .i64):=by kernel_rfl
 have u100:Tryz.prog.underlying 185=some (.array 4 3):=by kernel_rfl
 have u111:Tryz.prog.underlying 28=some (.struct (Tryz.prog.fieldsOf 28)):=by kernel_rfl
 have u113:Tryz.prog.underlying 187=some (.struct (Tryz.prog.fieldsOf 187)):=by kernel_rfl
 have c3:Tryz.prog.cellsOf 3=1:=by kernel_rfl
 have ZxP:Tryz.prog.cellsOf 185=4:=by kernel_rfl
 have ZxQ:Tryz.prog.cellsOf 28=2:=by kernel_rfl
 have ZxZ:Tryz.prog.cellsOf 187=7:=by kernel_rfl
 have k3:∀(n:Nat) (x:Int),i64 x→Tryz.prog.keyLits (n+1) 3 [.int .i64 x]=some [.int .i64 x]:=fun n x h=>by
  simp[Program.keyLits,u3,ZBt h]
 have k100:∀(n:Nat),Tryz.prog.keyLits (n+2) 185 [.int .i64 p.a,.int .i64 p.b,.int .i64 p.c,.int .i64 p.d]=some [.int .i64 p.a,.int .i64 p.b,.int .i64 p.c,.int .i64 p.d]:=fun n=>by
  have hr:List.range 4=[0,1,2,3]:=rfl;have e:Tryz.prog.keyLits (n+2) 185 [.int .i64 p.a,.int .i64 p.b,.int .i64 p.c,.int .i64 p.d]=if [Value.int .i64 p.a,.int .i64 p.b,.int .i64 p.c,.int .i64 p.d].length=Tryz.prog.cellsOf 185 then ((List.range 4).mapM fun i=>Tryz.prog.keyLits (n+1) 3 (([Value.int .i64 p.a,.int .i64 p.b,.int .i64 p.c,.int .i64 p.d].drop (i*Tryz.prog.cellsOf 3)).take (Tryz.prog.cellsOf 3))).map List.flatten else none:=by
   conv=>lhs;unfold Program.keyLits
   simp only[u100]
  rw[e,ZxP,c3,if_pos (by rfl),hr];simp[k3 n _ h3,k3 n _ h4,k3 n _ h5,k3 n _ h6]
 have k111:∀(n:Nat),Tryz.prog.keyLits (n+2) 28 [.int .i64 p.pl,.int .i64 p.cr]=some [.int .i64 p.pl,.int .i64 p.cr]:=fun n=>by
  have hf:((Tryz.prog.fieldsOf 28).toList.map fun f=>(f.type,f.offset))=[(3,0),(3,1)]:=by kernel_rfl
  have hb:(Tryz.prog.fieldsOf 28).all (·.name != "_") = true:=by kernel_rfl
  have e:Tryz.prog.keyLits (n+2) 28 [.int .i64 p.pl,.int .i64 p.cr]=(((Tryz.prog.fieldsOf 28).toList.map fun f=>(f.type,f.offset)).mapM fun q=>Tryz.prog.keyLits (n+1) q.1 (([Value.int .i64 p.pl,.int .i64 p.cr].drop q.2).take (Tryz.prog.cellsOf q.1))).map List.flatten:=by
   conv=>lhs;unfold Program.keyLits
   simp only[u111];rw[if_pos ⟨by rw[ZxQ];rfl,hb⟩,List.mapM_map];rfl
  rw[e,hf];simp[c3,k3 n _ h1,k3 n _ h2]
 have k113:∀(n:Nat),Tryz.prog.keyLits (n+3) 187 [.int .i64 p.pl,.int .i64 p.cr,.int .i64 p.a,.int .i64 p.b,.int .i64 p.c,.int .i64 p.d,.int .i64 p.bo]=some [.int .i64 p.pl,.int .i64 p.cr,.int .i64 p.a,.int .i64 p.b,.int .i64 p.c,.int .i64 p.d,.int .i64 p.bo]:=fun n=>by
  have hf:((Tryz.prog.fieldsOf 187).toList.map fun f=>(f.type,f.offset))=[(28,0),(185,2),(3,6)]:=by kernel_rfl
  have hb:(Tryz.prog.fieldsOf 187).all (·.name != "_") = true:=by kernel_rfl
  have e:Tryz.prog.keyLits (n+3) 187 [.int .i64 p.pl,.int .i64 p.cr,.int .i64 p.a,.int .i64 p.b,.int .i64 p.c,.int .i64 p.d,.int .i64 p.bo]=(((Tryz.prog.fieldsOf 187).toList.map fun f=>(f.type,f.offset)).mapM fun q=>Tryz.prog.keyLits (n+2) q.1 (([Value.int .i64 p.pl,.int .i64 p.cr,.int .i64 p.a,.int .i64 p.b,.int .i64 p.c,.int .i64 p.d,.int .i64 p.bo].drop q.2).take (Tryz.prog.cellsOf q.1))).map List.flatten:=by
   conv=>lhs;unfold Program.keyLits
   simp only[u113];rw[if_pos ⟨by rw[ZxZ];rfl,hb⟩,List.mapM_map];rfl
  rw[e,hf];simp[c3,ZxP,ZxQ,k3 (n+1) _ h7,k100 n,k111 n]
 have ht:Tryz.prog.keyType 187=true:=by kernel_rfl
 have hsz:3≤Tryz.prog.types.size+1:=Nat.le_of_ble_eq_true (by kernel_rfl);obtain ⟨n,hn⟩:∃n,Tryz.prog.types.size+1=n+3:=⟨Tryz.prog.types.size+1 -3,by omega⟩;have hk:=k113 n;rw[←hn] at hk;have hfo:(Za2 true p.l).formed Tryz.prog 187=true:=by
  simp only[Za2,if_true,Value.formed,u113,ZxZ];rfl
 have key:keyOf Tryz.prog 187 (Za2 true p.l)=((Tryz.prog.keyLits (Tryz.prog.types.size+1) 187 (Za2 true p.l).cells.toList).map fun ls=>Lit.string (keyBytes ls)):=by
  unfold keyOf;rw[u113];simp only[ht,hfo,Bool.and_self,if_true]
 have hc:(Za2 true p.l).cells.toList=[.int .i64 p.pl,.int .i64 p.cr,.int .i64 p.a,.int .i64 p.b,.int .i64 p.c,.int .i64 p.d,.int .i64 p.bo]:=rfl;rw[hc,hk] at key;exact ⟨_,key⟩
-- K152_1: changed and kept: [7,3]
abbrev ZtC:VC:=(.seq (.ops [JSi 3 0]) (.seq (.seq (.ops [JSL 6 4 1,JSi 7 0]) (.block 0 (.loop (.seq (.ops [JSk 8 .lss 7 4]) (.seq (.cond (.t 8) .skip (.exit 0)) (.seq (.block 1 (.seq (.ops [JS 9 (.raw (.index 185 (.tmp 6) (.tmp 7))),JSm 5 9]) (.ops [JSm 10 3,JSm 11 5,JSb 12 .add 10 11,JSm 3 12]))) (.ops [JSk 13 .add 7 1,JSm 7 13]))))))) (.seq (.ops [JSm 14 3,JSm 2 14]) .ret)))
def Zvt:FC:=⟨1,15,[.t 2],(.seq (.ops [JS 1 (.box 4 (.t 0)),JSi 2 0]) ZtC)⟩
abbrev Zw9:VC:=(.seq (.ops [JSm 28 9,JS 29 (.un .not (.t 28))]) (.cond (.t 29) (.seq (.ops [JSl 30 3,JSL 31 7 7,JSm 32 0,JSL 33 7 4,JS 34 (.bld [Jz 0,Jz 0,Jz 0,Jz 0,Jz 0,Jz 0,Jz 0,Jz 0] [(0,1,(.t 32)),(1,7,(.t 33))]),JN (.raw (.mapUpdate 189 (.tmp 30) (.tmp 31) (.tmp 34)))]) (.ops [JSl 35 5,JSL 36 7 7,JS 37 (.bsl 187 7 [.t 36]),JS 38 (.app 187 7 56 (.t 35) (.t 37)),JUs 1 5 38])) .skip))
abbrev ZtB:VC:=(.seq (.dops [JFf 10 0 7,JFf 11 1 10,JFl 12 11,JFL 13 4 2,JFc 14 152 [.t 13],JFf 15 2 7,JFL 16 4 15,JFc 17 152 [.t 16],JFb 18 .sub 14 17,JS 19 (.mm false (.t 12) (.t 18)),JSf 20 0 7,JSf 21 1 20,JUs 1 21 19]) (.seq (.ops [JSl 23 3,JSL 24 7 7,JS 25 (.raw (.lookup 189 (.tmp 23) (.tmp 24) true)),JSm 22 25,JSe 26 22 0,JSe 27 22 1,JS 8 (.alloc [Jz 0,Jz 0,Jz 0,Jz 0,Jz 0,Jz 0,Jz 0,Jz 0]),JUs 8 8 26,JSm 9 27]) Zw9))
def Zvs:FC:=⟨6,39,[],(.seq (.ops [JS 7 (.box 7 (.t 1))]) ZtB)⟩
theorem ZAR:Zao Tryz.prog [] 152=some Zvt:=by kernel_rfl
theorem ZAQ:Zao Tryz.prog [] 151=some Zvs:=by kernel_rfl
structure Bag where
 a:Int
 b:Int
 c:Int
 d:Int
 deriving DecidableEq
def Bag.l (x:Bag):List Int:=[x.a,x.b,x.c,x.d]
def Bag.many (x:Bag):Int:=x.a+x.b+x.c+x.d
structure BagOk (x:Bag):Prop where
 a:0≤x.a∧x.a≤14
 b:0≤x.b∧x.b≤14
 c:0≤x.c∧x.c≤14
 d:0≤x.d∧x.d≤14
 m:x.a+x.b+x.c+x.d≤14
def Pt.bag (p:Pt):Bag:=⟨p.a,p.b,p.c,p.d⟩
theorem ZqI {x:Bag} (hx:BagOk x):FSpec Tryz.prog 152 [.agg (ZaU x.l)] (iv x.many):=by
 obtain ⟨h1,h2,h3,h4,h5⟩:=hx;refine Zac ZAR (Nat.le_refl _) (by decide) fun C hP hN hC hL=> ?_;rw[Zad]
 simp only[Zvt,ZaU,Bag.l,List.map_cons,List.map_nil];refine vR ?_;refine Zax [6] [] (fun k:Nat=>k≤4) (fun k=>4 -k) (fun k=>[(7,iv k),(3,iv ((x.l.take k).sum))]) (fun _=>[]) 0 (by omega) ?_ ?_
 ·(refine Zai (by simp only[go_sem];((repeat' (first|exact ZaW _ _|refine ZaJ ?_ ?_))<;>((try simp only[ZaT,ZbG,ZbH,Nat.reduceEqDiff,reduceIte]);first|exact AWk.refl _ _|exact AWk.int (by omega)|exact AWk.int (by rw[w64 (by omega) (by omega)];omega)|exact AWk.grow rfl|exact AWk.nil _|exact AWk.of (by simp[Bag.l])))) (by simp only[go_sem];exact Zaa))
 ·intro k hk;refine vR ?_;(refine vC ?_ ?_<;>intro h)
  ·have hi:k<4:=by simp at h;omega
   obtain ⟨v,hv⟩:∃v,x.l[k]? =some v:=⟨_,List.getElem?_eq_getElem hi⟩;have hc:[AV.c (.int .i64 x.a),.c (.int .i64 x.b),.c (.int .i64 x.c),.c (.int .i64 x.d)][((k:Int)).toNat]? =some (.c (.int .i64 v)):=by
    have:=congrArg (Option.map fun n=>AV.c (.int .i64 n)) hv;rwa [←List.getElem?_map] at this
   have hs:(x.l.take (k+1)).sum=(x.l.take k).sum+v:=by rw[List.take_add_one,hv,List.sum_append];simp
   have hb:0≤(x.l.take k).sum∧(x.l.take k).sum≤42∧0≤v∧v≤14:=by
    have:k=0∨k=1∨k=2∨k=3:=by omega
    rcases this with rfl|rfl|rfl|rfl<;>simp[Bag.l] at hv⊢<;>omega
   generalize (x.l.take k).sum=s at hs hb;have w1:=w64 (n:=(k:Int)+1) (by omega) (by omega);have w2:=w64 (n:=s+v) (by omega) (by omega);refine Zcb ?_;simp only[ZiT];refine ZaG (Zcs (ZaG ?_));(refine ZcH ?_;simp only[go_sem,hP];refine vQ ?_)
   refine ZbM (e:=3) (n:=4) (x':=.t 6) (i':=.t 7) (k:=.i64) (j:=k) (by kernel_rfl) (by kernel_rfl) (by kernel_rfl) rfl rfl rfl rfl rfl rfl (by omega) hc ?_;simp only[go_sem,hP];refine vW (vA w1 w2) ?_;refine ⟨k+1,by omega,by omega,?_⟩;rw[hs];exact Zaz
  ·have hi:k=4:=by simp at h;omega
   subst hi;refine vR ?_;(refine Zak ?_;simp only[Zaq,inQ,ZgY,ZcN,Zae,ZaI];simp only[go_sem,ZaH,AV.port,AV.portL,exists_eq_left',Bag.l,Bag.many];(first|exact AVle.of rfl|refine AVle.of ?_|skip))
   simp[Bag.l,Bag.many];omega
def trim (A:Bag) (y:Pt):Pt:={y with cr:=min y.cr (A.many -y.bag.many)}
abbrev Seen:=List (Pt×Int×Pt)
def gl (S:Seen):GL:=S.map fun e=>(e.1.l,e.2.1::e.2.2.l)
def sks (S:Seen):List Pt:=S.map (·.1)
theorem Ze3 (S:Seen) (p:Pt):Zb0 (gl S) p.l=(S.find? fun e=>e.1=p).map fun e=>e.2.1::e.2.2.l:=by
 unfold Zb0 gl;rw[List.find?_map,Option.map_map];have:((fun q:List Int×List Int=>q.1==p.l)∘fun e:Pt×Int×Pt=>(e.1.l,e.2.1::e.2.2.l))=fun e=>decide (e.1=p):=by
  funext e;simp only[Function.comp_apply];rw[Bool.eq_iff_iff];simp only[beq_iff_eq,decide_eq_true_eq];exact ⟨fun h=>Pt.inj h,fun h=>by rw[h]⟩
 rw[this];rfl
theorem Zj8 (S:Seen) (p:Pt):(Zb0 (gl S) p.l).isSome=decide (p∈sks S):=by
 rw[Ze3,Option.isSome_map,Bool.eq_iff_iff,List.find?_isSome,decide_eq_true_eq];simp only[sks,List.mem_map,decide_eq_true_eq]
theorem ZmE {S:Seen} {p:Pt} (h:p∉sks S) (act:Int) (x:Pt):Zoh (gl S) p.l (act::x.l)=gl (S++[(p,act,x)]):=by
 have h0:Zb0 (gl S) p.l=none:=by
  have:=Zj8 S p;rw[decide_eq_false h] at this;cases hg:Zb0 (gl S) p.l with
  |none=>rfl
  |some v=>rw[hg] at this;cases this
 rw[Zka h0];simp[gl]
def Ze1 (A:Bag) (act:Int) (x:Pt) (s:Seen×List Pt) (y:Pt):Seen×List Pt:=if trim A y∈sks s.1 then s else (s.1++[(trim A y,act,x)],s.2++[trim A y])
structure PtOk (R:Int) (A:Bag) (p:Pt):Prop where
 pl:0≤p.pl∧p.pl<R
 cr:0≤p.cr∧p.cr≤2000
 a:0≤p.a∧p.a≤A.a
 b:0≤p.b∧p.b≤A.b
 c:0≤p.c∧p.c≤A.c
 d:0≤p.d∧p.d≤A.d
 bo:0≤p.bo∧p.bo≤112*p.bag.many
theorem PtOk.key {R:Int} {A:Bag} (hA:BagOk A) (hR:R≤200) {p:Pt} (h:PtOk R A p):∃l,keyOf Tryz.prog 187 (Za2 true p.l)=some l:=by
 obtain ⟨a1,a2,a3,a4,a5⟩:=hA;obtain ⟨h1,h2,h3,h4,h5,h6,h7⟩:=h;simp only[Pt.bag,Bag.many] at h7;refine ptKey ⟨?_,?_⟩ ⟨?_,?_⟩ ⟨?_,?_⟩ ⟨?_,?_⟩ ⟨?_,?_⟩ ⟨?_,?_⟩ ⟨?_,?_⟩<;>omega
theorem PtOk.trim {R:Int} {A:Bag} {p:Pt} (h:PtOk R A p):PtOk R A (trim A p):=by
 obtain ⟨h1,h2,h3,h4,h5,h6,h7⟩:=h;refine ⟨h1,?_,h3,h4,h5,h6,h7⟩;show 0≤min p.cr (A.many -p.bag.many)∧min p.cr (A.many -p.bag.many)≤2000;simp only[Pt.bag,Bag.many];omega
def qls (q:List Pt):List (List Int):=q.map Pt.l
def SOk (R:Int) (A:Bag) (S:Seen):Prop:=∀e∈S,PtOk R A e.1
theorem ZsP (q:List Pt):∀y∈qls q,y.length=7:=fun y hy=>by
 obtain ⟨p,_,rfl⟩:=List.mem_map.1 hy;rfl
theorem ql1 (z:Pt):∀y∈[z.l],y.length=7:=ZsP [z]
theorem ZfH {R:Int} {A:Bag} (hA:BagOk A) (hR:R≤200) {S:Seen} (hS:SOk R A S):∀p∈gl S,∃l,keyOf Tryz.prog 187 (Za2 true p.1)=some l:=fun p hp=>by
 obtain ⟨e,he,rfl⟩:=List.mem_map.1 hp;exact (hS e he).key hA hR
set_option maxHeartbeats 8000000 in
set_option maxRecDepth 20000 in
theorem add67 {R:Int} {A:Bag} (hA:BagOk A) (hR:R≤200) (act:Int) {y:Pt} (hy:PtOk R A y) (x:Pt) {S:Seen} (hS:SOk R A S) {q:List Pt} (bm bq off cap:Nat) (h1:q.length+1≤maxLen) (h2:(q.length+1)*56≤140737488355328):
  ZaE Tryz.prog 151 [iv act,kav true y.l,.bp 1000 0,.bp 1001 0,.bp 1002 0,.bp 1003 0] [.box (ZaU A.l),.box [.c (.raw (.map (some bm)))],.box (ZaU x.l),.box [qv bq off q.length cap],gmap true true (gl S) bm,qO 187 7 (qls q) bq off cap] []
   (fun r l'=>r= .tup []∧∃bq' off' cap',l'=[.box (ZaU A.l),.box [.c (.raw (.map (some bm)))],.box (ZaU x.l),.box [qv bq' off' (Ze1 A act x (S,q) y).2.length cap'],gmap true true (gl (Ze1 A act x (S,q) y).1) bm,qO 187 7 (qls (Ze1 A act x (S,q) y).2) bq' off' cap']):=by
 refine Zat ZAQ (by first|simp|exact Nat.le_of_ble_eq_true rfl) (Nat.le_refl _) (by decide) (by decide) fun C hP hN hC hL=> ?_;rw[Zap,Zaw (by first|simp|exact Nat.le_of_ble_eq_true rfl)];simp only[Zvs,Zco,Za1,List.map_nil,List.map_cons,Nat.reduceAdd,]
 simp only[kav,if_true,Pt.l,ZaU,Bag.l,List.map_cons,List.map_nil];refine vR ?_;have hyb:BagOk y.bag:=by
  obtain ⟨a1,a2,a3,a4,a5⟩:=hA;obtain ⟨_,_,h3,h4,h5,h6,_⟩:=hy;exact ⟨⟨h3.1,by simp only[Pt.bag];omega⟩,⟨h4.1,by simp only[Pt.bag];omega⟩,⟨h5.1,by simp only[Pt.bag];omega⟩,⟨h6.1,by simp only[Pt.bag];omega⟩,by simp only[Pt.bag];omega⟩
 have w1:IntKind.i64.wrap (A.many -y.bag.many)=A.many -y.bag.many:=by
  obtain ⟨a1,a2,a3,a4,a5⟩:=hA;obtain ⟨b1,b2,b3,b4,b5⟩:=hyb;exact w64 (by simp only[Bag.many];omega) (by simp only[Bag.many];omega)
 (refine Za0 (ZqI hA) rfl rfl rfl rfl rfl ?_;simp only[go_sem,hP,w1];refine vQ ?_;refine vW w1 ?_)
 (refine Za0 (ZqI hyb) rfl rfl rfl rfl rfl ?_;simp only[go_sem,hP,w1];refine vQ ?_;refine vW w1 ?_)
 have hk:=hy.trim.key hA hR;obtain ⟨z,hz⟩:∃z,z=trim A y:=⟨_,rfl⟩;rw[←hz] at hk;refine ZiF (ka:=true) (va:=true) (n:=1004) (b:=bm) (l:=gl S) (key:=z.l) (zs:=[0,0,0,0,0,0,0,0]) (k:=187) (e:=223) (x':=.t 23) (i':=.t 24) (by kernel_rfl) Znu (by kernel_rfl) rfl rfl rfl rfl rfl (by rw[hz];rfl) rfl hk (ZfH hA hR hS) (fun p _ h=>Zdp h) ?_;rw[Zj8];obtain ⟨ys,hys,hyl⟩:∃ys:List Int,ys=(Zb0 (gl S) z.l).getD [0,0,0,0,0,0,0,0]∧ys.length=8:=by
  refine ⟨_,rfl,?_⟩;rw[Ze3];cases S.find? fun e=>decide (e.1=z)<;>rfl
 rw[←hys];obtain ⟨y0,y1,y2,y3,y4,y5,y6,y7,rfl⟩:∃y0 y1 y2 y3 y4 y5 y6 y7,ys=[y0,y1,y2,y3,y4,y5,y6,y7]:=by
  match ys,hyl with
  |[y0,y1,y2,y3,y4,y5,y6,y7],_=>exact ⟨_,_,_,_,_,_,_,_,rfl⟩
 clear hys hyl;simp only[go_sem,hP,kav,if_true];refine vR ?_;by_cases hin:z∈sks S
 ·have hd:decide (z∈sks S)=true:=decide_eq_true hin;have he:Ze1 A act x (S,q) y=(S,q):=by unfold Ze1;rw[←hz];rw[if_pos hin]
  rw[he];(refine vC ?_ ?_<;>intro h)
  ·rw[hd] at h;simp at h
  ·refine vR ?_;((try simp only[Zaq,inQ,ZaB,Zar,Zae,ZaI]);(try simp only[go_sem,ZaH,AV.keepP,AV.keepPL]);refine ⟨_,[.box (ZaU A.l),.box [.c (.raw (.map (some bm)))],.box (ZaU x.l),.box [qv bq off q.length cap],gmap true true (gl S) bm,qO 187 7 (qls q) bq off cap],rfl,Zag rfl rfl ?_ ?_ rfl,?_⟩)
   ·simp only[go_sem,Zal,Ob.keepP,AV.keepP,AV.keepPL,ZaU,Bag.l,Pt.l]
   ·trivial
   ·exact ⟨rfl,_,_,_,rfl⟩
 ·have hd:decide (z∈sks S)=false:=decide_eq_false hin;have he:Ze1 A act x (S,q) y=(S++[(z,act,x)],q++[z]):=by unfold Ze1;rw[←hz];rw[if_neg hin]
  rw[he];(refine vC ?_ ?_<;>intro h)
  ·refine vR ?_;refine Zfa (ka:=true) (va:=true) (n:=1004) (b:=bm) (l:=gl S) (key:=z.l) (val:=act::x.l) (k:=187) (e:=223) (x':=.t 30) (i':=.t 31) (v':=.t 34) (.inl rfl) (by kernel_rfl) Znu rfl rfl rfl rfl rfl rfl rfl (by rw[hz];rfl) rfl rfl hk (ZfH hA hR hS) (fun p _ h=>Zdp h) ?_;rw[ZmE hin];simp only[go_sem,hP];refine vR ?_;refine ZpI (n:=1005) (b:=bq) (off:=off) (cap:=cap) (m:=q.length) (xs:=qls q) (ys:=[z.l]) rfl rfl rfl (List.length_map ..) (by rw[hz];rfl) rfl (ql1 z) h1 h2 ?_;intro bq' off' cap';rw[show qls q++[z.l]=qls (q++[z]) by simp[qls]];simp only[go_sem,hP];((try simp only[Zaq,inQ,ZaB,Zar,Zae,ZaI]);(try simp only[go_sem,ZaH,AV.keepP,AV.keepPL]);refine ⟨_,[.box (ZaU A.l),.box [.c (.raw (.map (some bm)))],.box (ZaU x.l),.box [qv bq' off' (q.length+1) cap'],gmap true true (gl (S++[(z,act,x)])) bm,qO 187 7 (qls (q++[z])) bq' off' cap'],rfl,Zag rfl rfl ?_ ?_ rfl,?_⟩)
   ·simp only[go_sem,Zal,Ob.keepP,AV.keepP,AV.keepPL,ZaU,Bag.l,Pt.l]
   ·trivial
   ·exact ⟨rfl,_,_,_,rfl⟩
  ·rw[hd] at h;simp at h
end Go.Proofs.YtcggfogkfhlmlaaGreatDoor
/-
 The walk over all points,plain.
-/
namespace Go.Proofs.YtcggfogkfhlmlaaGreatDoor
open Go Go.V
theorem Zhn:∀(n:Nat) (l:List Nat),l.Nodup→(∀x∈l,x<n)→l.length≤n
 |0,l,_,h=>by
  cases l with
  |nil=>simp
  |cons x l=>have:=h x (by simp);omega
 |n+1,l,hn,h=>by
  have h1:=Zhn n (l.erase n) (hn.erase n) fun x hx=>by
   have h2:=h x (List.mem_of_mem_erase hx);have h3:x≠n:=fun e=>by subst e;exact (List.Nodup.not_mem_erase hn) hx
   omega
  rw[List.length_erase] at h1;split at h1<;>omega
def Pt.code (p:Pt):Nat:=(((((p.pl.toNat*15+p.cr.toNat)*15+p.a.toNat)*15+p.b.toNat)*15+p.c.toNat)*15+p.d.toNat)*1569+p.bo.toNat
def PtIn (R:Int) (A:Bag) (p:Pt):Prop:=PtOk R A p∧p.cr≤14
theorem PtIn.code_lt {R:Int} {A:Bag} (hA:BagOk A) (hR:R≤200) {p:Pt} (h:PtIn R A p):p.code<238291875000:=by
 obtain ⟨a1,a2,a3,a4,a5⟩:=hA;obtain ⟨⟨h1,h2,h3,h4,h5,h6,h7⟩,h8⟩:=h;simp only[Pt.bag,Bag.many] at h7;unfold Pt.code;have e1:p.pl.toNat*15+p.cr.toNat<3000:=by omega
 generalize p.pl.toNat*15+p.cr.toNat=u1 at e1⊢;have e2:u1*15+p.a.toNat<45000:=by omega
 generalize u1*15+p.a.toNat=u2 at e2⊢;have e3:u2*15+p.b.toNat<675000:=by omega
 generalize u2*15+p.b.toNat=u3 at e3⊢;have e4:u3*15+p.c.toNat<10125000:=by omega
 generalize u3*15+p.c.toNat=u4 at e4⊢;have e5:u4*15+p.d.toNat<151875000:=by omega
 generalize u4*15+p.d.toNat=u5 at e5⊢;omega
theorem rad {n u v a b:Nat} (ha:a<n) (hb:b<n) (h:u*n+a=v*n+b):u=v∧a=b:=by
 have h1:(u*n+a)/n=u:=by rw[Nat.add_comm,Nat.add_mul_div_right _ _ (by omega),Nat.div_eq_of_lt ha];omega
 have h2:(v*n+b)/n=v:=by rw[Nat.add_comm,Nat.add_mul_div_right _ _ (by omega),Nat.div_eq_of_lt hb];omega
 have h3:u=v:=by rw[←h1,h,h2]
 subst h3;exact ⟨rfl,by omega⟩
theorem ZoL {R:Int} {A:Bag} (hA:BagOk A) {p q:Pt} (hp:PtIn R A p) (hq:PtIn R A q) (h:p.code=q.code):p=q:=by
 obtain ⟨a1,a2,a3,a4,a5⟩:=hA;obtain ⟨⟨h1,h2,h3,h4,h5,h6,h7⟩,h8⟩:=hp;obtain ⟨⟨k1,k2,k3,k4,k5,k6,k7⟩,k8⟩:=hq;simp only[Pt.bag,Bag.many] at h7 k7;have m1:p.bo.toNat<1569∧q.bo.toNat<1569:=⟨by omega,by omega⟩;have m2:p.d.toNat<15∧q.d.toNat<15:=⟨by omega,by omega⟩;have m3:p.c.toNat<15∧q.c.toNat<15:=⟨by omega,by omega⟩;have m4:p.b.toNat<15∧q.b.toNat<15:=⟨by omega,by omega⟩;have m5:p.a.toNat<15∧q.a.toNat<15:=⟨by omega,by omega⟩;have m6:p.cr.toNat<15∧q.cr.toNat<15:=⟨by omega,by omega⟩;rw[Pt.code,Pt.code] at h;obtain ⟨c5,d1⟩:=rad m1.1 m1.2 h;obtain ⟨c4,d2⟩:=rad m2.1 m2.2 c5;obtain ⟨c3,d3⟩:=rad m3.1 m3.2 c4;obtain ⟨c2,d4⟩:=rad m4.1 m4.2 c3;obtain ⟨c1,d5⟩:=rad m5.1 m5.2 c2;obtain ⟨c0,d6⟩:=rad m6.1 m6.2 c1;have tn:∀{x y:Int},0≤x→0≤y→x.toNat=y.toNat→x=y:=fun {x y} hx hy e=>by rw[←Int.toNat_of_nonneg hx,←Int.toNat_of_nonneg hy,e]
 have e1:=tn h1.1 k1.1 c0;have e2:=tn h2.1 k2.1 d6;have e3:=tn h3.1 k3.1 d5;have e4:=tn h4.1 k4.1 d4;have e5:=tn h5.1 k5.1 d3;have e6:=tn h6.1 k6.1 d2;have e7:=tn h7.1 k7.1 d1;cases p;cases q;simp only at e1 e2 e3 e4 e5 e6 e7;subst e1 e2 e3 e4 e5 e6 e7;rfl
def Bag.at (x:Bag) (k:Nat):Int:=x.l.getD k 0
def Bag.inc (x:Bag):Nat→Bag
 |0=> {x with a:=x.a+1}
 |1=> {x with b:=x.b+1}
 |2=> {x with c:=x.c+1}
 |3=> {x with d:=x.d+1}
 |_=>x
def Pt.with (p:Pt) (pl cr:Int) (x:Bag) (bo:Int):Pt:=⟨pl,cr,x.a,x.b,x.c,x.d,bo⟩
def Zkx (x:Pt):List (Int×Pt):=if 0<x.cr∧0<x.pl then [(-1,x.with 0 (x.cr -1) x.bag x.bo)] else []
def Zg7 (w:Wh) (A:Bag) (x:Pt) (k:Nat):List (Int×Pt):=
 if x.bag.at k=A.at k then [] else [((k:Int),x.with ((x.pl+w.co.getD k 0) % w.ro) (x.cr+plays w x.pl (w.co.getD k 0)) (x.bag.inc k) (x.bo+plays w x.pl (w.co.getD k 0)))]
def Zc7 (w:Wh) (A:Bag) (x:Pt) (n:Nat):List (Int×Pt):=(List.range n).flatMap (Zg7 w A x)
def Zbd (A:Bag) (x:Pt) (l:List (Int×Pt)) (s:Seen×List Pt):Seen×List Pt:=l.foldl (fun s e=>Ze1 A e.1 x s e.2) s
def Zcv (w:Wh) (A:Bag) (x:Pt) (s:Seen×List Pt):Seen×List Pt:=Zbd A x (Zc7 w A x w.co.length) (Zbd A x (Zkx x) s)
def bfs (w:Wh) (A:Bag):Nat→Seen×List Pt→Seen
 |0,s=>s.1
 |n+1,s=>match s.2 with|[]=>s.1|x::q=>bfs w A n (Zcv w A x (s.1,q))
def p00:Pt:=⟨0,0,0,0,0,0,0⟩
def ZeA (w:Wh) (A:Bag):Seen:=bfs w A 476583750002 ([(p00,-2,p00)],[p00])
theorem Zrj (w:Wh) (A:Bag) (n:Nat) (S:Seen):bfs w A n (S,[])=S:=by cases n<;>rfl
structure SeenOk (R:Int) (A:Bag) (s:Seen×List Pt):Prop where
 inn:∀e∈s.1,PtIn R A e.1
 nd:(sks s.1).Nodup
 sub:∀x∈s.2,x∈sks s.1
 qn:s.2.Nodup
theorem SeenOk.len {R:Int} {A:Bag} (hA:BagOk A) (hR:R≤200) {s:Seen×List Pt} (h:SeenOk R A s):s.1.length≤238291875000∧s.2.length≤238291875000:=by
 have key:∀l:List Pt,l.Nodup→(∀x∈l,PtIn R A x)→l.length≤238291875000:=fun l hn hl=>by
  have h1:=Zhn 238291875000 (l.map Pt.code) ?_ ?_
  ·simpa using h1
  ·rw[List.nodup_iff_pairwise_ne] at hn⊢;rw[List.pairwise_map];exact (List.Pairwise.imp_of_mem (fun {a b} ha hb hab hc=>hab (ZoL hA (hl a ha) (hl b hb) hc)) hn)
  ·intro c hc;obtain ⟨p,hp,rfl⟩:=List.mem_map.1 hc;exact (hl p hp).code_lt hA hR
 have hin:∀x∈sks s.1,PtIn R A x:=fun x hx=>by
  obtain ⟨e,he,rfl⟩:=List.mem_map.1 hx;exact h.inn e he
 refine ⟨?_,key _ h.qn fun x hx=>hin x (h.sub x hx)⟩;have:=key (sks s.1) h.nd hin;simpa [sks] using this
theorem Ztc {R:Int} {A:Bag} (hA:BagOk A) {y:Pt} (hy:PtOk R A y):PtIn R A (trim A y):=by
 refine ⟨hy.trim,?_⟩;obtain ⟨a1,a2,a3,a4,a5⟩:=hA;obtain ⟨h1,h2,h3,h4,h5,h6,h7⟩:=hy;show min y.cr (A.many -y.bag.many)≤14;simp only[Pt.bag,Bag.many];omega
theorem Zre {R:Int} {A:Bag} (hA:BagOk A) {act:Int} {x y:Pt} {s:Seen×List Pt} (h:SeenOk R A s) (hy:PtOk R A y):SeenOk R A (Ze1 A act x s y):=by
 unfold Ze1;split
 ·exact h
 ·rename_i hn;refine ⟨fun e he=> ?_,?_,fun z hz=> ?_,?_⟩
  ·rcases List.mem_append.1 he with h1|h1
   ·exact h.inn e h1
   ·simp only[List.mem_singleton] at h1;subst h1;exact Ztc hA hy
  ·simp only[sks,List.map_append,List.map_cons,List.map_nil];rw[List.nodup_append];refine ⟨h.nd,by simp,fun a ha b hb=> ?_⟩;simp only[List.mem_singleton] at hb;subst hb;exact fun e=>hn (e▸ha)
  ·simp only[sks,List.map_append,List.mem_append,List.map_cons,List.map_nil,List.mem_singleton];rcases List.mem_append.1 hz with h1|h1
   ·exact .inl (h.sub z h1)
   ·exact .inr (by simpa using h1)
  ·rw[List.nodup_append];refine ⟨h.qn,by simp,fun a ha b hb=> ?_⟩;simp only[List.mem_singleton] at hb;subst hb;exact fun e=>hn (e▸h.sub a ha)
theorem Zov {A:Bag} {act:Int} {x y:Pt} {s:Seen×List Pt}:(Ze1 A act x s y).2.length+s.1.length=s.2.length+(Ze1 A act x s y).1.length:=by
 unfold Ze1;split<;>simp;omega
theorem Zc3 {R:Int} {A:Bag} (hA:BagOk A) {x:Pt}:∀{l:List (Int×Pt)} {s:Seen×List Pt},SeenOk R A s→(∀e∈l,PtOk R A e.2)→SeenOk R A (Zbd A x l s)∧(Zbd A x l s).2.length+s.1.length=s.2.length+(Zbd A x l s).1.length
 |[],s,h,_=>⟨h,rfl⟩
 |e::l,s,h,hl=>by
  have h1:=Zre (act:=e.1) (x:=x) hA h (hl e (by simp));have h2:=Zc3 hA (x:=x) (l:=l) h1 fun e' he'=>hl e' (by simp[he'])
  have h3:=Zov (A:=A) (act:=e.1) (x:=x) (y:=e.2) (s:=s);refine ⟨h2.1,?_⟩;have h4:=h2.2;simp only[Zbd,List.foldl_cons] at h4⊢;omega
theorem Bag.at_inc {A:Bag} (hA:BagOk A) {R:Int} {x:Pt} (hx:PtOk R A x) {k:Nat} (hk:k<4) (hne:x.bag.at k≠A.at k):x.bag.at k<A.at k:=by
 obtain ⟨h1,h2,h3,h4,h5,h6,h7⟩:=hx;have:k=0∨k=1∨k=2∨k=3:=by omega
 rcases this with rfl|rfl|rfl|rfl<;>simp only[Bag.at,Bag.l,Pt.bag,List.getD_cons_zero,List.getD_cons_succ] at hne⊢<;>omega
theorem ZjX {w:Wh} (hw:WhOk w) {A:Bag} (hA:BagOk A) {x:Pt} (hx:PtIn w.ro A x) {k:Nat} (hk:k<w.co.length):∀e∈Zg7 w A x k,PtOk w.ro A e.2:=by
 intro e he;unfold Zg7 at he;split at he
 ·cases he
 rename_i hne;simp only[List.mem_singleton] at he;subst he;have hro:=hw.ro;have hcl:=hw.cl;have hlt:=Bag.at_inc hA hx.1 (by omega) hne;have hco:1≤w.co.getD k 0∧w.co.getD k 0≤100:=ZaZ hw.co hk;have hp:=Zd5 hw (p:=x.pl) (c:=w.co.getD k 0) (by omega);generalize w.co.getD k 0=c at hco hp;obtain ⟨⟨h1,h2,h3,h4,h5,h6,h7⟩,h8⟩:=hx;have e1:=Int.emod_nonneg (x.pl+c) (b:=w.ro) (by omega);have e2:=Int.emod_lt_of_pos (x.pl+c) (b:=w.ro) (by omega);have:k=0∨k=1∨k=2∨k=3:=by omega
 simp only[Pt.bag,Bag.many] at h7;rcases this with rfl|rfl|rfl|rfl<;>simp only[Bag.at,Bag.l,Pt.bag,List.getD_cons_zero,List.getD_cons_succ] at hlt<;>
  (refine ⟨⟨e1,e2⟩,⟨?_,?_⟩,⟨?_,?_⟩,⟨?_,?_⟩,⟨?_,?_⟩,⟨?_,?_⟩,⟨?_,?_⟩⟩<;>simp only[Pt.with,Bag.inc,Pt.bag,Bag.many]<;>omega)
theorem ZnT {w:Wh} (hw:WhOk w) {A:Bag} {x:Pt} (hx:PtIn w.ro A x):∀e∈Zkx x,PtOk w.ro A e.2:=by
 intro e he;unfold Zkx at he;split at he
 ·simp only[List.mem_singleton] at he;subst he;have hro:=hw.ro;obtain ⟨⟨h1,h2,h3,h4,h5,h6,h7⟩,h8⟩:=hx;exact ⟨⟨by simp[Pt.with],by simp[Pt.with];omega⟩,⟨by simp[Pt.with];omega,by simp[Pt.with];omega⟩,h3,h4,h5,h6,h7⟩
 ·cases he
theorem Zh2 {w:Wh} (hw:WhOk w) {A:Bag} (hA:BagOk A) {x:Pt} (hx:PtIn w.ro A x) {n:Nat} (hn:n≤w.co.length):∀e∈Zc7 w A x n,PtOk w.ro A e.2:=by
 intro e he;obtain ⟨k,hk,h⟩:=List.mem_flatMap.1 he;exact ZjX hw hA hx (by have:=List.mem_range.1 hk;omega) e h
theorem SeenOk.tail {R:Int} {A:Bag} {S:Seen} {x:Pt} {q:List Pt} (h:SeenOk R A (S,x::q)):SeenOk R A (S,q):=⟨h.inn,h.nd,fun y hy=>h.sub y (by simp[hy]),(List.nodup_cons.1 h.qn).2⟩
theorem SeenOk.of_mem {R:Int} {A:Bag} {s:Seen×List Pt} (h:SeenOk R A s) {x:Pt} (hx:x∈sks s.1):PtIn R A x:=by
 obtain ⟨e,he,rfl⟩:=List.mem_map.1 hx;exact h.inn e he
theorem Zfx (w:Wh) (A:Bag) (x:Pt) (n:Nat):Zc7 w A x (n+1)=Zc7 w A x n++Zg7 w A x n:=by simp[Zc7,List.range_succ]
theorem Zgp (A:Bag) (x:Pt) (l m:List (Int×Pt)) (s:Seen×List Pt):Zbd A x (l++m) s=Zbd A x m (Zbd A x l s):=by simp[Zbd]
theorem ZdY {w:Wh} (hw:WhOk w) {A:Bag} (hA:BagOk A) {S:Seen} {x:Pt} {q:List Pt} (h:SeenOk w.ro A (S,x::q)):SeenOk w.ro A (Zcv w A x (S,q))∧(Zcv w A x (S,q)).2.length+S.length=q.length+(Zcv w A x (S,q)).1.length:=by
 have hx:=h.of_mem (h.sub x (by simp));have h1:=Zc3 hA (x:=x) h.tail (ZnT hw hx);have h2:=Zc3 hA (x:=x) h1.1 (Zh2 hw hA hx (Nat.le_refl _));refine ⟨h2.1,?_⟩;have a1:=h1.2;have a2:=h2.2;unfold Zcv;simp only at a1 a2⊢;omega
theorem Zf8 {w:Wh} (hw:WhOk w) {A:Bag} (hA:BagOk A):SeenOk w.ro A ([(p00,-2,p00)],[p00]):=by
 have hro:=hw.ro;obtain ⟨a1,a2,a3,a4,a5⟩:=hA;refine ⟨fun e he=> ?_,by simp[sks],fun x hx=>by simpa [sks] using hx,by simp⟩;simp only[List.mem_singleton] at he;subst he;exact ⟨⟨⟨by simp[p00],by simp[p00];omega⟩,⟨by simp[p00],by simp[p00]⟩,⟨by simp[p00],by simp[p00];omega⟩,⟨by simp[p00],by simp[p00];omega⟩,⟨by simp[p00],by simp[p00];omega⟩,⟨by simp[p00],by simp[p00];omega⟩,⟨by simp[p00],by simp[p00,Pt.bag,Bag.many]⟩⟩,by simp[p00]⟩
theorem Zfp {A:Bag} {x:Pt}:∀{l:List (Int×Pt)} {s:Seen×List Pt},s.1.length≤(Zbd A x l s).1.length
 |[],s=>Nat.le_refl _
 |e::l,s=>by
  have h1:=Zfp (A:=A) (x:=x) (l:=l) (s:=Ze1 A e.1 x s e.2);have h2:s.1.length≤(Ze1 A e.1 x s e.2).1.length:=by unfold Ze1;split<;>simp
  simp only[Zbd,List.foldl_cons] at h1⊢;omega
def left (s:Seen×List Pt):Nat:=2*(238291875000 -s.1.length)+s.2.length
theorem Zjw {w:Wh} (hw:WhOk w) {A:Bag} (hA:BagOk A) {S:Seen} {x:Pt} {q:List Pt} (h:SeenOk w.ro A (S,x::q)):left (Zcv w A x (S,q))<left (S,x::q):=by
 have h1:=ZdY hw hA h;have h2:=h1.1.len hA hw.ro.2;have h3:=h.len hA hw.ro.2;have h4:=h1.2;have h5:S.length≤(Zcv w A x (S,q)).1.length:=by
  unfold Zcv;have a1:=Zfp (A:=A) (x:=x) (l:=Zkx x) (s:=(S,q));have a2:=Zfp (A:=A) (x:=x) (l:=Zc7 w A x w.co.length) (s:=Zbd A x (Zkx x) (S,q));exact Nat.le_trans a1 a2
 simp only[left,List.length_cons] at*;omega
end Go.Proofs.YtcggfogkfhlmlaaGreatDoor
namespace Go.Proofs.YtcggfogkfhlmlaaGreatDoor
open Go Go.V
abbrev Zv9:List Ins:=[JS 17 (.raw (.makeMap 189 none)),JS 18 (.bld [Jz 0,Jz 0,Jz 0,Jz 0,Jz 0,Jz 0,Jz 0] []),JS 19 (.bld [Jz 0,Jz 0,Jz 0,Jz 0,Jz 0,Jz 0,Jz 0,Jz 0] [(0,1,(.k (Jz (-2))))]),JN (.raw (.insert 189 (.tmp 17) (.tmp 18) (.tmp 19))),JSm 20 17,JS 5 (.alloc [(.c (.raw (.map none)))]),JUs 1 5 20]
abbrev ZwT:OT:=(.cons (JFm 43 0) (.cons (JF 44 (.nilc (.t 43))) (.cons (JFf 45 0 44) (.cons (JFf 46 0 45) (.cons (JFL 47 3 46) (.cons (JFf 48 0 7) (.cons (JFf 49 0 48) (.cons (JFl 50 49) (.cons (JF 51 (.bld [Jz 0,Jz 0] [(0,1,(.t 50)),(1,1,(.k (Jz 1)))])) (.br [(.cons (JF 52 (.bsl 3 1 [(.k (Jz (-1)))])) (.cons (JF 9 (.alloc [Jz 0,Jz 0])) (.cons (JFc 53 40 [.t 47,.t 51,.t 52]) (.cons (JFm 42 53) (.cons (JFe 54 42 0) (.cons (JFe 55 42 1) (.cons (JFe 56 42 2) (.cons (JE (Js 2 9 54)) (.cons (JFm 10 55) (.cons (JSm 11 56) .nil)))))))))),(.cons (JF 9 (.alloc [Jz 0,Jz 0])) (.cons (JF 52 (.bsl 3 1 [(.k (Jz (-1)))])) (.cons (JFc 53 40 [.t 47,.t 51,.t 52]) (.cons (JFm 42 53) (.cons (JFe 54 42 0) (.cons (JFe 55 42 1) (.cons (JFe 56 42 2) (.cons (JE (Js 2 9 54)) (.cons (JFm 10 55) (.cons (JSm 11 56) .nil))))))))))]))))))))))
abbrev Zr5:List Ins:=[JSm 57 8,JSf 58 0 9,JSl 59 58,JSf 60 0 7,JSf 61 1 60,JSl 62 61,JSk 63 .sub 62 1,JS 64 (.bld [Jz 0,Jz 0] [(0,1,(.t 59)),(1,1,(.t 63))]),JSf 65 2 7,JSL 66 4 65,JSf 67 6 7,JSl 68 67,JS 69 (.bld [Jz 0,Jz 0,Jz 0,Jz 0,Jz 0,Jz 0,Jz 0] [(0,2,(.t 64)),(2,4,(.t 66)),(6,1,(.t 68))]),JS 70 (.call (.t 57) [(.k (Jz (-1))),.t 69])]
abbrev Zs7:OT:=(.cons (JFm 90 0) (.cons (JF 91 (.nilc (.t 90))) (.cons (JFf 92 0 91) (.cons (JFf 93 0 92) (.cons (JFL 94 3 93) (.cons (JFf 95 0 7) (.cons (JFf 96 0 95) (.cons (JFl 97 96) (.cons (JF 98 (.bld [Jz 0,Jz 0] [(0,1,(.t 97))])) (.cons (JFm 99 12) (.br [(.cons (JF 100 (.bsl 3 1 [.t 99])) (.cons (JF 13 (.alloc [Jz 0,Jz 0])) (.cons (JFc 101 40 [.t 94,.t 98,.t 100]) (.cons (JFm 89 101) (.cons (JFe 102 89 0) (.cons (JFe 103 89 1) (.cons (JFe 104 89 2) (.cons (JE (Js 2 13 102)) (.cons (JFm 14 103) (.cons (JSm 15 104) .nil)))))))))),(.cons (JF 13 (.alloc [Jz 0,Jz 0])) (.cons (JF 100 (.bsl 3 1 [.t 99])) (.cons (JFc 101 40 [.t 94,.t 98,.t 100]) (.cons (JFm 89 101) (.cons (JFe 102 89 0) (.cons (JFe 103 89 1) (.cons (JFe 104 89 2) (.cons (JE (Js 2 13 102)) (.cons (JFm 14 103) (.cons (JSm 15 104) .nil))))))))))])))))))))))
abbrev Zr6:List Ins:=[JSf 105 0 13,JSl 106 105,JSf 107 0 7,JSf 108 1 107,JSl 109 108,JSf 110 1 13,JSl 111 110,JSb 112 .add 109 111,JS 113 (.bld [Jz 0,Jz 0] [(0,1,(.t 106)),(1,1,(.t 112))]),JSf 114 2 7,JSL 115 4 114,JSf 116 6 7,JSl 117 116,JSf 118 1 13,JSl 119 118,JSb 120 .add 117 119,JS 121 (.bld [Jz 0,Jz 0,Jz 0,Jz 0,Jz 0,Jz 0,Jz 0] [(0,2,(.t 113)),(2,4,(.t 115)),(6,1,(.t 120))]),JS 16 (.alloc [Jz 0,Jz 0,Jz 0,Jz 0,Jz 0,Jz 0,Jz 0]),JUs 7 16 121]
abbrev Zto:VC:=(.seq (.seq (.dops [JFm 81 12,JFf 82 2 7,JF 83 (.iap 4 1 (.t 82) (.t 81)),JFl 84 83,JFm 85 12,JF 86 (.iap 4 1 (.t 3) (.t 85)),JFl 87 86,JSb 88 .eql 84 87]) (.cond (.t 88) (.exit 3) .skip)) (.seq (.drw Zs7) (.seq (.ops Zr6) (.seq (.ops [JSm 122 12,JSf 123 2 16,JS 124 (.iap 4 1 (.t 123) (.t 122)),JSl 125 124,JSk 126 .add 125 1,JSf 127 2 16,JS 128 (.iap 4 1 (.t 127) (.t 122)),JUs 1 128 126]) (.ops [JSm 129 8,JSm 130 12,JSL 131 7 16,JS 132 (.call (.t 129) [.t 130,.t 131])])))))
-- Zqf: changed and kept: [78]
abbrev Zqf:List Nat:=[0,3,5,6,7,8,77]
abbrev Zn5:VC:=(.seq (.ops [JSm 71 0,JS 72 (.nilc (.t 71)),JSf 73 0 72,JSf 74 0 73,JSf 75 2 74,JSl 76 75,JSn 77 76,JSi 78 0]) (.block 2 (.loop (.seq (.ops [JSb 79 .lss 78 77]) (.seq (.cond (.t 79) .skip (.exit 2)) (.seq (.block 3 (.seq (.ops [JSm 80 78,JSm 12 80]) Zto)) (.ops [JSk 133 .add 78 1,JSm 78 133])))))))
abbrev Ztp:VC:=(.seq (.ops [JSl 29 6,JS 30 (.slc 7 (.t 29) (some (.k (Jz 1))) none),JUs 1 6 30]) (.seq (.ops [JS 31 (.mkfn 151 [.t 3,.t 5,.t 7,.t 6]),JSm 8 31]) (.seq (.seq (.ops [JSf 32 0 7,JSf 33 1 32,JSl 34 33,JSk 35 .gtr 34 0,JSm 36 35,JTf 37 0 7 36,JTf 38 0 37 36,JTl 39 38 36,JTk 40 .gtr 39 0 36,JSp 41 36 40]) (.cond (.t 41) (.seq (.drw ZwT) (.ops Zr5)) .skip)) Zn5)))
-- Zqe: changed and kept: []
abbrev Zqe:List Nat:=[0,3,5,6]
abbrev Ztq:VC:=(.seq (.ops [JS 21 (.bld [Jz 0,Jz 0,Jz 0,Jz 0,Jz 0,Jz 0,Jz 0] []),JS 22 (.bsl 187 7 [.t 21]),JS 6 (.alloc [J0]),JUs 1 6 22]) (.seq (.block 0 (.loop (.seq (.seq (.ops [JSl 23 6,JSn 24 23,JSk 25 .gtr 24 0]) (.cond (.t 25) .skip (.exit 0))) (.block 1 (.seq (.ops [JSl 26 6,JS 27 (.ia 7 (.t 26) (.k (Jz 0))),JSL 28 7 27,JS 7 (.alloc [Jz 0,Jz 0,Jz 0,Jz 0,Jz 0,Jz 0,Jz 0]),JUs 7 7 28]) Ztp))))) (.seq (.ops [JSl 134 5,JSm 4 134]) .ret)))
def Zvc:FC:=⟨2,135,[.t 4],(.seq (.ops [JS 3 (.box 4 (.t 1)),JS 4 (.mv (.k (.c (.raw (.map none)))))]) (.seq (.ops Zv9) Ztq))⟩
theorem ZAA:Zao Tryz.prog [] 119=some Zvc:=by kernel_rfl
attribute [local go_sem] Nat.reduceEqDiff Nat.reduceAdd Nat.reduceMul reduceIte Nat.reduceLeDiff Nat.reduceLT Nat.reduceBEq reduceCtorEq
theorem ZsZ {w:Wh} (hwb:whB w=true) {pl:Int} (hp:0≤pl∧pl<w.ro):Zez w pl 1 [-1]=((0,0,1),0):=by
 have h1:Zf4 w pl 1 [-1]=true:=by
  simp only[Zf4,Zah,Zqq,ZhG,List.length_singleton,List.all_cons,List.all_nil,Bool.and_eq_true,decide_eq_true_eq];exact ⟨⟨by omega,by omega⟩,by omega,rfl,trivial⟩
 unfold Zez Zdd;rw[hwb,h1];rfl
theorem ZpQ {w:Wh} (hwb:whB w=true) {pl:Int} (hp:0≤pl∧pl<w.ro) {k:Nat} (hk:k<w.co.length):Zez w pl 0 [(k:Int)]=(((pl+w.co.getD k 0) % w.ro,plays w pl (w.co.getD k 0),0),0):=by
 have hne:(k:Int)≠-1:=by omega
 have h1:Zf4 w pl 0 [(k:Int)]=true:=by
  simp only[Zf4,Zah,Zqq,ZhG,List.length_singleton,List.all_cons,List.all_nil,Bool.and_eq_true,Bool.or_eq_true,decide_eq_true_eq,beq_iff_eq,Bool.and_true];exact ⟨⟨by omega,by omega⟩,by omega,.inr (by omega)⟩
 unfold Zez Zdd;rw[hwb,h1];simp only[if_true,Zi2,List.foldl_cons,List.foldl_nil,ZdK,Zgd,hne,if_false,false_and,Int.toNat_natCast,Int.add_zero,Int.zero_add]
theorem ZlW {C:Ctx} {v w:VC} {Q:Exit→St→Prop} {σ:St} {R:St→Prop} (h:∀σ',R σ'→WV C w Q σ') (h2:WV C v (Zaq R Q) σ):WV C v (Zaq (WV C w Q) Q) σ:=h2.mono fun e σ' hq=>by
 cases e
 ·exact h _ hq
 all_goals exact hq
def Zp2 (w:Wh) (A:Bag) (r:AV) (os:List Ob):Prop:=∃bm,r= .c (.raw (.map (some bm)))∧os=[gmap true true (gl (ZeA w A)) bm]
def ZqY (b:Bx):Nat→AV:=upd (upd (upd (upd (upd (upd e0 0 (.c (.pt b.cds))) 3 (.bp 3 0)) 5 (.bp 5 0)) 6 (.bp 6 0)) 7 (.bp 7 0)) 8 (.fn 151 [.bp 3 0,.bp 5 0,.bp 7 0,.bp 6 0])
def ZqZ (A:Bag) (bm:Nat) (x:Pt) (s:Seen×List Pt) (bv off cap:Nat):Nat→Ob:=upd (upd (upd (upd (upd (upd o0 3 (.box (ZaU A.l))) 5 (.box [.c (.raw (.map (some bm)))])) 7 (.box (ZaU x.l))) 17 (gmap true true (gl s.1) bm)) 22 (qO 187 7 (qls s.2) bv off cap)) 6 (.box [qv bv off s.2.length cap])
theorem Zus (x:Pt) {k:Nat} (hk:k<4):[AV.c (.int .i64 x.pl),.c (.int .i64 x.cr),.c (.int .i64 x.a),.c (.int .i64 x.b),.c (.int .i64 x.c),.c (.int .i64 x.d),.c (.int .i64 x.bo)].getD (2+k) .non= .c (.int .i64 (x.bag.at k)):=by
 have:k=0∨k=1∨k=2∨k=3:=by omega
 rcases this with rfl|rfl|rfl|rfl<;>rfl
theorem Zur (x:Bag) {k:Nat} (hk:k<4):[AV.c (.int .i64 x.a),.c (.int .i64 x.b),.c (.int .i64 x.c),.c (.int .i64 x.d)].getD k .non= .c (.int .i64 (x.at k)):=by
 have:k=0∨k=1∨k=2∨k=3:=by omega
 rcases this with rfl|rfl|rfl|rfl<;>rfl
theorem ZwM (x:Pt) {k:Nat} (hk:k<4) (pl cr bo:Int):[AV.c (.int .i64 pl),.c (.int .i64 cr),.c (.int .i64 x.a),.c (.int .i64 x.b),.c (.int .i64 x.c),.c (.int .i64 x.d),.c (.int .i64 bo)].set (2+k) (.c (.int .i64 (x.bag.at k+1)))=ZaU (x.with pl cr (x.bag.inc k) bo).l:=by
 have:k=0∨k=1∨k=2∨k=3:=by omega
 rcases this with rfl|rfl|rfl|rfl<;>rfl
theorem Zut (x:Pt) {k:Nat} (hk:k<4) (pl cr bo:Int):[AV.c (.int .i64 pl),.c (.int .i64 cr),.c (.int .i64 x.a),.c (.int .i64 x.b),.c (.int .i64 x.c),.c (.int .i64 x.d),.c (.int .i64 bo)].getD (2+k) .non= .c (.int .i64 (x.bag.at k)):=Zus ⟨pl,cr,x.a,x.b,x.c,x.d,bo⟩ hk
set_option maxHeartbeats 8000000 in
set_option maxRecDepth 20000 in
theorem kinds62 {C:Ctx} (hP:C.P=Tryz.prog) {b:Bx} (hwb:whB b.wh=true) {A:Bag} (hA:BagOk A) {bm:Nat} {x:Pt} (hx:PtIn b.wh.ro A x) {s0:Seen×List Pt} (hs0:SeenOk b.wh.ro A s0) {bv0 off0 cap0:Nat} {Q:Exit→St→Prop}
  (hQ:∀σ' bv off cap,Sub σ' ⟨ZqY b,ZqZ A bm x (Zbd A x (Zc7 b.wh A x b.wh.co.length) s0) bv off cap⟩→Q .normal σ'):WV C Zn5 Q ⟨ZqY b,ZqZ A bm x s0 bv0 off0 cap0⟩:=by
 have hw:=ZeQ hwb;have hro:=hw.ro;have hcl:=hw.cl;simp only[ZqY,ZqZ,ZaU,Bag.l,Pt.l,List.map_cons,List.map_nil];(repeat (refine vV ?_;(try simp only[go_sem,hP,Bx.cds,Zaj,List.length_map]);refine vQ ?_))
 refine Zax Zqf [17,22,6] (fun i:Nat×(Seen×List Pt)×Nat×Nat×Nat=>i.1≤b.wh.co.length∧i.2.1=Zbd A x (Zc7 b.wh A x i.1) s0) (fun i=>b.wh.co.length -i.1) (fun i=>[(78,iv i.1)])
  (fun i=>[(17,gmap true true (gl i.2.1.1) bm),(22,qO 187 7 (qls i.2.1.2) i.2.2.1 i.2.2.2.1 i.2.2.2.2),(6,.box [qv i.2.2.1 i.2.2.2.1 i.2.1.2.length i.2.2.2.2])]) (0,s0,bv0,off0,cap0) ⟨Nat.zero_le _,rfl⟩ ?_ ?_
 ·exact Zaz
 rintro ⟨k,s,bv,off,cap⟩ ⟨hk,hs⟩;simp only at hk hs;refine vR ?_;(refine vC ?_ ?_<;>intro h)
 ·have hi:k<b.wh.co.length:=by simpa using h
  clear h;have hok:SeenOk b.wh.ro A s:=by rw[hs];exact (Zc3 hA hs0 (Zh2 hw hA hx hk)).1
  have hlen:=hok.len hA hro.2;have hk4:k<4:=by omega
  have g1:=Zus x hk4;have g2:=Zur A hk4;have hsu:∀y:Int×Pt,Zg7 b.wh A x k=[y]→Zbd A x (Zc7 b.wh A x (k+1)) s0=Ze1 A y.1 x s y.2:=fun y hy=>by
   rw[Zfx,Zgp,←hs,hy];rfl
  have hsn:Zg7 b.wh A x k=[]→Zbd A x (Zc7 b.wh A x (k+1)) s0=s:=fun hy=>by
   rw[Zfx,Zgp,←hs,hy];rfl
  have w1:=w64 (n:=(k:Int)+1) (by omega) (by omega);(repeat (refine vV ?_;(try simp only[go_sem,hP,g1,g2,Int.toNat_natCast,Nat.mul_one]);refine vQ ?_))
  by_cases hne:x.bag.at k=A.at k
  ·have hsk:=hsn (by unfold Zg7;rw[if_pos hne]);(refine vC ?_ ?_<;>intro h)
   ·refine vW w1 ?_;refine ⟨(k+1,s,bv,off,cap),⟨hi,hsk.symm⟩,by simp only;omega,?_⟩;exact Zaz
   ·simp[hne] at h
  ·have hlt:=Bag.at_inc hA hx.1 hk4 hne;(refine vC ?_ ?_<;>intro h)
   ·simp at h;exact absurd h hne
   ·clear h;have hco:1≤b.wh.co.getD k 0∧b.wh.co.getD k 0≤100:=ZaZ hw.co hi;have hpb:=Zd5 hw (p:=x.pl) (c:=b.wh.co.getD k 0) (by omega);have hxa:=hx.1;have hx14:=hx.2;have hbo:=hxa.bo;have hmany:0≤x.bag.many∧x.bag.many≤14:=by
     obtain ⟨a1,a2,a3,a4,a5⟩:=hA;obtain ⟨_,_,h3,h4,h5,h6,_⟩:=hxa;simp only[Pt.bag,Bag.many];omega
    have hat:0≤x.bag.at k∧x.bag.at k≤14:=by
     obtain ⟨a1,a2,a3,a4,a5⟩:=hA;obtain ⟨_,_,h3,h4,h5,h6,_⟩:=hxa;have:k=0∨k=1∨k=2∨k=3:=by omega
     rcases this with rfl|rfl|rfl|rfl<;>simp only[Bag.at,Bag.l,Pt.bag,List.getD_cons_zero,List.getD_cons_succ]<;>omega
    have hrun:=run69 b.wh x.pl 0 [(k:Int)];rw[ZpQ hwb hxa.pl hi] at hrun;have hcn:Zg7 b.wh A x k=[((k:Int),x.with ((x.pl+b.wh.co.getD k 0) % b.wh.ro) (x.cr+plays b.wh x.pl (b.wh.co.getD k 0)) (x.bag.inc k) (x.bo+plays b.wh x.pl (b.wh.co.getD k 0)))]:=by unfold Zg7;rw[if_neg hne]
    have hsk:=hsu _ hcn;have hyo:=ZjX hw hA hx hi _ (by rw[hcn];exact List.mem_singleton.2 rfl);simp only at hsk hyo;have w2:=w64 (n:=x.cr+plays b.wh x.pl (b.wh.co.getD k 0)) (by have:=hxa.cr;omega) (by omega);have w3:=w64 (n:=x.bo+plays b.wh x.pl (b.wh.co.getD k 0)) (by omega) (by omega);have w4:=w64 (n:=x.bag.at k+1) (by omega) (by omega);have hset:=ZwM x hk4 ((x.pl+b.wh.co.getD k 0) % b.wh.ro) (x.cr+plays b.wh x.pl (b.wh.co.getD k 0)) (x.bo+plays b.wh x.pl (b.wh.co.getD k 0));have hgt:=Zut x hk4 ((x.pl+b.wh.co.getD k 0) % b.wh.ro) (x.cr+plays b.wh x.pl (b.wh.co.getD k 0)) (x.bo+plays b.wh x.pl (b.wh.co.getD k 0));generalize x.with ((x.pl+b.wh.co.getD k 0) % b.wh.ro) (x.cr+plays b.wh x.pl (b.wh.co.getD k 0)) (x.bag.inc k) (x.bo+plays b.wh x.pl (b.wh.co.getD k 0))=y at hset hsk hyo
    generalize (x.pl+b.wh.co.getD k 0) % b.wh.ro=np at*;generalize plays b.wh x.pl (b.wh.co.getD k 0)=gp at*;have hhl:s.2.length+1≤maxLen:=by have:maxLen=9223372036854775807:=rfl;omega
    have hadd:=add67 hA hro.2 (k:Int) hyo x (S:=s.1) (fun e he=>(hok.inn e he).1) (q:=s.2) bm bv off cap hhl (by omega);simp only[ZaU,Pt.l,List.map_cons,List.map_nil] at hset;clear hsu hsn hcn;refine vR ?_;(refine Zbx ?_;simp only[go_sem,hP,g1,g2,Int.toNat_natCast,Nat.mul_one];(repeat' (refine And.intro ?_ ?_)))
    all_goals (
     (refine Za0 (hrun) rfl rfl rfl rfl rfl ?_;simp only[go_sem,hP,Wh.av,Wh.avs,Zaj,w2,w3,w4,hgt,hset,Int.toNat_natCast,Nat.mul_one];refine vQ ?_;(repeat (refine vV ?_;(try simp only[go_sem,hP,Wh.av,Wh.avs,Zaj,w2,w3,w4,hgt,hset,Int.toNat_natCast,Nat.mul_one]);refine vQ ?_)))
     refine Zas [3,5,7,6,17,22] hadd rfl rfl rfl (by decide) rfl rfl ?_;rintro r l' ⟨rfl,bv',off',cap',rfl⟩;refine ⟨_,_,rfl,rfl,?_⟩;simp only[go_sem,hP,Zab,ZaU,Bag.l,Pt.l,List.map_cons,List.map_nil];refine vW w1 ?_;refine ⟨(k+1,Ze1 A k x s y,bv',off',cap'),⟨hi,hsk.symm⟩,by simp only;omega,?_⟩;exact Zaz)
 ·have hi:k=b.wh.co.length:=by simp at h;omega
  subst hi;subst hs;refine vR ?_;refine hQ _ bv off cap ?_;simp only[ZqY,ZqZ,ZaU,Bag.l,Pt.l,List.map_cons,List.map_nil,Bx.cds,Zaj];exact Zaz
set_option maxHeartbeats 8000000 in
set_option maxRecDepth 20000 in
theorem walk62 {b:Bx} (hwb:whB b.wh=true) {A:Bag} (hA:BagOk A):Za3 Tryz.prog 119 [.c (.pt b.cds),.agg (ZaU A.l)] (Zp2 b.wh A):=by
 have hw:=ZeQ hwb;have hro:=hw.ro;refine ZaK ZAA (Nat.le_refl _) (by decide) fun C hP hN hC hL=> ?_;rw[Zad]
 simp only[Zvc,Bx.cds,Zaj,ZaU,Bag.l,List.map_cons,List.map_nil];refine vR ?_;refine ZnD true true rfl ?_;intro bm;simp only[go_sem,hP];refine vR ?_;have hst:=Zf8 hw hA;have hk0:=(hst.inn (p00,-2,p00) (by simp)).1.key hA hro.2;refine Zfa (ka:=true) (va:=true) (n:=17) (b:=bm) (l:=gl []) (key:=p00.l) (val:=-2::p00.l) (k:=187) (e:=223) (x':=.t 17) (i':=.t 18) (v':=.t 19) (.inr rfl) (by kernel_rfl) Znu rfl rfl rfl rfl rfl rfl rfl rfl rfl rfl hk0 (ZfH hA hro.2 (S:=[]) (fun e he=>by cases he)) (fun p _ h=>Zdp h) ?_;rw[ZmE (by simp[sks])];simp only[go_sem,hP,List.nil_append];refine ZaG ?_;(refine ZdS 1 ?_;simp only[List.take_succ_cons,List.take_zero,List.take_nil,List.drop_succ_cons,List.drop_zero,List.drop_nil];simp only[go_sem,hP];refine vQ ?_)
 refine ZlQ rfl ?_;refine ZpJ (xs:=[p00.l]) rfl rfl rfl (ql1 p00) ?_;intro bq;simp only[go_sem,hP];(refine Zdn ?_;simp only[go_sem,hP];refine vQ ?_)
 refine ZaG (Zcs ?_);refine Zax Zqe [17,22,6] (fun i:Seen×List Pt×Nat×Nat×Nat=>SeenOk b.wh.ro A (i.1,i.2.1)∧∃n,left (i.1,i.2.1)≤n∧bfs b.wh A n (i.1,i.2.1)=ZeA b.wh A) (fun i=>left (i.1,i.2.1)) (fun _=>[])
  (fun i=>[(17,gmap true true (gl i.1) bm),(22,qO 187 7 (qls i.2.1) i.2.2.1 i.2.2.2.1 i.2.2.2.2),(6,.box [qv i.2.2.1 i.2.2.2.1 i.2.1.length i.2.2.2.2])]) ([(p00,-2,p00)],[p00],bq,0,1) ⟨hst,476583750002,by simp[left],by rw[ZeA]⟩ ?_ ?_
 ·exact Zaz
 rintro ⟨S,q,bv,off,cap⟩ ⟨hok,n,hn,hbfs⟩;simp only at hok hn hbfs;refine vR ?_;(refine vC ?_ ?_<;>intro h)
 ·cases q with
  |nil=>simp at h
  |cons x q=>
  clear h;have hlen:=hok.len hA hro.2;have hx:=hok.of_mem (hok.sub x (by simp));refine vR ?_;refine ZwF (b:=bv) (off:=off) (n:=(x::q).length) (cap:=cap) rfl rfl rfl rfl (Int.le_refl 0) (by simp) ?_;simp only[go_sem,hP];refine ZsT (n:=22) (b:=bv) (off:=off) (cap:=cap) (i:=0) (e:=187) (xs:=qls (x::q)) (r:=x.l) rfl rfl rfl rfl ?_;simp only[go_sem,hP,Pt.l,List.map_cons,List.map_nil];refine vR ?_;refine ZpK (n:=22) (b:=bv) (off:=off) (cap:=cap) (l:=1) (m:=(x::q).length) (e:=187) (xs:=qls (x::q)) rfl rfl rfl (List.length_map ..) rfl rfl (by simp) ?_;intro off1;have e1:(qls (x::q)).drop 1=qls q:=rfl;have e2:(x::q).length -1=q.length:=rfl;rw[e1,e2];simp only[go_sem,hP];refine vR ?_;have hexp:=ZdY hw hA hok;have hlft:=Zjw hw hA hok;have ht:=hok.tail;have hsel:=ZnT hw hx;have hs1:=Zc3 hA (x:=x) ht hsel;have hl1:=hs1.1.len hA hro.2;refine ZlW (R:=fun σ'=>∃bv1 off2 cap1,Sub σ' ⟨ZqY b,ZqZ A bm x (Zbd A x (Zkx x) (S,q)) bv1 off2 cap1⟩) ?_ ?_
  ·rintro σ' ⟨bv1,off2,cap1,hsub⟩;refine ZaL hsub (kinds62 hP hwb hA hx hs1.1 fun σ2 bv3 off3 cap3 hsub2=> ?_);obtain ⟨m,rfl⟩:∃m,n=m+1:=⟨n -1,by omega⟩;refine ⟨((Zcv b.wh A x (S,q)).1,(Zcv b.wh A x (S,q)).2,bv3,off3,cap3),⟨hexp.1,m,(show left (Zcv b.wh A x (S,q))≤m by omega),hbfs⟩,hlft,?_⟩;refine hsub2.trans ?_;rw[show Zbd A x (Zc7 b.wh A x b.wh.co.length) (Zbd A x (Zkx x) (S,q))=Zcv b.wh A x (S,q) from rfl];generalize Zcv b.wh A x (S,q)=s2;simp only[ZqY,ZqZ,ZaU,Bag.l,Pt.l,List.map_cons,List.map_nil,Bx.cds,Zaj];exact Zaz
  ·have hxa:=hx.1;by_cases hse:0<x.cr∧0<x.pl
   ·have hsl:Zkx x=[(-1,x.with 0 (x.cr -1) x.bag x.bo)]:=by unfold Zkx;rw[if_pos hse]
    have hsy:Zbd A x (Zkx x) (S,q)=Ze1 A (-1) x (S,q) (x.with 0 (x.cr -1) x.bag x.bo):=by rw[hsl];rfl
    have hyo:=hsel _ (by rw[hsl];exact List.mem_singleton.2 rfl);simp only at hyo;have hrun:=run69 b.wh x.pl 1 [-1];rw[ZsZ hwb hxa.pl] at hrun;have w2:=w64 (n:=x.cr -1) (by have:=hxa.cr;omega) (by have:=hxa.cr;omega);have hhl:q.length+1≤maxLen:=by have:maxLen=9223372036854775807:=rfl;simp only[List.length_cons] at hlen;omega
    have hadd:=add67 hA hro.2 (-1) hyo x (S:=S) (fun e he=>(hok.inn e he).1) (q:=q) bm bv off1 (cap -1) hhl (by simp only[List.length_cons] at hlen;omega);rw[hsy];(refine vC ?_ ?_<;>intro h)
    ·refine vR ?_;(refine Zbx ?_;simp only[go_sem,hP];(repeat' (refine And.intro ?_ ?_)))
     all_goals (
      (refine Za0 (hrun) rfl rfl rfl rfl rfl ?_;simp only[go_sem,hP,Wh.av,Wh.avs,Zaj,w2];refine vQ ?_;(repeat (refine vV ?_;(try simp only[go_sem,hP,Wh.av,Wh.avs,Zaj,w2]);refine vQ ?_)))
      refine Zas [3,5,7,6,17,22] hadd rfl rfl rfl (by decide) rfl rfl ?_;rintro r l' ⟨rfl,bv',off',cap',rfl⟩;refine ⟨_,_,rfl,rfl,?_⟩;generalize Ze1 A (-1) x (S,q) (x.with 0 (x.cr -1) x.bag x.bo)=s2;simp only[go_sem,hP,Zab,ZaU,Bag.l,Pt.l,List.map_cons,List.map_nil];refine ⟨bv',off',cap',?_⟩;simp only[ZqY,ZqZ,ZaU,Bag.l,Pt.l,List.map_cons,List.map_nil,Bx.cds,Zaj];exact Zaz)
    ·exfalso;simp[hse.1,hse.2] at h
   ·have hsl:Zkx x=[]:=by unfold Zkx;rw[if_neg hse]
    have hsy:Zbd A x (Zkx x) (S,q)=(S,q):=by rw[hsl];rfl
    rw[hsy];(refine vC ?_ ?_<;>intro h)
    ·exfalso;apply hse;simpa using h
    ·refine vR ?_;refine ⟨bv,off1,cap -1,?_⟩;simp only[ZqY,ZqZ,ZaU,Bag.l,Pt.l,List.map_cons,List.map_nil,Bx.cds,Zaj];exact Zaz
 ·cases q with
  |cons x q=>simp at h
  |nil=>
  rw[Zrj] at hbfs;subst hbfs;refine vR ?_;(refine Zak ?_;simp only[Zaq,inQ,Zbe,ZaP,Zae,ZaI];simp only[go_sem,ZaH])
  refine ⟨[17],_,_,_,by simp,by simp,rfl,AVle.refl _,rfl,bm,rfl,rfl⟩
abbrev Zv8:List Ins:=[JSf 23 2 6,JSL 24 4 23,JSL 25 4 3,JS 26 (.raw (.binOp .eql 185 (.tmp 24) (.tmp 25) 185)),JSm 27 26,JTm 28 8 27,JG 29 (.un .not (.t 28)) 27 true,JTm 30 29 27,JNf 31 0 6 30,JNf 32 0 31 30,JNl 33 32 30,JNf 34 0 7 30,JNf 35 0 34 30,JNl 36 35 30,JNb 37 .lss 33 36 30,JTo 38 30 37 27,JTm 39 38 27,JNf 40 0 6 39,JNf 41 0 40 39,JNl 42 41 39,JNf 43 0 7 39,JNf 44 0 43 39,JNl 45 44 39,JNb 46 .eql 42 45 39,JNm 47 46 39,JTf 48 0 6 47,JTf 49 1 48 47,JTl 50 49 47,JTf 51 0 7 47,JTf 52 1 51 47,JTl 53 52 47,JTb 54 .lss 50 53 47,JNp 55 47 54 39,JTo 56 39 55 27,JSp 57 27 56]
abbrev Ztn:VC:=(.seq (.ops [JS 14 (.raw (.entry (.tmp 11))),JSe 15 14 0,JS 6 (.alloc [Jz 0,Jz 0,Jz 0,Jz 0,Jz 0,Jz 0,Jz 0]),JUs 7 6 15]) (.seq (.ops [JSm 17 5,JSf 18 6 6,JSl 19 18,JS 20 (.raw (.lookup 183 (.tmp 17) (.tmp 19) true)),JSm 16 20,JSe 21 16 0,JSe 22 16 1,JS 7 (.alloc [Jz 0,Jz 0,Jz 0,Jz 0,Jz 0,Jz 0,Jz 0]),JUs 7 7 21,JSm 8 22]) (.seq (.ops Zv8) (.cond (.t 57) (.ops [JSm 58 5,JSf 59 6 6,JSl 60 59,JSL 61 7 6,JN (.raw (.mapUpdate 183 (.tmp 58) (.tmp 60) (.tmp 61)))]) .skip))))
-- K118_1: changed and kept: []
def Zvb:FC:=⟨2,63,[.t 4],(.seq (.ops [JS 3 (.box 4 (.t 1)),JS 4 (.mv (.k (.c (.raw (.map none)))))]) (.seq (.ops [JS 9 (.raw (.makeMap 183 none)),JSm 5 9]) (.seq (.seq (.ops [JSm 10 0,JS 11 (.raw (.range 189 (.tmp 10)))]) (.block 0 (.loop (.seq (.ops [JS 12 (.raw (.next (.tmp 11) false)),JSe 13 12 0]) (.seq (.cond (.t 13) .skip (.exit 0)) (.block 1 Ztn)))))) (.seq (.ops [JSm 62 5,JSm 4 62]) .ret))))⟩
theorem ZAz:Zao Tryz.prog [] 118=some Zvb:=by kernel_rfl
abbrev Ends:=List (Int×Pt)
def gl2 (D:Ends):GL:=D.map fun e=>([e.1],e.2.l)
def Zel (D:Ends) (n:Int):Option Pt:=(D.find? fun e=>e.1=n).map (·.2)
def ZoQ (D:Ends) (n:Int) (p:Pt):Ends:=if (Zel D n).isSome=true then D.map (fun e=>if e.1=n then (n,p) else e) else D++[(n,p)]
theorem ZfI (D:Ends) (n:Int):Zb0 (gl2 D) [n]=(Zel D n).map Pt.l:=by
 unfold Zb0 gl2 Zel;rw[List.find?_map,Option.map_map,Option.map_map];have:((fun q:List Int×List Int=>q.1==[n])∘fun e:Int×Pt=>([e.1],e.2.l))=fun e=>decide (e.1=n):=by
  funext e;simp only[Function.comp_apply];rw[Bool.eq_iff_iff];simp
 rw[this];rfl
theorem Zj9 (D:Ends) (n:Int) (p:Pt):Zoh (gl2 D) [n] p.l=gl2 (ZoQ D n p):=by
 unfold Zoh ZoQ;rw[ZfI,Option.isSome_map];split
 ·simp only[gl2,List.map_map];refine List.map_congr_left fun e _=> ?_
  simp only[Function.comp_apply];by_cases h:e.1=n
  ·simp[h]
  ·simp[h]
 ·simp[gl2]
def ZuO (D:Ends) (x:Pt):Bool:=match Zel D x.bo with|none=>true|some o=>decide (x.pl<o.pl)||(x.pl==o.pl&&decide (x.cr<o.cr))
def ZdX (A:Bag) (D:Ends) (e:Pt×Int×Pt):Ends:=if (decide (e.1.bag=A)&&ZuO D e.1)=true then ZoQ D e.1.bo e.1 else D
theorem Zrh (x A:Bag):(x.a==A.a&&(x.b==A.b&&(x.c==A.c&&x.d==A.d)))=decide (x=A):=by
 rw[Bool.eq_iff_iff];cases x;cases A;simp
theorem Zo2 {R:Seen} {pre post:GL} {k v:List Int} (h:gl R=pre++(k,v)::post):∃A e B,R=A++e::B∧pre=gl A∧post=gl B∧k=e.1.l∧v=e.2.1::e.2.2.l:=by
 unfold gl at h;obtain ⟨A,r2,rfl,h1,h2⟩:=List.map_eq_append_iff.1 h;obtain ⟨e,B,rfl,h3,h4⟩:=List.map_eq_cons_iff.1 h2;simp only[Prod.mk.injEq] at h3;exact ⟨A,e,B,rfl,h1.symm,h4.symm,h3.1.symm,h3.2.symm⟩
def EndsOf (S:Seen) (A:Bag) (D:Ends):Prop:=∃ord:Seen,ord.Perm S∧D=ord.foldl (ZdX A) []
theorem Zkh:KLaw Tryz.prog 3 (fun v=>∃n,v= .int .i64 n):=KLaw.int (by kernel_rfl)
theorem Ze2 (D:Ends):∀p∈gl2 D,∃n,Za2 false p.1= .int .i64 n:=fun p hp=>by
 obtain ⟨e,_,rfl⟩:=List.mem_map.1 hp;exact ⟨_,rfl⟩
theorem Zhh (D:Ends) (n:Int):∀p∈gl2 D,Za2 false p.1=Za2 false [n]→p.1=[n]:=fun p hp h=>by
 obtain ⟨e,_,rfl⟩:=List.mem_map.1 hp;simp only[Za2,Bool.false_eq_true,if_false,List.headD_cons,Value.int.injEq,true_and] at h;simp[h]
set_option maxHeartbeats 8000000 in
set_option maxRecDepth 20000 in
theorem ends63 {S:Seen} {A:Bag} (bm:Nat):ZaE Tryz.prog 118 [.c (.raw (.map (some bm))),.agg (ZaU A.l)] [gmap true true (gl S) bm,empO] [] (fun r l'=>∃be D,r= .c (.raw (.map (some be)))∧l'=[gmap true true (gl S) bm,gmap false true (gl2 D) be]∧EndsOf S A D):=by
 refine ZcD ZAz (by first|simp|exact Nat.le_of_ble_eq_true rfl) (Nat.le_refl _) (by decide) (by decide) fun C hP hN hC hpin hL=> ?_;rw[Zap,Zaw (by first|simp|exact Nat.le_of_ble_eq_true rfl)];simp only[Zvb,Zco,Za1,List.map_nil,List.map_cons,Nat.reduceAdd,]
 simp only[ZaU,Bag.l,List.map_cons,List.map_nil];refine vR ?_;refine ZnD false true rfl ?_;intro be;simp only[go_sem,hP];refine ZaG (Zos 1000 (ka:=true) (va:=true) (l:=gl S) (b:=bm) rfl ?_);intro es clock hst hes;simp only[go_sem];refine vR ?_;refine Zls (n:=1000) (b:=bm) (clock:=clock) (es:=es) (k:=187) (e:=223) (x':=.t 10) (by kernel_rfl) rfl rfl rfl rfl rfl ?_;intro r;simp only[go_sem,hP];refine vR ?_;refine Zax [3,5,11] [11,9] (fun i:Array Nat×Seen×Seen=>(i.2.2++i.2.1).Perm S∧Zd7 true true es i.1 (gl i.2.1)) (fun i=>i.2.1.length) (fun _=>[]) (fun i=>[(11,iterE r bm clock i.1 clock),(9,gmap false true (gl2 (i.2.2.foldl (ZdX A) [])) be)]) (#[],S,[]) ⟨by simp,Zlv hes⟩ ?_ ?_
 ·exact Zaz
 rintro ⟨seen,R,done⟩ ⟨hp,hr⟩;simp only at hp hr;refine vR ?_;refine ZnF (n:=1000) (m:=11) (b:=bm) (r:=r) (clock:=clock) (es:=es) (ka:=true) (va:=true) (l:=gl S) (rest:=gl R) (x':=.t 11) rfl rfl rfl rfl rfl hst rfl rfl hes hr (fun h0=> ?_) fun e pre k v post hsp hem hek hev hr2=> ?_
 ·have hR:R=[]:=List.map_eq_nil_iff.1 h0;subst hR;rw[List.append_nil] at hp;simp only[go_sem,hP];refine vR ?_;(refine vC ?_ ?_<;>intro h)
  ·cases h
  ·refine vR ?_;refine ZlT 1000 true true (gl S) (es:=es) (clock:=clock) rfl hst hes ?_;refine Zc1 [4] ?_;simp only[go_sem];refine ZlU 1001 ?_;refine ZjQ 9 1001 (by decide) (fun hq=>by have h2:false=true:=hpin 1001 hq;cases h2) rfl ?_;unfold rnO;simp only[go_sem,rnP_upd,rnE_upd,rnE_e0,rnP_o0,AV.rn,AV.rnL,Ob.rn];(refine Zak ?_;simp only[Zaq,inQ,ZaB,Zar,Zae,ZaI];simp only[go_sem,ZaH,AV.keepP,AV.keepPL];refine ⟨_,[gmap true true (gl S) bm,gmap false true (gl2 (List.foldl (ZdX A) [] done)) be],rfl,Zag rfl rfl ?_ ?_ rfl,?_⟩)
   ·simp only[go_sem,Zal,Ob.keepP,AV.keepP,AV.keepPL]
   ·trivial
   ·exact ⟨_,_,rfl,rfl,done,hp,rfl⟩
 ·obtain ⟨B1,en,B2,rfl,rfl,rfl,rfl,rfl⟩:=Zo2 hsp;have hgl:gl B1++gl B2=gl (B1++B2):=by simp[gl]
  rw[hgl] at hr2;have hp2:((done++[en])++(B1++B2)).Perm S:=by
   refine List.Perm.trans ?_ hp;rw[List.append_assoc];refine List.Perm.append_left done ?_;exact (List.perm_middle (a:=en) (l₁:=B1) (l₂:=B2)).symm
  have hfo:(done++[en]).foldl (ZdX A) []=ZdX A (done.foldl (ZdX A) []) en:=by rw[List.foldl_append];rfl
  have hlen:(B1++B2).length<B1.length+(B2.length+1):=by simp
  generalize done.foldl (ZdX A) []=D at*;obtain ⟨x,act,from_⟩:=en;simp only at hek hev;simp only[go_sem,hP,kav,if_true,Pt.l,List.map_cons,List.map_nil];refine vR ?_;(refine vC ?_ ?_<;>intro h)
  ·refine vR ?_;refine Zlr (n:=1000) (m:=11) (b:=bm) (r:=r) (clock:=clock) (since:=clock) (es:=es) (e:=e) (ka:=true) (va:=true) (k:=x.l) (v:=act::from_.l) (x':=.t 11) rfl rfl rfl rfl rfl hst hem hek hev ?_;simp only[go_sem,hP,kav,if_true,Pt.l,List.map_cons,List.map_nil];refine vR ?_;have hzl:∃y0 y1 y2 y3 y4 y5 y6:Int,(Zb0 (gl2 D) [x.bo]).getD [0,0,0,0,0,0,0]=[y0,y1,y2,y3,y4,y5,y6]∧ZuO D x=(!(Zb0 (gl2 D) [x.bo]).isSome||(decide (x.pl<y0)||(x.pl==y0&&decide (x.cr<y1)))):=by
    rw[ZfI];unfold ZuO;cases Zel D x.bo with
    |none=>exact ⟨_,_,_,_,_,_,_,rfl,rfl⟩
    |some o=>exact ⟨_,_,_,_,_,_,_,rfl,rfl⟩
   obtain ⟨y0,y1,y2,y3,y4,y5,y6,hz1,hz2⟩:=hzl;refine ZiF (ka:=false) (va:=true) (n:=9) (b:=be) (l:=gl2 D) (key:=[x.bo]) (zs:=[0,0,0,0,0,0,0]) (k:=3) (e:=187) (x':=.t 17) (i':=.t 19) (by kernel_rfl) Zkh (by kernel_rfl) rfl rfl rfl rfl rfl rfl rfl ⟨_,rfl⟩ (Ze2 D) (Zhh D _) ?_;rw[hz1];generalize (Zb0 (gl2 D) [x.bo]).isSome=is at*;simp only[go_sem,hP,kav,if_true,List.map_cons,List.map_nil];refine vR ?_;refine ZsQ (e:=3) (k:=.i64) (x':=.t 24) (y':=.t 25) (by kernel_rfl) (by kernel_rfl) (by kernel_rfl) (by kernel_rfl) (by kernel_rfl) rfl rfl rfl rfl rfl rfl ?_;have hbe:(x.a==A.a&&(x.b==A.b&&(x.c==A.c&&x.d==A.d)))=decide (x.bag=A):=Zrh x.bag A;rw[hbe];have hend:ZdX A D (x,act,from_)=if (decide (x.bag=A)&&ZuO D x)=true then ZoQ D x.bo x else D:=rfl
   rw[hz2] at hend;generalize decide (x.bag=A)=eq at hend;cases eq with
   |false=>
    simp only[Bool.false_and,Bool.false_eq_true,if_false] at hend;simp only[go_sem,hP];refine vR ?_;(refine vC ?_ ?_<;>intro h)
    ·cases h
    ·refine vR ?_;refine ⟨(seen.push e.born,B1++B2,done++[(x,act,from_)]),⟨hp2,hr2⟩,hlen,?_⟩;rw[hfo,hend];exact Zaz
   |true=>
    simp only[Bool.true_and] at hend;cases is with
    |false=>
     simp only[Bool.not_false,Bool.true_or,if_true] at hend;simp only[go_sem,hP];refine vR ?_;(refine vC ?_ ?_<;>intro h)
     ·refine vR ?_;refine Zfa (ka:=false) (va:=true) (n:=9) (b:=be) (l:=gl2 D) (key:=[x.bo]) (val:=x.l) (k:=3) (e:=187) (x':=.t 58) (i':=.t 60) (v':=.t 61) (.inl rfl) (by kernel_rfl) Zkh rfl rfl rfl rfl rfl rfl rfl rfl rfl rfl ⟨_,rfl⟩ (Ze2 D) (Zhh D _) ?_;rw[Zj9];simp only[go_sem,hP];refine ⟨(seen.push e.born,B1++B2,done++[(x,act,from_)]),⟨hp2,hr2⟩,hlen,?_⟩;rw[hfo,hend];exact Zaz
     ·cases h
    |true=>
     simp only[Bool.not_true,Bool.false_or] at hend;simp only[go_sem,hP];refine vR ?_;refine ⟨fun h1=>⟨h1,fun h2=>⟨h1,h2⟩⟩,fun h1=>by rw[h1];rfl,?_⟩;by_cases hc:(decide (x.pl<y0)||(x.pl==y0&&decide (x.cr<y1)))=true
     ·rw[if_pos hc] at hend;(refine vC ?_ ?_<;>intro h)
      ·refine vR ?_;refine Zfa (ka:=false) (va:=true) (n:=9) (b:=be) (l:=gl2 D) (key:=[x.bo]) (val:=x.l) (k:=3) (e:=187) (x':=.t 58) (i':=.t 60) (v':=.t 61) (.inl rfl) (by kernel_rfl) Zkh rfl rfl rfl rfl rfl rfl rfl rfl rfl rfl ⟨_,rfl⟩ (Ze2 D) (Zhh D _) ?_;rw[Zj9];simp only[go_sem,hP];refine ⟨(seen.push e.born,B1++B2,done++[(x,act,from_)]),⟨hp2,hr2⟩,hlen,?_⟩;rw[hfo,hend];exact Zaz
      ·exfalso;simp at h hc;omega
     ·rw[if_neg hc] at hend;(refine vC ?_ ?_<;>intro h)
      ·exfalso;simp at h hc;omega
      ·refine vR ?_;refine ⟨(seen.push e.born,B1++B2,done++[(x,act,from_)]),⟨hp2,hr2⟩,hlen,?_⟩;rw[hfo,hend];exact Zaz
  ·cases h
def Zva:FC:=⟨1,4,[.t 2],(.seq (.ops [JS 1 (.box 1 (.t 0)),JS 2 (.mv (.k (.c (.raw .nilFunc))))]) (.seq (.ops [JS 3 (.mkfn 150 [.t 1]),JSm 2 3]) .ret))⟩
theorem ZAy:Zao Tryz.prog [] 117=some Zva:=by kernel_rfl
def keysD (D:Ends):List Int:=D.map (·.1)
structure EndsOk (S:Seen) (A:Bag) (D:Ends):Prop where
 nd:(keysD D).Nodup
 src:∀e∈D,e.1=e.2.bo∧e.2.bag=A∧e.2∈sks S
theorem ZcJ {D:Ends} {n:Int} {p:Pt} (h:Zel D n=some p):(n,p)∈D:=by
 unfold Zel at h;rw[Option.map_eq_some_iff] at h;obtain ⟨e,he,rfl⟩:=h;have h1:=List.find?_some he;simp only[decide_eq_true_eq] at h1;subst h1;exact List.mem_of_find?_eq_some he
theorem Zha {D:Ends} {n:Int} (h:n∈keysD D):∃p,Zel D n=some p:=by
 unfold keysD at h;obtain ⟨e,he,rfl⟩:=List.mem_map.1 h;cases hd:Zel D e.1 with
 |some p=>exact ⟨p,rfl⟩
 |none=>
  unfold Zel at hd;rw[Option.map_eq_none_iff,List.find?_eq_none] at hd;have:=hd e he;simp at this
theorem ZfA {D:Ends} {n:Int} {p:Pt}:keysD (ZoQ D n p)=if n∈keysD D then keysD D else keysD D++[n]:=by
 unfold ZoQ;by_cases h:n∈keysD D
 ·obtain ⟨q,hq⟩:=Zha h;rw[if_pos h,hq];simp only[Option.isSome_some,if_true,keysD,List.map_map];refine List.map_congr_left fun e _=> ?_
  simp only[Function.comp_apply];split
  ·rename_i h2;exact h2.symm
  ·rfl
 ·have:Zel D n=none:=by
   cases hd:Zel D n with
   |none=>rfl
   |some q=>exact absurd (List.mem_map.2 ⟨_,ZcJ hd,rfl⟩) h
  rw[if_neg h,this];simp[keysD]
theorem EndsOk.nil {S:Seen} {A:Bag}:EndsOk S A []:=⟨List.nodup_nil,fun e h=>by cases h⟩
theorem EndsOk.put {S:Seen} {A:Bag} {D:Ends} (h:EndsOk S A D) {x:Pt} (hx:x.bag=A) (hs:x∈sks S):EndsOk S A (ZoQ D x.bo x):=by
 refine ⟨?_,fun e he=> ?_⟩
 ·rw[ZfA];split
  ·exact h.nd
  ·rename_i h2;rw[List.nodup_append];exact ⟨h.nd,by simp,fun a ha b hb=>by simp only[List.mem_singleton] at hb;subst hb;intro hab;subst hab;exact h2 ha⟩
 ·unfold ZoQ at he;split at he
  ·obtain ⟨e',he',rfl⟩:=List.mem_map.1 he;split
   ·exact ⟨rfl,hx,hs⟩
   ·exact h.src e' he'
  ·rcases List.mem_append.1 he with h1|h1
   ·exact h.src e h1
   ·simp only[List.mem_singleton] at h1;subst h1;exact ⟨rfl,hx,hs⟩
theorem EndsOf.ok {S:Seen} {A:Bag} {D:Ends} (h:EndsOf S A D):EndsOk S A D:=by
 obtain ⟨ord,hp,rfl⟩:=h;have key:∀(l:Seen) (D:Ends),(∀e∈l,e∈S)→EndsOk S A D→EndsOk S A (l.foldl (ZdX A) D):=by
  intro l;induction l with
  |nil=>intro D _ h;exact h
  |cons e l ih=>
   intro D hl h;rw[List.foldl_cons];refine ih _ (fun y hy=>hl y (by simp[hy])) ?_;unfold ZdX;split
   ·rename_i hc;simp only[Bool.and_eq_true,decide_eq_true_eq] at hc;exact h.put hc.1 (List.mem_map.2 ⟨e,hl e (by simp),rfl⟩)
   ·exact h
 exact key ord [] (fun e he=>hp.subset he) .nil
theorem EndsOk.len {S:Seen} {A:Bag} {D:Ends} (h:EndsOk S A D) (hb:∀e∈S,0≤e.1.bo∧e.1.bo≤2000):D.length≤2001∧∀e∈D,0≤e.1∧e.1≤2000:=by
 have hr:∀e∈D,0≤e.1∧e.1≤2000:=fun e he=>by
  obtain ⟨h1,_,h3⟩:=h.src e he;obtain ⟨y,hy,hye⟩:=List.mem_map.1 h3;have:=hb y hy;rw[h1,←hye];exact this
 refine ⟨?_,hr⟩;have:=Zhn 2001 ((keysD D).map Int.toNat) ?_ ?_
 ·simpa [keysD] using this
 ·rw[List.nodup_iff_pairwise_ne,List.pairwise_map];refine (List.nodup_iff_pairwise_ne.1 h.nd).imp_of_mem fun {a b} ha hb' hne e=>hne ?_
  obtain ⟨x,hx,rfl⟩:=List.mem_map.1 ha;obtain ⟨y,hy,rfl⟩:=List.mem_map.1 hb';have:=hr x hx;have:=hr y hy;omega
 ·intro x hx;obtain ⟨y,hy,rfl⟩:=List.mem_map.1 hx;obtain ⟨z,hz,rfl⟩:=List.mem_map.1 hy;have:=hr z hz;omega
theorem ZqH (be:Nat):Za3 Tryz.prog 117 [.c (.raw (.map (some be)))] (fun r os=>r= .fn 150 [.bp 1000 0]∧os=[.box [.c (.raw (.map (some be)))]]):=by
 refine ZaK ZAy (Nat.le_refl _) (by decide) fun C hP hN hC hL=> ?_;rw[Zad]
 simp only[Zva];refine vR ?_;refine Zc1 [1,2] ?_;simp only[go_sem];(refine Zak ?_;simp only[Zaq,inQ,Zbe,ZaP,Zae,ZaI];simp only[go_sem,ZaH])
 exact ⟨[1],_,_,_,by simp,by simp,rfl,AVle.refl _,rfl,rfl,rfl⟩
end Go.Proofs.YtcggfogkfhlmlaaGreatDoor
namespace Go.Proofs.YtcggfogkfhlmlaaGreatDoor
open Go Go.V Go.RowKit Go.Maps Go.Sort Go.Shelf Go.WideElems
def Zyb:FC:=⟨1,9,[.t 2],(.seq (.ops [JS 2 (.mv (.k J0))]) (.seq (.ops [JSm 4 0,JSc 5 148 [.t 4],JSm 3 5]) (.seq (.ops [JSm 6 3,JSc 7 149 [.t 6]]) (.seq (.ops [JSm 8 3,JSm 2 8]) .ret))))⟩
theorem ZAx:Zao Tryz.prog [] 116=some Zyb:=by kernel_rfl
def ZAc:Ren:=⟨fun|7=>117|10=>150|n=>n,fun|23=>183|26=>3|3=>187|28=>181|27=>180|33=>84|n=>n,fun x=>x⟩
def ZAd:Ren:=⟨fun|6=>116|8=>148|9=>149|11=>171|13=>173|12=>172|23=>211|24=>212|14=>202|15=>203|16=>204|17=>205|18=>206|19=>207|20=>208|21=>209|22=>210|25=>228|26=>229|27=>230|28=>231|29=>232|30=>233|31=>253|n=>n,
 fun|26=>3|28=>181|24=>22|3=>3|37=>245|48=>270|50=>272|40=>264|39=>263|45=>82|51=>282|55=>286|57=>307|58=>107|33=>84|n=>n,fun x=>x⟩
def ZBn:Ren:=⟨fun|5=>149|8=>173|7=>172|19=>211|20=>212|10=>202|11=>203|12=>204|13=>205|14=>206|15=>207|16=>208|17=>209|18=>210|30=>228|31=>229|32=>230|33=>231|34=>232|35=>233|40=>253|n=>n,
 fun|23=>22|25=>3|32=>245|22=>22|44=>270|46=>272|36=>264|35=>263|41=>82|53=>282|57=>286|63=>307|64=>107|n=>n,fun x=>x⟩
theorem Zg3 {P:Program} {f:Nat} {B:Func} (h:(P.funcs[f]?).map (fun g => { g with name := "" }) = some { B with name := "" }) (hn:(P.funcs[f]?).map (fun g => g.name == "runtime.NumGoroutine") = some false):Bears P f B:=by
 cases hg:P.funcs[f]? with
 |none=>rw[hg] at h;cases h
 |some g=>
  rw[hg,Option.map_some,Option.some.injEq] at h hn;refine ⟨g.name,hn,?_⟩;rw[hg];have h2:=congrArg (fun x:Func=> {x with name:=g.name}) h;exact congrArg some h2
theorem Zz7:SlLaysZI.n7 Tryz.prog ZAc:=by
 constructor<;>first|exact Zg3 (by kernel_rfl) (by kernel_rfl)|kernel_rfl|(intro w;kernel_rfl)
theorem ZBf:SlLaysZI.n6 Tryz.prog ZAd:=by
 constructor<;>first|exact Zg3 (by kernel_rfl) (by kernel_rfl)|kernel_rfl|(intro w;kernel_rfl)
theorem Zyh:SlLaysM.n5 Tryz.prog ZBn:=by
 constructor<;>first|exact Zg3 (by kernel_rfl) (by kernel_rfl)|kernel_rfl|(intro w;kernel_rfl)
theorem ZwP (m:Nat):AnyZI.SortsIn Tryz.prog ZAd Fence.wide m:=
 ⟨fun blk off cap ss W hH hblk hsz=>callsIn_wide.2 (AnyM.slices_Sort_int Zyh blk off cap ss W hH hblk hsz),fun p cap W=>callsIn_wide.2 (AnyM.slices_Sort_int_none Zyh p cap W)⟩
def srt (l:List Int):List Int:=l.mergeSort fun x y=>decide (x≤y)
theorem ZhB {l:List Int} {n:Int}:n∈srt l↔n∈l:=by unfold srt;rw[List.mem_mergeSort]
theorem Zkz {l l':List Int} (h:l.Perm l'):srt l=srt l':=mergeSort_of_perm_i h
def ZwD (_:Value):Option (DataW Unit×List MemPlace):=some (.nil,[])
theorem Zh6:∀l:List Int,(l.map fun n=>[CD.int .i64 n]).flatten.map AV.c=l.map fun n=>AV.c (.int .i64 n)
 |[]=>rfl
 |x::l=>by simp only[List.map_cons,List.flatten_cons,List.map_append,Zh6 l];rfl
theorem Zo9 {w:World} {M:Cells} {loc:Nat→Value} {l:List Int} {v:Value} {B:Nat} {e:TypeId} (h:w.ownsRow B e 1 v l.length (l.map encZ)) (hM:∀b o,M b o→b<B):RepA w M loc (.c (Zaj l)) v:=by
 obtain ⟨_,h|⟨g,cap,cur,rfl,hB,hb,h1,h2,h3,h4⟩⟩:=h
 ·obtain ⟨rfl,h0⟩:=h;have:l=[]:=List.eq_nil_of_length_eq_zero h0;subst this;simp only[RepA,RepC,Zaj];exact ⟨none,0,rfl,Nat.le_refl _,Nat.zero_le _,.inl rfl⟩
 ·simp only[RepA,RepC,Zaj,List.length_map];refine ⟨_,cap,rfl,h1,h2,.inr ⟨_,rfl,?_⟩⟩;refine Zhw _ (l.map encZ) 0 (fun e he=> ?_) ?_ (fun j u hj=> ?_) (fun j hj hm=> ?_)
  ·obtain ⟨n,_,rfl⟩:=List.mem_map.1 he;rfl
  ·have:=(ZbN (w:=w) (M:=M) (loc:=fun _=>undef) l (l.map encZ)).2 rfl;rw[Zh6 l];exact this
  ·rw[cell_of_row w g _ cur e (0,0) hb,Nat.zero_add,←Array.getElem?_toList];rw[←h4,List.getElem?_take] at hj;split at hj
   ·exact hj
   ·cases hj
  ·have:=hM _ _ hm;omega
theorem ZoU {D:Ends} {es:Array MapEntry} {clock:Nat} (hst:MapKept.Stamped es clock) (hes:es.toList.map (fun e=>(e.key,e.val))=ZbB false true (gl2 D)) (hl:D.length≤2001) (hr:∀e∈D,0≤e.1∧e.1≤2000):
  Fit Tryz.prog 3 ZwD es clock∧(es.toList.map (rg Tryz.prog 3 ZwD)).map (fun p=>Go.intOf p.1)=keysD D:=by
 have hk:∀n:Int,0≤n∧n≤2000→keyOf Tryz.prog 3 (.int .i64 n)=some (.int .i64 n):=fun n hn=>by
  have hu:Tryz.prog.underlying 3=some (.int .i64):=by kernel_rfl
  have hw:(Lit.int .i64 n).wf=true:=WalkArith.wf_i64 ⟨by omega,by omega⟩;simp[keyOf,hu,mapKey,hw]
 have hlen:es.size=D.length:=by
  have:=congrArg List.length hes;simpa [ZbB,gl2] using this
 have hkey:es.toList.map (fun e=>e.key)=D.map fun e=>Value.int .i64 e.1:=by
  have:=congrArg (List.map Prod.fst) hes;simpa [ZbB,gl2,Za2,Function.comp_def] using this
 refine ⟨⟨by rw[hlen];simp only[maxLen];omega,hst,fun x hx=> ?_⟩,?_⟩
 ·have:x.key∈es.toList.map fun e=>e.key:=List.mem_map.2 ⟨x,hx,rfl⟩
  rw[hkey] at this;obtain ⟨e,he,hxe⟩:=List.mem_map.1 this;unfold WideElems.rd;rw[←hxe,hk _ (hr e he)];exact ⟨_,rfl⟩
 ·have h2:∀(l:List MapEntry) (D:Ends),(∀e∈D,0≤e.1∧e.1≤2000)→l.map (fun e=>e.key)=D.map (fun e=>Value.int .i64 e.1)→(l.map (rg Tryz.prog 3 ZwD)).map (fun p=>Go.intOf p.1)=keysD D:=by
   intro l;induction l with
   |nil=>intro D _ h;cases D with
    |nil=>rfl
    |cons=>cases h
   |cons x l ih=>
    intro D hD h;cases D with
    |nil=>cases h
    |cons e D=>
     simp only[List.map_cons,List.cons.injEq] at h;have:=ih D (fun y hy=>hD y (by simp[hy])) h.2;simp only[List.map_cons,keysD,List.cons.injEq];refine ⟨?_,this⟩;unfold rg WideElems.rd;rw[h.1,hk _ (hD e (by simp))];rfl
  exact h2 _ _ hr hkey
set_option maxHeartbeats 1000000 in
theorem sorted64 {D:Ends} (hl:D.length≤2001) (hr:∀e∈D,0≤e.1∧e.1≤2000) (be:Nat):ZaE Tryz.prog 116 [.fn 150 [.bp 1000 0]] [.box [.c (.raw (.map (some be)))],gmap false true (gl2 D) be] [] (fun r l'=>r= .c (Zaj (srt (keysD D)))∧l'=[.box [.c (.raw (.map (some be)))],gmap false true (gl2 D) be]):=by
 refine Zfg (Zcf ZAx).1 (Nat.le_of_ble_eq_true rfl) fun w M loc vs hLO hrep=> ?_
 have h0:ObOk Tryz.prog (fun _=>True) w (AddM M _ loc) loc (loc 1000) (.box [.c (.raw (.map (some be)))]):=hLO.objs 1000;have h1:ObOk Tryz.prog (fun _=>True) w (AddM M _ loc) loc (loc 1001) (gmap false true (gl2 D) be):=hLO.objs 1001;obtain ⟨b,l,e,hb1,_,hb2,hb3⟩:=h0;obtain ⟨_,L,_,⟨_,_,es,clock,hm,hst,hes⟩,_⟩:=h1;simp only[RepAs,RepA,RepC] at hb3 hrep;obtain ⟨x,xs,hl1,⟨hx,_⟩,hxs⟩:=hb3;subst hxs;subst hx;subst hl1;obtain ⟨fv,_,rfl,⟨caps,rfl,y,ys,rfl,⟨b',hb',rfl⟩,rfl⟩,rfl⟩:=hrep;obtain rfl:b'=b:=by rw[hb1] at hb';simpa using hb'.symm
 obtain ⟨F,hkeys⟩:=ZoU hst hes hl hr;obtain ⟨D0,hD0⟩:∃D0,D0=(DataW.map ((es.toList.map (rg Tryz.prog 3 ZwD)).foldr DataW.insert []):DataW Unit):=⟨_,rfl⟩;have hown:w.ownsMap Tryz.prog 3 ZwD be es.size D0:=⟨es,clock,hm,F,Nat.le_refl _,hD0⟩;have hsize:Maps.size D0≤2001:=by
  rw[hD0,Maps.size_eq,length_sorted,List.length_map];have:=congrArg List.length hes;simp[ZbB,gl2] at this;simp;omega
 have hperm:(intKeys D0).Perm (keysD D):=by
  rw[←hkeys,hD0];exact (WideShapes.sorted_perm _).map _
 have hcell:w.cell? ⟨b',0,none⟩=some (.map (some be)):=by rw[cell_of_row w b' _ _ _ _ hb2.1];rfl
 have hlt:b'<w.heap.size:=Zbg (p:=⟨b',0,none⟩) (by rw[hcell];rfl);have hseq:SeqGives Fence.wide 2 Tryz.prog 150 #[.pointer (some ⟨b',0,none⟩)] encZ (fun ss=>ss.Perm (intKeys D0)) (Maps.size D0) w:=
  AnyZI.keys_gives (ρ:=ZAc) {Zz7 with} Fence.wide _ trivial rfl (by omega) b' be es.size D0 w hlt hcell hown
 have cS:=AnyZI.sorted_in ZBf Fence.wide 5 trivial trivial trivial trivial rfl (by omega) (ZwP _) (show Enters Tryz.prog 149 from Zyh.f5.enters rfl) 150 #[.pointer (some ⟨b',0,none⟩)] trivial (show Enters Tryz.prog 150 from Zz7.f10.enters rfl) _ _ (by simp only[maxLen];omega) (by omega) _ hseq;have cT:Calls Tryz.prog 116 _ _ _:=(callsIn_wide (n:=5)).1 cS;refine cT.mono ?_;rintro e w' ⟨v,ss,rfl,hS,hrow,_,hb⟩;refine ⟨v,_,rfl,rfl,hb,fun M' hM'=> ?_⟩;have h5:srt ss=srt (keysD D):=Zkz (hS.trans hperm);rw[←h5];have h6:(srt ss).length=ss.length:=List.length_mergeSort _;rw[←h6] at hrow;exact Zo9 hrow hM'
end Go.Proofs.YtcggfogkfhlmlaaGreatDoor
namespace Go.Proofs.YtcggfogkfhlmlaaGreatDoor
open Go Go.V Go.RowKit Go.Maps Go.Sort Go.Shelf
abbrev Zxb:VC:=(.seq (.seq (.ops [JSm 7 2,JSm 8 3,JSb 9 .lss 7 8]) (.cond (.t 9) .skip (.exit 0))) (.seq (.block 1 (.dops [JFm 14 0,JFm 15 2,JFm 16 0,JFm 17 3,JFm 18 0,JFm 19 3,JFa 20 1 18 19,JFl 21 20,JFm 22 0,JFm 23 2,JFa 24 1 22 23,JFl 25 24,JFa 26 1 14 15,JE (Js 1 26 21),JSa 27 1 16 17,JUs 1 27 25])) (.ops [JSm 10 2,JSk 11 .add 10 1,JSm 12 3,JSk 13 .sub 12 1,JSm 2 11,JSm 3 13])))
-- K174_1: changed and kept: [2,3]
def ZvA:FC:=⟨1,28,[],(.seq (.ops [JSm 4 0,JSn 5 4,JSk 6 .sub 5 1,JSi 2 0,JSm 3 6]) (.block 0 (.loop Zxb)))⟩
theorem Zzi:Zao Tryz.prog [] 174=some ZvA:=by kernel_rfl
def ZBm:Ren:=⟨fun|112=>174|n=>n,fun|28=>22|n=>n,fun x=>x⟩
theorem Zz8:Lays.n112 Tryz.prog ZBm:=by
 constructor<;>first|kernel_rfl|(intro w;kernel_rfl)
def cI (zs:List Int) (j:Nat):List AV:=(zs.map fun n=>AV.c (.int .i64 n))++List.replicate j .non
theorem Zux (zs:List Int) (j:Nat):(cI zs j).length=zs.length+j:=by simp[cI]
theorem Zdq {w:World} {M:Cells} {loc:Nat→Value}:∀{j:Nat} {l:List Value},RepAs w M loc (List.replicate j .non) l↔l.length=j
 |0,l=>by simp[RepAs]
 |j+1,l=>by
  simp only[List.replicate_succ,RepAs,RepA];constructor
  ·rintro ⟨v,vs,rfl,_,h⟩;rw[List.length_cons,Zdq.1 h]
  ·intro h;cases l with
   |nil=>cases h
   |cons v vs=>exact ⟨v,vs,rfl,trivial,Zdq.2 (by simpa using h)⟩
theorem Zqv {w:World} {M:Cells} {loc:Nat→Value} {zs:List Int} {j:Nat} {l:List Value}:RepAs w M loc (cI zs j) l↔∃rest,l=zs.map encZ++rest∧rest.length=j:=by
 constructor
 ·intro h;obtain ⟨l1,l2,rfl,h1,h2⟩:=RepAs.split h;rw[ZbN] at h1;exact ⟨l2,by rw[h1],Zdq.1 h2⟩
 ·rintro ⟨rest,rfl,h⟩;exact RepAs.append ((ZbN _ _).2 rfl) (Zdq.2 h)
theorem ZnA {zs ts:List Int} (h:ts.length=zs.length) (rest:List Value):(putCells encZ 0 ts.toArray (zs.map encZ++rest).toArray).toList=ts.map encZ++rest:=by
 apply List.ext_getElem?;intro j;by_cases hj:j<ts.length
 ·rw[List.getElem?_append_left (by simpa using hj),Array.getElem?_toList];have hj2:j<(zs.map encZ++rest).length:=by simp;omega
  simp only[putCells,Array.getElem?_mapIdx,List.getElem?_toArray,List.size_toArray,Nat.zero_le,true_and,Nat.zero_add,hj,if_true,List.getElem?_eq_getElem hj2,Option.map_some];simp[hj]
 ·rw[List.getElem?_append_right (by simpa using hj),Array.getElem?_toList];simp only[putCells,Array.getElem?_mapIdx,List.getElem?_toArray,List.size_toArray,Nat.zero_le,true_and,Nat.zero_add,hj,if_false,List.length_map];rw[List.getElem?_append_right (by simp;omega),List.length_map,h];cases rest[j -zs.length]? <;>rfl
theorem ZnJ (zs:List Int) (j cap:Nat):ZaE Tryz.prog 174 [.vw 1 1000 0 zs.length cap] [.box (cI zs j)] [] (fun r l'=>r= .tup []∧l'=[.box (cI zs.reverse j)]):=by
 refine ⟨(Zcf Zzi).1,Nat.le_of_ble_eq_true rfl,fun w M loc vs hM hLO hrep=> ?_⟩;have h0:ObOk Tryz.prog (fun _=>True) w (AddM M _ loc) loc (loc 1000) (.box (cI zs j)):=hLO.objs 1000;obtain ⟨b,l,e,hb1,_,hb2,hb3⟩:=h0;obtain ⟨rest,rfl,hj⟩:=Zqv.1 hb3;simp only[RepAs,RepA] at hrep;obtain ⟨v,_,rfl,⟨b',o,hb1',rfl,ho,hle,hcm⟩,rfl⟩:=hrep;obtain rfl:b'=b:=by rw[hb1] at hb1';simpa using hb1'.symm
 by_cases hz:zs=[]
 ·subst hz;refine (Any.slices_Reverse_int_empty Zz8 (some ⟨b',o,none⟩) cap w).mono ?_;rintro e' w' ⟨rfl,rfl⟩;exact ⟨_,.tup [],_,loc,rfl,⟨rfl,rfl⟩,rfl,⟨rfl,rfl,rfl,Nat.le_refl _,fun _ _ _=>rfl⟩,Keeps.refl _ _,hLO,fun n b h=> .inl ⟨n,h⟩,fun n h=>⟨h,rfl⟩,by simp only[RepA];exact ⟨[],rfl,by simp[RepAs]⟩⟩
 have hlen:0<zs.length:=List.length_pos_iff.2 hz;obtain rfl:o=0:=ho (by omega);have hlt:=hb2.lt;have hH:Holds encZ w b' 0 zs.toArray:=fun k hk=>by
  have hk':k<zs.length:=by simpa using hk
  refine ⟨?_,?_⟩
  ·rw[cell_of_row w b' _ _ _ _ hb2.1];simp[hk',List.getElem?_append_left]
  ·rw[Nat.zero_add];exact hb2.free (by simp;omega)
 refine (Any.slices_Reverse_int Zz8 b' 0 cap zs w hH (by have:maxLen=9223372036854775807:=rfl;omega)).mono ?_;rintro e' w' ⟨rfl,n,hw'⟩;obtain ⟨os,hos⟩:∃os:Array Obj,os= #[]:=⟨_,rfl⟩;have hgw:w'=grow (putRow encZ (Sort.ahead w n) b' 0 zs.reverse.toArray) os:=by rw[hw',hos];unfold grow;rw[Array.append_empty]
 have hgb:=grownBy_sortedI (w:=w) (g:=b') (n:=n) (os:=os) zs.reverse.toArray;have hhp:=heap_sortedI (n:=n) (os:=os) zs.reverse.toArray hb2.1;rw[←hgw] at hgb hhp;have hput:=ZnA (zs:=zs) (ts:=zs.reverse) (by simp) rest;have hat:AtC w' b' (zs.reverse.map encZ++rest) e:=⟨by rw[hhp,←hput],by have:=hb2.2;simpa using this⟩;have hblk:∀k,k<w.heap.size→k≠b'→w'.heap[k]? =w.heap[k]?:=fun k hk hne=>hgb.block k hk (fun h=>hne (Option.some.inj h))
 have hmut:∀o,AddM M (ZaV [.box (cI zs j)] []) loc b' o:=fun o=> .inr ⟨1000,by show (Ob.box _).mut (loc 1000) b' o;rw[hb1];rfl⟩
 have hown:∀n,n≠1000→ZaV [.box (cI zs.reverse j)] [] n=ZaV [.box (cI zs j)] [] n:=by
  intro n hn;simp only[ZaV,Zbv];split
  ·rfl
  ·split
   ·rw[show n -1000=(n -1001)+1 by omega];rfl
   ·rfl
 have hhas:∀n b,(ZaV [.box (cI zs.reverse j)] [] n).has (loc n) b↔(ZaV [.box (cI zs j)] [] n).has (loc n) b:=by
  intro n b;by_cases hn:n=1000
  ·subst hn;show (Ob.box _).has (loc 1000) b↔(Ob.box _).has (loc 1000) b;rw[hb1];exact Iff.rfl
  ·rw[hown n hn]
 have hmm:∀b o,AddM M (ZaV [.box (cI zs.reverse j)] []) loc b o→AddM M (ZaV [.box (cI zs j)] []) loc b o:=by
  rintro b o (h|⟨n,h⟩)
  ·exact .inl h
  ·refine .inr ⟨n,?_⟩;by_cases hn:n=1000
   ·subst hn;have h':(Ob.box (cI zs.reverse j)).mut (loc 1000) b o:=h;show (Ob.box _).mut (loc 1000) b o;rw[hb1] at h'⊢;exact h'
   ·rwa [hown n hn] at h
 have hk:Keeps w w' (AddM M (ZaV [.box (cI zs j)] []) loc) (AddM M (ZaV [.box (cI zs.reverse j)] []) loc):=
  ⟨fun p hp hm=>World.cell?_of_block (hblk _ (Zbg hp) fun hpb=>hm (hpb▸hmut p.off)),fun p hp hm h=>hm (hmm _ _ h)⟩
 have hno:∀n b,n≠1000→(ZaV [.box (cI zs j)] [] n).has (loc n) b→b≠b':=fun n b hn h hb=>by
  subst hb;exact hLO.disj n 1000 b hn h (by show (Ob.box _).has (loc 1000) b;rw[hb1];rfl)
 refine ⟨_,.tup [],_,loc,rfl,⟨rfl,rfl⟩,rfl,⟨hgb.os,hgb.tape,hgb.output,hgb.size,fun k hk hf=>hblk k hk fun hkb=>hf ⟨1000,by show (Ob.box _).has (loc 1000) k;rw[hb1];exact hkb.symm⟩⟩,hk,⟨fun n=> ?_,fun n m b hnm h1 h2=>hLO.disj n m b hnm ((hhas n b).1 h1) ((hhas m b).1 h2)⟩,fun n b h=> ?_,fun n h=> ?_,by simp only[RepA];exact ⟨[],rfl,by simp[RepAs]⟩⟩
 ·by_cases hn:n=1000
  ·subst hn;exact ⟨b',_,e,hb1,trivial,hat,Zqv.2 ⟨rest,rfl,hj⟩⟩
  ·rw[hown n hn];exact ObOk.keep' hk hgb.size (fun b hb=>hblk b ((hLO.objs n).lt hb) (hno n b hn hb)) (hLO.objs n)
 ·have h2:(ZaV [.box (cI zs j)] [] n).has (loc n) b:=(hhas n b).1 (by
   simp only[ZaV];split
   ·rename_i h3;simp only[Zbv] at h;rw[if_pos (by omega),show n -1000=(n -1001)+1 by omega] at h;exact h.elim
   ·exact h)
  refine .inl ⟨n,?_⟩;simp only[ZaV] at h2;split at h2
  ·exact h2.elim
  ·exact h2
 ·by_cases hn:n=1000
  ·subst hn;exact ⟨rfl,rfl⟩
  ·rw[hown n hn];exact ⟨h,rfl⟩
end Go.Proofs.YtcggfogkfhlmlaaGreatDoor
/-
 What led to a point:plain.
-/
namespace Go.Proofs.YtcggfogkfhlmlaaGreatDoor
open Go Go.V
def Bk (S:Seen):Prop:=∀pre e post,S=pre++e::post→e.2.1= -2∨e.2.2∈sks pre
theorem Bk.snoc {S:Seen} (h:Bk S) {p x:Pt} {act:Int} (hx:x∈sks S):Bk (S++[(p,act,x)]):=by
 intro pre e post he;rcases List.eq_nil_or_concat post with rfl|⟨post',y,rfl⟩
 ·obtain ⟨rfl,h2⟩:=List.append_inj' he rfl;simp only[List.cons.injEq,and_true] at h2;subst h2;exact .inr hx
 ·rw[List.concat_eq_append,←List.cons_append,←List.append_assoc] at he;exact h pre e post' (List.append_inj' he rfl).1
theorem Zow {A:Bag} {act:Int} {x y z:Pt} {s:Seen×List Pt} (h:z∈sks s.1):z∈sks (Ze1 A act x s y).1:=by
 unfold Ze1;split
 ·exact h
 ·simp only[sks,List.map_append,List.mem_append];exact .inl h
theorem Zfo {A:Bag} {x:Pt}:∀{l:List (Int×Pt)} {s:Seen×List Pt},Bk s.1→x∈sks s.1→Bk (Zbd A x l s).1∧x∈sks (Zbd A x l s).1
 |[],s,h,hx=>⟨h,hx⟩
 |e::l,s,h,hx=>by
  have h1:Bk (Ze1 A e.1 x s e.2).1:=by
   unfold Ze1;split
   ·exact h
   ·exact h.snoc hx
  exact Zfo (l:=l) h1 (Zow hx)
theorem Zmv {w:Wh} {A:Bag} {x:Pt} {s:Seen×List Pt} (h:Bk s.1) (hx:x∈sks s.1):Bk (Zcv w A x s).1:=by
 have h1:=Zfo (A:=A) (x:=x) (l:=Zkx x) h hx;exact (Zfo h1.1 h1.2).1
theorem Zqs {w:Wh} (hw:WhOk w) {A:Bag} (hA:BagOk A):∀(n:Nat) (s:Seen×List Pt),SeenOk w.ro A s→Bk s.1→Bk (bfs w A n s)∧(∀e∈bfs w A n s,PtIn w.ro A e.1)
 |0,s,h,hb=>⟨hb,h.inn⟩
 |n+1,(S,[]),h,hb=>⟨hb,h.inn⟩
 |n+1,(S,x::q),h,hb=>Zqs hw hA n _ (ZdY hw hA h).1 (Zmv (s:=(S,q)) hb (h.sub x (by simp)))
theorem Zl7 {w:Wh} (hw:WhOk w) {A:Bag} (hA:BagOk A):∀(n:Nat) (s:Seen×List Pt),SeenOk w.ro A s→(bfs w A n s).length≤238291875000
 |0,s,h=>(h.len hA hw.ro.2).1
 |n+1,(S,[]),h=>(h.len hA hw.ro.2).1
 |n+1,(S,x::q),h=>Zl7 hw hA n _ (ZdY hw hA h).1
theorem Zof {w:Wh} (hw:WhOk w) {A:Bag} (hA:BagOk A):Bk (ZeA w A)∧(∀e∈ZeA w A,PtIn w.ro A e.1)∧(ZeA w A).length≤238291875000:=by
 have h0:Bk [(p00,(-2:Int),p00)]:=by
  intro pre e post he;cases pre with
  |nil=>simp only[List.nil_append,List.cons.injEq] at he;rw[←he.1];exact .inl rfl
  |cons y pre=>simp at he
 have h1:=Zqs hw hA 476583750002 _ (Zf8 hw hA) h0;exact ⟨h1.1,h1.2,Zl7 hw hA _ _ (Zf8 hw hA)⟩
theorem Zpj {S pre post:Seen} {e:Pt×Int×Pt} (hS:S=pre++e::post) {p:Pt} (hp:p∈sks pre):∃pre' e' post',S=pre'++e'::post'∧pre'.length<pre.length∧Zb0 (gl S) p.l=some (e'.2.1::e'.2.2.l):=by
 obtain ⟨y,hy,hyp⟩:=List.mem_map.1 hp;cases hf:pre.find? (fun e=>e.1=p) with
 |none=>
  rw[List.find?_eq_none] at hf;have:=hf y hy;simp[hyp] at this
 |some e'=>
  obtain ⟨h1,A,B,rfl,h2⟩:=List.find?_eq_some_iff_append.1 hf;refine ⟨A,e',B++e::post,by rw[hS];simp,by simp,?_⟩;rw[Ze3,hS];rw[List.find?_append,hf];rfl
theorem Zpi {S:Seen} {p:Pt} (hp:p∈sks S):∃pre e post,S=pre++e::post∧Zb0 (gl S) p.l=some (e.2.1::e.2.2.l):=by
 obtain ⟨y,hy,hyp⟩:=List.mem_map.1 hp;cases hf:S.find? (fun e=>e.1=p) with
 |none=>
  rw[List.find?_eq_none] at hf;have:=hf y hy;simp[hyp] at this
 |some e=>
  obtain ⟨h1,A,B,hS,h2⟩:=List.find?_eq_some_iff_append.1 hf;refine ⟨A,e,B,hS,?_⟩;rw[Ze3,hf];rfl
def ZmF (b:Bx) (A:Bag):Bool:=(ZeA b.wh A).any fun e=>decide (e.1.bag=A)&&Zah e.1.bo b.pl (b.pl+b.sk)
theorem ZoR {D:Ends} {n:Int} {p:Pt}:n∈keysD (ZoQ D n p):=by
 rw[ZfA];split
 ·assumption
 ·simp
theorem ZfM {S:Seen} {A:Bag} {D:Ends} (h:EndsOf S A D) (n:Int):n∈keysD D↔∃e∈S,e.1.bag=A∧e.1.bo=n:=by
 constructor
 ·intro hn;obtain ⟨e,he,rfl⟩:=List.mem_map.1 hn;obtain ⟨h1,h2,h3⟩:=h.ok.src e he;obtain ⟨y,hy,hye⟩:=List.mem_map.1 h3;exact ⟨y,hy,by rw[hye];exact h2,by rw[hye];exact h1.symm⟩
 ·rintro ⟨e,he,hA,rfl⟩;obtain ⟨ord,hp,rfl⟩:=h;have mono:∀(l:Seen) (D:Ends) (n:Int),n∈keysD D→n∈keysD (l.foldl (ZdX A) D):=by
   intro l;induction l with
   |nil=>intro D n h;exact h
   |cons x l ih=>
    intro D n h;rw[List.foldl_cons];refine ih _ n ?_;unfold ZdX;split
    ·rw[ZfA];split
     ·exact h
     ·simp[h]
    ·exact h
  obtain ⟨l1,l2,rfl⟩:=List.append_of_mem (hp.symm.subset he);rw[List.foldl_append,List.foldl_cons];refine mono l2 _ _ ?_;generalize l1.foldl (ZdX A) []=D1;unfold ZdX;split
  ·exact ZoR
  ·rename_i hc;simp only[hA,decide_true,Bool.true_and] at hc;unfold ZuO at hc;split at hc
   ·exact absurd rfl hc
   ·rename_i o ho;have:=ZcJ ho;exact List.mem_map.2 ⟨_,this,rfl⟩
theorem ZrJ {b:Bx} {A:Bag} {D:Ends} (h:EndsOf (ZeA b.wh A) A D):ZmF b A=(srt (keysD D)).any fun n=>Zah n b.pl (b.pl+b.sk):=by
 rw[Bool.eq_iff_iff,List.any_eq_true];simp only[ZmF,List.any_eq_true,Bool.and_eq_true,decide_eq_true_eq];constructor
 ·rintro ⟨e,he,h1,h2⟩;exact ⟨e.1.bo,ZhB.2 ((ZfM h _).2 ⟨e,he,h1,rfl⟩),h2⟩
 ·rintro ⟨n,hn,h2⟩;obtain ⟨e,he,h1,rfl⟩:=(ZfM h _).1 (ZhB.1 hn);exact ⟨e,he,h1,h2⟩
def pur (b:Bx) (p:List Int):Bag:=⟨(ZbC b).getD 0 0+p.getD 0 0,(ZbC b).getD 1 0+p.getD 1 0,(ZbC b).getD 2 0+p.getD 2 0,(ZbC b).getD 3 0+p.getD 3 0⟩
structure PurOk (b:Bx) (p:List Int):Prop where
 len:p.length≤b.wh.co.length
 nn:∀n∈p,0≤n
 sum:p.sum≤2
theorem Zhf {p:List Int} (h:∀n∈p,0≤n) (k:Nat):0≤p.getD k 0:=by
 rw[List.getD_eq_getElem?_getD];cases hk:p[k]? with
 |none=>simp
 |some n=>exact h n (List.mem_of_getElem? hk)
theorem ZAe:∀{p:List Int},p.length≤4→p.sum=p.getD 0 0+p.getD 1 0+p.getD 2 0+p.getD 3 0
 |[],_=>rfl
 |[a],_=>by simp
 |[a,b],_=>by simp
 |[a,b,c],_=>by simp;omega
 |[a,b,c,d],_=>by simp;omega
 |a::b::c::d::e::l,h=>by simp at h
theorem ZlZ:∀{a b:List Int} (_:a.length=b.length) (k:Nat),(ZeD a b).getD k 0=if k<a.length then a.getD k 0+b.getD k 0 else 0
 |[],[],_,k=>by simp[ZeD]
 |x::a,y::b,h,0=>by simp[ZeD]
 |x::a,y::b,h,k+1=>by
  have:=ZlZ (a:=a) (b:=b) (by simpa using h) k;unfold ZeD at this⊢;rw[List.zipWith_cons_cons,List.getD_cons_succ,this,List.getD_cons_succ,List.getD_cons_succ];simp
theorem ZnB {b:Bx} (hb:BxOk b):(∀k,0≤(ZbC b).getD k 0)∧(ZbC b).getD 0 0+(ZbC b).getD 1 0+(ZbC b).getD 2 0+(ZbC b).getD 3 0≤12:=by
 have hl:=hb.fl.trans hb.sl.symm;have hcl:=hb.wh.cl;have hfl:=hb.fl;have hs:=hb.sum;have g1:=fun k=>Zhf (fun n hn=>(hb.fo n hn).1) k
 have g2:=fun k=>Zhf (fun n hn=>(hb.sn n hn).1) k
 have g:∀k,(ZbC b).getD k 0=if k<b.fo.length then b.fo.getD k 0+b.sl.getD k 0 else 0:=ZlZ hl
 refine ⟨fun k=> ?_,?_⟩
 ·rw[g k];have:=g1 k;have:=g2 k;split<;>omega
 ·rw[g 0,g 1,g 2,g 3];have h4:b.fo.length=0∨b.fo.length=1∨b.fo.length=2∨b.fo.length=3∨b.fo.length=4:=by omega
  rcases h4 with h|h|h|h|h<;>rw[h] at hs⊢<;>simp only[sumK] at hs<;>simp only[Nat.reduceLT,Nat.lt_irrefl,if_true,if_false]<;>omega
theorem ZqR {b:Bx} (hb:BxOk b) {p:List Int} (hp:PurOk b p):BagOk (pur b p):=by
 obtain ⟨h1,h2⟩:=ZnB hb;have hcl:=hb.wh.cl;have hs:=ZAe (p:=p) (by have:=hp.len;omega);have h3:=hp.sum;have g:=Zhf hp.nn;have a0:=h1 0;have a1:=h1 1;have a2:=h1 2;have a3:=h1 3;have b0:=g 0;have b1:=g 1;have b2:=g 2;have b3:=g 3;unfold pur;constructor<;>simp only<;>omega
end Go.Proofs.YtcggfogkfhlmlaaGreatDoor
