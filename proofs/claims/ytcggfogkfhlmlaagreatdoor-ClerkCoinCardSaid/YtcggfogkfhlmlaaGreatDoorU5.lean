/-
  Contracts of the layer's functions, of the laws' helpers and of the law; conditions: as each theorem states.
-/
import Derived.Test.YtcggfogkfhlmlaaGreatDoorU4
import Derived.Test.YtcggfogkfhlmlaaGreatDoorV2
import Derived.Test.YtcggfogkfhlmlaaGreatDoorV3
import Derived.Shelf.Strconv.Itoa3
import Derived.Shelf.Strings.OnBuilder
import Derived.Lib.AppendIntMem
import Derived.Lib.ItoaLen
import Derived.Test.YtcggfogkfhlmlaaGreatDoorChecked
set_option linter.unusedVariables false
set_option linter.unusedSimpArgs false
namespace Go.Proofs.YtcggfogkfhlmlaaGreatDoor
open Go Go.V
abbrev Zwh:List Ins:=[JSm 10 4,JS 11 (.prim .slen [.t 10]),JSk 12 .eql 11 0,JSm 13 12,JNm 14 4 13,JG 15 (.prim .slen [.t 14]) 13 false,JNk 16 .gtr 15 9 13,JSo 17 13 16,JSm 18 17,JNm 19 4 18,JG 20 (.prim .sidx [.t 19,(.k (Jz 0))]) 18 false,JG 21 (.bin .eql (.t 20) (.k (.c (.int .u8 48)))) 18 false,JNm 22 21 18,JTm 23 4 22,JG 24 (.prim .slen [.t 23]) 22 true,JTk 25 .gtr 24 1 22,JTm 26 25 22,JNm 27 0 26,JG 28 (.prim .slen [.t 27]) 26 false,JNk 29 .gtr 28 1 26,JTo 30 26 29 22,JNp 31 22 30 18,JSo 32 18 31]
abbrev Zwi:List Ins:=[JSm 38 4,JSm 39 5,JS 40 (.prim .sidx [.t 38,.t 39]),JS 41 (.bin .lss (.t 40) (.k (.c (.int .u8 48)))),JSm 42 41,JNm 43 4 42,JNm 44 5 42,JG 45 (.prim .sidx [.t 43,.t 44]) 42 false,JG 46 (.bin .gtr (.t 45) (.k (.c (.int .u8 57)))) 42 false,JSo 47 42 46]
-- K158_1: changed and kept: [35]
abbrev Zs8:OT:=(.cons (JFm 55 7) (.br [(.cons (JFm 54 6) (.br [(.cons (JS 56 (.raw (.binOp .eql 255 (.tmp 55) (.const .nilIface) 255))) (.cons (JFm 2 54) (.cons (JSm 3 56) .nil))),(.cons (JFm 2 54) (.cons (JS 56 (.raw (.binOp .eql 255 (.tmp 55) (.const .nilIface) 255))) (.cons (JSm 3 56) .nil)))])),(.cons (JS 56 (.raw (.binOp .eql 255 (.tmp 55) (.const .nilIface) 255))) (.cons (JFm 54 6) (.cons (JFm 2 54) (.cons (JSm 3 56) .nil))))]))
abbrev ZtH:VC:=(.seq (.seq (.ops [JSm 33 4,JS 34 (.prim .slen [.t 33]),JSi 35 0]) (.block 0 (.loop (.seq (.ops [JSb 36 .lss 35 34]) (.seq (.cond (.t 36) .skip (.exit 0)) (.seq (.block 1 (.seq (.ops [JSm 37 35,JSm 5 37]) (.seq (.ops Zwi) (.cond (.t 47) (.seq (.ops [JSi 2 0,JSB 3 false]) .ret) .skip)))) (.ops [JSk 48 .add 35 1,JSm 35 48]))))))) (.seq (.ops [JSm 50 0,JSc 51 196 [.t 50],JSm 49 51,JSe 52 49 0,JSe 53 49 1,JSm 6 52,JSm 7 53]) (.seq (.drw Zs8) .ret)))
def Zvy:FC:=⟨1,57,[.t 2,.t 3],(.seq (.ops [JSi 2 0,JSB 3 false]) (.seq (.ops [JSm 8 0,JSc 9 195 [.t 8,(.k (.c (.str [45])))],JSm 4 9]) (.seq (.seq (.ops Zwh) (.cond (.t 32) (.seq (.ops [JSi 2 0,JSB 3 false]) .ret) .skip)) ZtH)))⟩
theorem ZAW:Zao Tryz.prog [] 158=some Zvy:=by kernel_rfl
attribute [local go_sem] Nat.reduceEqDiff Nat.reduceAdd Nat.reduceMul reduceIte Nat.reduceLeDiff Nat.reduceLT Nat.reduceBEq reduceCtorEq
def Zba (s:List UInt8):List UInt8:=Lib.trimPrefix s [45]
def dgt (b:UInt8):Bool:=decide (48≤b.toNat)&&decide (b.toNat≤57)
def Zcw (s:List UInt8):Bool:=(((Zba s).length:Int)==0||decide (9<((Zba s).length:Int))||((((Zba s).getD 0 0).toNat:Int)==48&&(decide (1<((Zba s).length:Int))||decide (1<(s.length:Int)))))
def Zbo (s:List UInt8):Bool:=!Zcw s&&(Zba s).all dgt
def ZgG (s:List UInt8):Int:=if Zbo s then (Lib.atoi s).getD 0 else 0
theorem Zb8 (p:UInt8→Bool):∀(l:List UInt8) (k:Nat),k<l.length→(l.take (k+1)).all p=((l.take k).all p&&p (l.getD k 0))
 |[],k,h=>by simp at h
 |b::l,0,_=>by simp
 |b::l,k+1,h=>by
  have:=Zb8 p l k (by simpa using h);simp only[List.take_succ_cons,List.all_cons,this,List.getD_cons_succ,Bool.and_assoc]
theorem ZcP:∀(l:List UInt8) (acc:Nat),l.all dgt=true→∃m,Lib.decFrom acc l=some m
 |[],acc,_=>⟨acc,rfl⟩
 |b::l,acc,h=>by
  simp only[List.all_cons,Bool.and_eq_true] at h;have hb:Lib.digitVal b=some (b.toNat -48):=by
   have:=h.1;unfold dgt at this;simp only[Bool.and_eq_true,decide_eq_true_eq] at this;unfold Lib.digitVal;rw[if_pos this]
  obtain ⟨m,hm⟩:=ZcP l (acc*10+(b.toNat -48)) h.2;exact ⟨m,by unfold Lib.decFrom;rw[hb];exact hm⟩
theorem ZfR {s:List UInt8} (h:Zbo s=true):0<(Zba s).length∧(Zba s).length≤9∧s.length≤10∧(Zba s).all dgt=true:=by
 unfold Zbo at h;rw[Bool.and_eq_true] at h;obtain ⟨h1,h2⟩:=h;have hb':Zcw s=false:=by simpa using h1
 unfold Zcw at hb';simp at hb';have h3:=List.length_pos_iff.2 hb'.1.1;have h4:s.length≤(Zba s).length+1:=by unfold Zba Lib.trimPrefix;split<;>simp;omega
 exact ⟨h3,by omega,by omega,h2⟩
theorem Zl6 {s:List UInt8} (h:Zbo s=true):Lib.atoi s=some (ZgG s):=by
 obtain ⟨h1,h2,h3,h4⟩:=ZfR h;have:∃n,Lib.atoi s=some n:=by
  cases s with
  |nil=>exact absurd h1 (by simp[Zba,Lib.trimPrefix])
  |cons b r=>
   unfold Lib.atoi;by_cases hb:b=45
   ·subst hb;have hd:Zba (45::r)=r:=by simp[Zba,Lib.trimPrefix,Lib.hasPrefix]
    rw[hd] at h1 h4;obtain ⟨m,hm⟩:=ZcP r 0 h4;have:r.isEmpty=false:=by cases r<;>simp at h1⊢
    simp[Lib.decNat,this,hm]
   ·have hd:Zba (b::r)=b::r:=by
     have:(45:UInt8)≠b:=fun e=>hb e.symm
     simp[Zba,Lib.trimPrefix,Lib.hasPrefix,this]
    rw[hd] at h4;obtain ⟨m,hm⟩:=ZcP (b::r) 0 h4;have h43:b≠43:=by
     rintro rfl;simp[dgt] at h4
    simp[Lib.decNat,hb,h43,hm]
 obtain ⟨n,hn⟩:=this;unfold ZgG;rw[if_pos h,hn];rfl
theorem Zpo {s:List UInt8} (hs:s.length≤1000):FSpec Tryz.prog 158 [.c (.str s)] (.tup [iv (ZgG s),.c (.bool (Zbo s))]):=by
 have hm:maxLen=9223372036854775807:=rfl;have hdl:(Zba s).length≤s.length:=by unfold Zba Lib.trimPrefix;split<;>simp
 refine Zac ZAW (Nat.le_refl _) (by decide) fun C hP hN hC hL=> ?_;rw[Zad]
 simp only[Zvy];refine vR ?_;(refine Zau (Ztb s [45]) ?_;simp only[go_sem,hP];refine vQ ?_;refine vR ?_)
 rw[show Lib.trimPrefix s [45]=Zba s from rfl];refine ⟨fun h=>⟨h,Int.le_refl 0,by simp at h;have:=List.length_pos_iff.2 h.1;omega⟩,fun h=>⟨h,fun h2=>⟨h,by simp[h2]⟩⟩,fun h=>⟨h,fun h2=>⟨h,h2⟩⟩,fun h=>by rw[h];rfl,?_⟩;refine ZaL (σ':=⟨upd (upd (upd (upd (upd e0 0 (.c (.str s))) 4 (.c (.str (Zba s)))) 32 (.c (.bool (Zcw s)))) 2 (iv 0)) 3 (.c (.bool false)),o0⟩) (Zai (by simp only[go_sem];exact vEr) (by simp only[go_sem];exact Zaa)) ?_;by_cases hb:Zcw s=true
 ·have hok:Zbo s=false:=by unfold Zbo;rw[hb];rfl
  have hv:ZgG s=0:=by unfold ZgG;rw[hok];rfl
  rw[hok,hv];refine vR ?_;(refine vC ?_ ?_<;>intro h)
  ·refine vR ?_;(refine vT ?_;try exact trivial)
  ·rw[hb] at h;cases h
 ·have hb':Zcw s=false:=by simpa using hb
  have hd9:(Zba s).length≤9:=by
   unfold Zcw at hb';simp at hb';omega
  have hd0:0<(Zba s).length:=by
   unfold Zcw at hb';simp at hb';exact List.length_pos_iff.2 hb'.1.1
  refine vR ?_;(refine vC ?_ ?_<;>intro h)
  ·exact absurd h hb
  refine vR ?_;refine ZaQ (fun k:Nat=>⟨upd (upd (upd (upd (upd (upd e0 0 (.c (.str s))) 4 (.c (.str (Zba s)))) 2 (iv 0)) 3 (.c (.bool false))) 34 (iv (Zba s).length)) 35 (iv k),o0⟩) (fun k=>k≤(Zba s).length∧((Zba s).take k).all dgt=true) (fun k=>(Zba s).length -k) 0 ⟨Nat.zero_le _,rfl⟩ ?_ ?_
  ·exact Zaz
  rintro k ⟨hk,hr⟩;refine vR ?_;(refine vC ?_ ?_<;>intro h)
  ·have hi:k<(Zba s).length:=by simpa using h
   have hw:=w64 (n:=(k:Int)+1) (by omega) (by omega);have hts:=Zb8 dgt (Zba s) k hi;rw[hr,Bool.true_and] at hts;have hfail:dgt ((Zba s).getD k 0)=false→Zbo s=false:=fun h=>by
    unfold Zbo;have:(Zba s).all dgt=false:=by
     cases hx:(Zba s).all dgt with
     |false=>rfl
     |true=>
      have:=List.all_eq_true.1 hx ((Zba s).getD k 0) (by rw[List.getD_eq_getElem?_getD,List.getElem?_eq_getElem hi];exact List.getElem_mem hi);rw[h] at this;cases this
    rw[this,Bool.and_false]
   (repeat (refine vV ?_;(try simp only[go_sem,hP,Int.toNat_natCast]);refine vQ ?_))
   by_cases hdg:dgt ((Zba s).getD k 0)=true
   ·rw[hdg] at hts;unfold dgt at hdg;simp only[Bool.and_eq_true,decide_eq_true_eq] at hdg;generalize (Zba s).getD k 0=z at hdg⊢;(refine vC ?_ ?_<;>intro h)
    ·simp at h;omega
    refine vW hw ?_;refine ⟨k+1,⟨by omega,hts⟩,by omega,?_⟩;exact Zaz
   ·have hdg':dgt ((Zba s).getD k 0)=false:=by simpa using hdg
    have hok:=hfail hdg';have hv:ZgG s=0:=by unfold ZgG;rw[hok];rfl
    rw[hok,hv];unfold dgt at hdg';simp only[Bool.and_eq_false_iff,decide_eq_false_iff_not] at hdg';generalize (Zba s).getD k 0=z at hdg'⊢;(refine vC ?_ ?_<;>intro h)
    ·refine vR ?_;(refine vT ?_;try exact trivial)
    ·simp at h;omega
  ·have hkl:k=(Zba s).length:=by
    have:¬(k<(Zba s).length):=by simpa using h
    omega
   subst hkl;rw[List.take_length] at hr;have hok:Zbo s=true:=by unfold Zbo;rw[hb',hr];rfl
   have h10:=ZfR hok;rw[hok];refine vR ?_;(refine Zau (Zrg (by omega) (Zl6 hok)) ?_;simp only[go_sem,hP];refine vQ ?_;refine vR ?_)
   refine vR ?_;refine Zbx ?_;simp only[go_sem,hP];(repeat' (refine And.intro ?_ ?_))
   all_goals (
    refine ZsR (by kernel_rfl) rfl rfl rfl ?_;simp only[go_sem,hP];(try (refine ⟨?_,?_⟩<;>first|trivial|skip))
    all_goals (try ((refine vT ?_;try exact trivial))))
abbrev ZwV:OT:=(.br [(.cons (JSc 13 157 []) (.cons (JFm 14 5) (.cons (JF 15 (.ia 1 (.t 14) (.k (Jz 0)))) (.cons (JFl 16 15) (.cons (JS 17 (.raw (.lookup 233 (.tmp 13) (.tmp 16) true))) (.cons (JSm 12 17) (.cons (JFe 18 12 0) (.cons (JFe 19 12 1) (.cons (JE (Js 2 2 18)) (.cons (JSm 4 19) .nil)))))))))),(.cons (JFm 14 5) (.br [(.cons (JSc 13 157 []) (.cons (JF 15 (.ia 1 (.t 14) (.k (Jz 0)))) (.cons (JFl 16 15) (.cons (JS 17 (.raw (.lookup 233 (.tmp 13) (.tmp 16) true))) (.cons (JSm 12 17) (.cons (JFe 18 12 0) (.cons (JFe 19 12 1) (.cons (JE (Js 2 2 18)) (.cons (JSm 4 19) .nil))))))))),(.cons (JF 15 (.ia 1 (.t 14) (.k (Jz 0)))) (.br [(.cons (JSc 13 157 []) (.cons (JFl 16 15) (.cons (JS 17 (.raw (.lookup 233 (.tmp 13) (.tmp 16) true))) (.cons (JSm 12 17) (.cons (JFe 18 12 0) (.cons (JFe 19 12 1) (.cons (JE (Js 2 2 18)) (.cons (JSm 4 19) .nil)))))))),(.cons (JFl 16 15) (.cons (JSc 13 157 []) (.cons (JS 17 (.raw (.lookup 233 (.tmp 13) (.tmp 16) true))) (.cons (JSm 12 17) (.cons (JFe 18 12 0) (.cons (JFe 19 12 1) (.cons (JE (Js 2 2 18)) (.cons (JSm 4 19) .nil))))))))]))]))])
abbrev Zts:VC:=(.seq (.ops [JSa 36 1 32 34,JSl 37 36,JSm 7 37]) (.seq (.ops [JSm 39 7,JSc 40 158 [.t 39],JSm 38 40,JSe 41 38 0,JSe 42 38 1,JSm 8 41,JSm 9 42]) (.seq (.seq (.ops [JSm 43 9,JS 44 (.un .not (.t 43))]) (.cond (.t 44) (.seq (.ops [JSL 45 2 2,JUs 2 2 45,JS 3 (.mv (.k J0)),JSB 4 false]) .ret) .skip)) (.ops [JSm 46 3,JSm 47 8,JS 48 (.bsl 3 1 [.t 47]),JS 49 (.app 3 1 8 (.t 46) (.t 48)),JSm 3 49]))))
-- K126_1: changed and kept: [34,3]
abbrev Ztt:VC:=(.seq (.seq (.ops [JSm 20 4,JS 21 (.un .not (.t 20)),JSm 22 21,JNm 23 5 22,JNn 24 23 22,JNf 25 0 2 22,JNl 26 25 22,JNk 27 .add 26 1 22,JNb 28 .neq 24 27 22,JSo 29 22 28]) (.cond (.t 29) (.seq (.ops [JSL 30 2 2,JUs 2 2 30,JS 3 (.mv (.k J0)),JSB 4 false]) .ret) .skip)) (.seq (.seq (.ops [JSm 31 5,JS 32 (.slc 1 (.t 31) (some (.k (Jz 1))) none),JSn 33 32,JSi 34 0]) (.block 0 (.loop (.seq (.ops [JSb 35 .lss 34 33]) (.seq (.cond (.t 35) .skip (.exit 0)) (.seq (.block 1 Zts) (.ops [JSk 50 .add 34 1,JSm 34 50]))))))) (.seq (.ops [JSL 51 2 2,JSm 52 3,JUs 2 2 51,JSm 3 52,JSB 4 true]) .ret)))
def Zvg:FC:=⟨1,53,[.cell 2 false 2,.t 3,.t 4],(.seq (.ops [JS 2 (.alloc [Jz 0,(.c (.raw .nilIface))]),JS 3 (.mv (.k J0)),JSB 4 false]) (.seq (.ops [JSm 10 0,JSc 11 156 [.t 10,(.k (.c (.str [32])))],JSm 5 11]) (.seq (.drw ZwV) Ztt)))⟩
theorem ZAE:Zao Tryz.prog [13] 126=some Zvg:=by kernel_rfl
structure Wd where
 many:Int
 t:Nat
 f:Nat
 cap:Option Nat
def Wd.caps (e:Wd) (q:Nat→Nat):List Value:=match e.cap with|none=>[]|some i=>[Zd6 (q i) 0]
def Wd.v (e:Wd) (q:Nat→Nat):Value:=.iface e.t (fnV e.f (e.caps q))
def Zi0:List (List UInt8×Wd):=[
 ([99,111,105,110],⟨1,206,176,none⟩),
 ([109,97,114,107],⟨1,206,178,none⟩),
 ([115,108,117,103],⟨1,206,179,none⟩),
 ([112,114,101,115,115],⟨2,206,180,none⟩),
 ([108,111,115,101],⟨1,206,181,none⟩),
 ([115,107,105,112,115],⟨1,206,182,none⟩),
 ([101,109,112,116,121],⟨0,206,183,none⟩),
 ([115,116,97,110,100],⟨0,204,184,none⟩),
 ([103,105,118,101,115],⟨1,204,185,none⟩),
 ([99,104,101,97,112,101,115,116],⟨1,204,186,none⟩),
 ([119,97,105,116],⟨1,204,187,none⟩),
 ([108,111,110,103,101,115,116],⟨0,204,217,some 0⟩),
 ([101,110,100],⟨0,204,217,some 1⟩),
 ([97,116],⟨1,204,189,none⟩),
 ([108,97,116,101,115,116],⟨2,204,190,none⟩),
 ([115,111,111,110,101,115,116],⟨0,204,217,some 2⟩),
 ([99,97,115,104],⟨0,204,192,none⟩),
 ([99,97,110],⟨0,204,219,some 3⟩),
 ([109,105,115,115,105,110,103],⟨0,204,220,some 4⟩),
 ([119,104,105,99,104],⟨0,204,219,some 5⟩),
 ([115,107,105,112,112,101,100],⟨0,204,220,some 6⟩),
 ([115,104,111,114,116],⟨0,204,220,some 7⟩)]
def ZbX (k:List UInt8):Option Wd:=(Zi0.find? fun p=>p.1==k).map (·.2)
theorem Zoe (q:Nat→Nat):Zt7 q=Zi0.map fun p=>(p.1,.agg #[.int .i64 p.2.many,p.2.v q]):=rfl
theorem ZiO (g:Wd→Value) (k:List UInt8):∀l:List (List UInt8×Wd),Zd8 (l.map fun p=>(p.1,g p.2)) k=((l.find? fun p=>p.1==k).map (·.2)).map g
 |[]=>rfl
 |p::l=>by
  have ih:=ZiO g k l;unfold Zd8 at ih⊢;simp only[List.map_cons,List.find?_cons];cases h:(p.1==k) with
  |true=>rfl
  |false=>exact ih
theorem ZnV (q:Nat→Nat) (k:List UInt8):Zd8 (Zt7 q) k=(ZbX k).map fun e=> .agg #[.int .i64 e.many,e.v q]:=by
 rw[Zoe];exact ZiO (fun e=> .agg #[.int .i64 e.many,e.v q]) k Zi0
def wM (k:List UInt8):Int:=match ZbX k with|some e=>e.many|none=>0
def wV (q:Nat→Nat) (k:List UInt8):Value:=match ZbX k with|some e=>e.v q|none=> .nilIface
theorem ZxN (q:Nat→Nat) (k:List UInt8):(wV q k).oneCell'=true:=by unfold wV;split<;>rfl
theorem ZBs (q:Nat→Nat) (k:List UInt8) (w:World) (M:Cells) (loc:Nat→Value):RepA w M loc (.agg [iv (wM k),.c (.raw (wV q k))]) ((Zd8 (Zt7 q) k).getD (.agg #[.int .i64 0,.nilIface])):=by
 have h1:=ZxN q k;rw[ZnV];simp only[RepA,RepAs,RepC];refine ⟨[.int .i64 (wM k),wV q k],?_,_,_,rfl,rfl,_,_,rfl,⟨rfl,h1⟩,rfl⟩;unfold wM wV;cases ZbX k<;>rfl
def ZBq (q:Nat→Nat):List Ob:=[vbox (fnV 26 []) (q 0),vbox (fnV 27 []) (q 1),vbox (fnV 191 []) (q 2),vbox (fnV 31 []) (q 3),vbox (fnV 32 []) (q 4),vbox (fnV 33 []) (q 5),vbox (fnV 34 []) (q 6),vbox (fnV 35 []) (q 7)]
theorem Zp0 (q:Nat→Nat):∀p∈Zt7 q,p.1.length≤maxLen:=by
 intro p hp;rw[Zoe] at hp;obtain ⟨x,hx,rfl⟩:=List.mem_map.1 hp;have h:(Zi0.all fun p=>decide (p.1.length≤100))=true:=rfl;have:=of_decide_eq_true (List.all_eq_true.1 h x hx);exact Nat.le_trans this (by decide)
theorem ZgR (sep:List UInt8):∀(k:Nat) (s w:List UInt8),w∈Lib.splitK sep 0 k s→w.length≤s.length
 |0,s,w,h=>by simp only[Lib.splitK,List.mem_singleton] at h;rw[h];exact Nat.le_refl _
 |k+1,s,w,h=>by
  unfold Lib.splitK at h;split at h
  ·simp only[List.mem_singleton] at h;rw[h];exact Nat.le_refl _
  ·rcases List.mem_cons.1 h with h|h
   ·rw[h,List.length_take];omega
   ·have:=ZgR sep k _ w h;rw[List.length_drop] at this;omega
theorem Zg8 {s w:List UInt8} (h:w∈ZeG s):w.length≤s.length:=ZgR _ _ _ _ h
theorem ZjY (s:List UInt8):∃w args,ZeG s=w::args:=by
 unfold ZeG Lib.split;cases Lib.count s [32] with
 |zero=>exact ⟨_,_,rfl⟩
 |succ k=>
  unfold Lib.splitK;split
  ·exact ⟨_,_,rfl⟩
  ·exact ⟨_,_,rfl⟩
theorem Zy9 (w:List UInt8):0≤wM w∧wM w≤2:=by
 unfold wM ZbX;cases h:Zi0.find? fun p=>p.1==w with
 |none=>simp
 |some p=>
  have h2:(Zi0.all fun p=>decide (0≤p.2.many)&&decide (p.2.many≤2))=true:=rfl;have:=List.all_eq_true.1 h2 p (List.mem_of_find?_eq_some h);simpa using this
def Zoj (q:Nat→Nat) (o:Nat→Ob):Nat→Ob:=upd (upd (upd (upd (upd (upd (upd (upd o 101 (vbox (fnV 26 []) (q 0))) 102 (vbox (fnV 27 []) (q 1))) 103 (vbox (fnV 191 []) (q 2))) 104 (vbox (fnV 31 []) (q 3))) 105 (vbox (fnV 32 []) (q 4))) 106 (vbox (fnV 33 []) (q 5))) 107 (vbox (fnV 34 []) (q 6))) 108 (vbox (fnV 35 []) (q 7))
theorem ZhD {l:List (List UInt8)} {k:Nat} {d:List CD} (h:k<l.length):(l.map fun x=>[CD.str x]).getD k d=[CD.str (l.getD k [])]:=by
 rw[List.getD_eq_getElem?_getD,List.getElem?_map,List.getElem?_eq_getElem h,List.getD_eq_getElem?_getD,List.getElem?_eq_getElem h];rfl
def Za4 (s:List UInt8):Option (List UInt8×List Int):=match ZeG s with
 |[]=>none
 |w::args=>match ZbX w with
  |none=>none
  |some e=>if (args.length:Int)=e.many∧args.all Zbo=true then some (w,args.map ZgG) else none
def ZbJ (s:List UInt8) (r:AV) (os:List Ob):Prop:=match Za4 s with
 |some (w,ns)=>∃(q:Nat→Nat) (e:Wd),ZbX w=some e∧r= .tup [.agg [iv e.many,.c (.raw (e.v q))],.c (Zaj ns),.c (.bool true)]∧os=ZBq q
 |none=>∃(m:Int) (v:Value),r= .tup [.agg [iv m,.c (.raw v)],.c (.raw (.slice none 0 0)),.c (.bool false)]∧os=[]
theorem Zds {s w:List UInt8} {args:List (List UInt8)} (hc:ZeG s=w::args) (h:ZbX w=none∨(args.length:Int)≠wM w∨args.all Zbo=false):Za4 s=none:=by
 unfold Za4;rw[hc];simp only;unfold wM at h;cases hw:ZbX w with
 |none=>rfl
 |some e=>
  rw[hw] at h;simp only at h⊢;rw[if_neg];rintro ⟨h1,h2⟩;rcases h with h|h|h
  ·cases h
  ·exact h h1
  ·rw[h2] at h;cases h
set_option maxRecDepth 100000 in
theorem parse53 {s:List UInt8} (hs:s.length≤1000):Za3 Tryz.prog 126 [.c (.str s)] (ZbJ s):=by
 obtain ⟨w,args,hc⟩:=ZjY s;have hm:maxLen=9223372036854775807:=rfl;have hwl:w.length≤maxLen:=by have:=Zg8 (s:=s) (w:=w) (by rw[hc];exact List.mem_cons_self ..);omega
 have hsp:=Zs3 (s:=s) (by omega);rw[hc] at hsp;refine ZaK ZAE (Nat.le_refl _) (by decide) fun C hP hN hC hL=> ?_;rw[Zad]
 simp only[Zvg];refine vR ?_;(refine Zau (hsp) ?_;simp only[go_sem,hP,ZaY];refine vQ ?_;(repeat (refine vV ?_;(try simp only[go_sem,hP,ZaY]);refine vQ ?_)))
 refine Zdx (fun σ'=>∃q:Nat→Nat,Sub σ' ⟨upd (upd (upd (upd e0 2 (.bp 2 0)) 3 (.c (.raw (.slice none 0 0)))) 4 (.c (.bool (ZbX w).isSome))) 5 (.c (ZaY (w::args))),upd (Zoj q o0) 2 (.box [iv (wM w),.c (.raw (wV q w))])⟩) ?_ ?_
 ·refine Zbx ?_;simp only[go_sem,hP];(repeat' (refine And.intro ?_ ?_))
  all_goals (first|exact Int.le_refl 0|exact Nat.one_pos|exact Int.natCast_pos.2 (Nat.succ_pos _)|skip)
  all_goals (
   refine ZaR words67 rfl rfl rfl rfl ?_;rintro r os ⟨b,q,rfl,rfl⟩;refine ⟨[100,101,102,103,104,105,106,107,108],_,_,by simp,rfl,rfl,rfl,rfl,?_⟩;simp only[go_sem,hP,Zab];(repeat' (refine And.intro ?_ ?_))
   all_goals (first|exact Int.le_refl 0|exact Nat.one_pos|exact Int.natCast_pos.2 (Nat.succ_pos _)|skip)
   refine ZpG (n:=100) (k:=9) (e:=200) (key:=w) (l:=Zt7 q) (z:=.agg #[.int .i64 0,.nilIface]) (vr:=.agg [iv (wM w),.c (.raw (wV q w))]) (by kernel_rfl) (by kernel_rfl) (by kernel_rfl) rfl rfl rfl rfl rfl rfl rfl hwl (Zp0 q) (ZBs q w) ?_;rw[ZnV,Option.isSome_map];simp only[go_sem,hP];refine ⟨q,Zai ?_ ?_⟩
   ·unfold ZaY;simp only[go_sem];exact Zam
   ·unfold Zoj;simp only[go_sem];exact Zaa)
 ·rintro σ' ⟨q,hsub⟩;refine ZaL hsub ?_;unfold Zoj;have hM:=Zy9 w;have hw1:=w64 (n:=wM w+1) (by omega) (by omega);(repeat (refine vV ?_;(try simp only[go_sem,hP,ZaY,List.length_map,hw1]);refine vQ ?_))
  refine ZaL (σ':=⟨upd (upd (upd (upd e0 2 (.bp 2 0)) 3 (.c (.raw (.slice none 0 0)))) 5 (.c (ZaY (w::args)))) 29 (.c (.bool (!(ZbX w).isSome||(((args.length+1:Nat):Int) !=wM w+1)))),upd (Zoj q o0) 2 (.box [iv (wM w),.c (.raw (wV q w))])⟩) (Zai (by unfold ZaY;simp only[go_sem];exact Zam) (by unfold Zoj;simp only[go_sem];exact Zaa)) ?_;by_cases hbad:ZbX w=none∨(args.length:Int)≠wM w
  ·have hpn:Za4 s=none:=Zds hc (hbad.imp id .inl);have hv:(!(ZbX w).isSome||(((args.length+1:Nat):Int) !=wM w+1))=true:=by
    rcases hbad with h|h
    ·rw[h];rfl
    ·simp only[Bool.or_eq_true,bne_iff_ne,ne_eq];right;omega
   rw[hv];(refine vC ?_ ?_<;>intro h)
   ·refine vR ?_;(refine Zak ?_;simp only[Zaq,inQ,Zbe,ZaP,Zae,ZaI];simp only[go_sem,ZaH])
    refine ⟨[],_,_,_,by simp,by simp,rfl,AVle.refl _,rfl,?_⟩;unfold ZbJ;rw[hpn];exact ⟨_,_,rfl,rfl⟩
   ·cases h
  ·obtain ⟨hn1,hn2⟩:=not_or.1 hbad;have hn2:(args.length:Int)=wM w:=by omega
   obtain ⟨e,he⟩:=Option.ne_none_iff_exists'.1 hn1;have hv:(!(ZbX w).isSome||(((args.length+1:Nat):Int) !=wM w+1))=false:=by
    rw[he,←hn2];simp
   rw[hv];(refine vC ?_ ?_<;>intro h)
   ·cases h
   ·(repeat (refine vV ?_;(try simp only[go_sem,hP,ZaY,List.length_map,List.map_cons]);refine vQ ?_))
    have hdr:List.drop (Int.toNat 1) (List.take (((args.length+1:Nat):Int)).toNat ([CD.str w]::args.map fun x=>[CD.str x]))=args.map fun x=>[CD.str x]:=by
     rw[Int.toNat_natCast,List.take_succ_cons,show Int.toNat 1=1 from rfl,List.drop_succ_cons,List.drop_zero,List.take_of_length_le (by simp)]
    rw[hdr,List.length_map];refine ZaL (σ':=⟨upd (upd (upd (upd (upd e0 2 (.bp 2 0)) 3 (.c (.raw (.slice none 0 0)))) 32 (.c (ZaY args))) 33 (iv args.length)) 34 (iv 0),upd (Zoj q o0) 2 (.box [iv (wM w),.c (.raw (wV q w))])⟩) (Zai (by unfold ZaY;simp only[go_sem];exact Zam) (by simp only[go_sem];exact Zaa)) ?_;refine Zby 3 49 3 1 (by decide) (by decide) rfl rfl ?_;unfold Zoj;simp only[go_sem];refine ZaQ (fun k:Nat=>⟨upd (upd (upd (upd (upd e0 2 (.bp 2 0)) 32 (.c (ZaY args))) 33 (iv args.length)) 34 (iv k)) 3 (.gr 49),upd (upd (Zoj q o0) 2 (.box [iv (wM w),.c (.raw (wV q w))])) 49 (.grow 3 1 (((args.take k).map ZgG).map fun n=>[CD.int .i64 n]))⟩) (fun k=>k≤args.length∧(args.take k).all Zbo=true) (fun k=>args.length -k) 0 ⟨Nat.zero_le _,rfl⟩ ?_ ?_
    ·refine Zai (by simp only[go_sem];exact Zam) (by unfold Zoj;simp only[List.take_zero,List.map_nil];simp only[go_sem];exact Zaa)
    rintro k ⟨hk,hr⟩;unfold Zoj;refine vR ?_;(refine vC ?_ ?_<;>intro h)
    ·have hi:k<args.length:=by simpa using h
     have hwk:=w64 (n:=(k:Int)+1) (by omega) (by omega);have hg:=ZhD (l:=args) (k:=k) (d:=[]) hi;have hxm:args.getD k []∈args:=by rw[List.getD_eq_getElem?_getD,List.getElem?_eq_getElem hi];exact List.getElem_mem hi
     have hxl:(args.getD k []).length≤1000:=by have:=Zg8 (s:=s) (w:=args.getD k []) (by rw[hc];exact List.mem_cons_of_mem _ hxm);omega
     have htk:args.take (k+1)=args.take k++[args.getD k []]:=by rw[List.take_succ_eq_append_getElem hi,List.getD_eq_getElem?_getD,List.getElem?_eq_getElem hi];rfl
     have htl:(args.take k).length=k:=by rw[List.length_take];omega
     generalize args.getD k []=x at hg hxm hxl htk;(repeat (refine vV ?_;(try simp only[go_sem,hP,ZaY,hg,List.length_map,Int.toNat_natCast]);refine vQ ?_))
     (refine Zau (Zpo hxl) ?_;simp only[go_sem,hP,hwk,htl,List.length_map];refine vQ ?_;(repeat (refine vV ?_;(try simp only[go_sem,hP,hwk,htl,List.length_map]);refine vQ ?_)))
     by_cases hok:Zbo x=true
     ·(refine vC ?_ ?_<;>intro h)
      ·rw[hok] at h;cases h
      ·(repeat (refine vV ?_;(try simp only[go_sem,hP,hwk,htl,List.length_map]);refine vQ ?_))
       refine ⟨k+1,⟨by omega,by rw[htk,List.all_append,hr];simp[hok]⟩,by omega,?_⟩;rw[htk,List.map_append,List.map_append];refine Zai (by simp only[go_sem];exact Zam) (by simp only[go_sem];exact Zaa)
     ·have hok:Zbo x=false:=by simpa using hok
      have hall:args.all Zbo=false:=by
       cases hx:args.all Zbo with
       |false=>rfl
       |true=>have:=List.all_eq_true.1 hx x hxm;rw[hok] at this;cases this
      have hpn:Za4 s=none:=Zds hc (.inr (.inr hall));(refine vC ?_ ?_<;>intro h)
      ·refine vR ?_;(refine Zak ?_;simp only[Zaq,inQ,Zbe,ZaP,Zae,ZaI];simp only[go_sem,ZaH])
       refine ⟨[],_,_,_,by simp,by simp,rfl,AVle.refl _,rfl,?_⟩;unfold ZbJ;rw[hpn];exact ⟨_,_,rfl,rfl⟩
      ·rw[hok] at h;simp at h
    ·have hkl:k=args.length:=by
      have:¬(k<args.length):=by simpa using h
      omega
     subst hkl;rw[List.take_length] at hr;have hps:Za4 s=some (w,args.map ZgG):=by
      unfold Za4;rw[hc];simp only;rw[he];simp only;rw[if_pos ⟨by rw[hn2];unfold wM;rw[he],hr⟩]
     (repeat (refine vV ?_;(try simp only[go_sem,hP,List.take_length]);refine vQ ?_))
     (refine Zak ?_;simp only[Zaq,inQ,Zbe,ZaP,Zae,ZaI];simp only[go_sem,ZaH,List.take_length])
     refine ⟨[101,102,103,104,105,106,107,108],_,_,_,by simp,by simp,rfl,AVle.refl _,rfl,?_⟩;unfold ZbJ;rw[hps];refine ⟨q,e,he,?_,rfl⟩;have hm1:wM w=e.many:=by unfold wM;rw[he]
     have hv1:wV q w=e.v q:=by unfold wV;rw[he]
     rw[hm1,hv1];rfl
end Go.Proofs.YtcggfogkfhlmlaaGreatDoor
namespace Go.Proofs.YtcggfogkfhlmlaaGreatDoor
open Go Go.V Go.RowKit Go.Shelf
variable {tb:Obj}
def ZsW:Ren:=⟨fun|171=>159|243=>197|246=>224|283=>247|284=>248|285=>249|286=>250|129=>212|317=>264|318=>265|319=>266|320=>267|337=>272|338=>273|n=>n,
 fun|171=>300|53=>272|37=>100|173=>302|212=>316|51=>270|213=>317|46=>245|232=>328|233=>329|n=>n,
 fun|17=>3|18=>6|19=>7|n=>n⟩
def ZnH:Ren:=⟨fun|156=>160|165=>198|166=>199|169=>200|240=>225|241=>226|276=>251|277=>252|n=>n,
 fun|31=>35|72=>260|76=>256|70=>258|37=>100|75=>255|127=>281|164=>304|80=>261|n=>n,
 fun x=>x⟩
theorem ZmO:LaysM.n171 Tryz.prog ZsW:=by
 constructor<;>first|kernel_rfl|(intro w;kernel_rfl)|(constructor<;>first|kernel_rfl|(intro w;kernel_rfl))
theorem Zjv:Lays.n156 Tryz.prog ZnH:=by
 constructor<;>first|kernel_rfl|(intro w;kernel_rfl)
def ZBp (tb:Obj) (rem:List Ent) (L:List Nat) (_:Nat→Nat→Prop) (w:World):Prop:=
 rem=[]∧L=[3]∧w.heap[3]? =some tb∧∃ty fr,tb= .cells (Lib.pow10Tab.map (Value.int .u64)).toArray ty fr
def ZAf (tb:Obj):Gst:=⟨.bool false,ZBp tb⟩
def tabO (tb:Obj):Ob:=.guest (ZAf tb) []
theorem Zta (P:Program) (tb:Obj):(ZAf tb).Ok P:=by
 refine ⟨rfl,?_,?_⟩
 ·rintro rem L M w M' w' ⟨h1,h2,h3⟩ hk hb hs;exact ⟨h1,h2,by rw[hb 3 (by rw[h2];simp)];exact h3⟩
 ·rintro args wins r rem L M w loc vs ⟨h1,_⟩;cases h1
attribute [go_sem] tabO
theorem ZvQ {n:Int} (h0:-9223372036854775808≤n) (h1:n≤9223372036854775807):ZaE Tryz.prog 159 [iv n] [(tabO tb)] [] (fun r l'=>r= .c (.str (Lib.itoa n))∧l'=[(tabO tb)]):=by
 refine Zfg (Zcg ZmO.f171 (by kernel_rfl) (by kernel_rfl)) (Nat.le_of_ble_eq_true rfl) fun w M loc vs hLO hrep=> ?_
 have h2:ObOk Tryz.prog (fun _=>True) w (AddM M _ loc) loc (loc 1000) (tabO tb):=hLO.objs 1000;obtain ⟨_,L,_,⟨_,_,hb,ty,fr,rfl⟩,_⟩:=h2;simp only[RepAs,RepA,RepC] at hrep;obtain ⟨_,_,rfl,rfl,rfl⟩:=hrep;have htab:Lib.TabIs Tryz.prog w "internal/strconv.uint64pow10" .u64 Lib.pow10Tab:=by
  unfold Lib.TabIs World.var?;rw [show Tryz.prog.globalNamed "internal/strconv.uint64pow10" = some 3 by kernel_rfl];simp[hb]
 refine (show Calls Tryz.prog 159 _ w _ from Any.strconv_Itoa ZmO n h0 h1 w htab).mono ?_;rintro e w' ⟨rfl,k,os,rfl⟩;exact ⟨_,_,rfl,rfl,Lib.below_grow _ _ (Nat.le_refl _) _ _,fun M' _=>by simp only[RepA,RepC]⟩
end Go.Proofs.YtcggfogkfhlmlaaGreatDoor
namespace Go.Proofs.YtcggfogkfhlmlaaGreatDoor
open Go Go.V Go.RowKit Go.Shelf
theorem Zz9:Builder.Extra Tryz.prog ZnH:=by
 constructor<;>first|kernel_rfl|(intro w;kernel_rfl)|decide|(constructor<;>first|kernel_rfl|(intro w;kernel_rfl))
theorem ZeO {w:World} {M:Cells} {loc:Nat→Value}:∀(l:List (List UInt8)) (vs:List Value),RepAs w M loc (l.map fun s=> .c (.str s)) vs→vs=l.map sv
 |[],vs,h=>by simpa [RepAs] using h
 |s::l,vs,h=>by
  simp only[List.map_cons,RepAs,RepA,RepC] at h;obtain ⟨v,vs',rfl,rfl,h⟩:=h;rw[ZeO l vs' h];rfl
theorem ZvR {xs:List (List UInt8)} (hN:xs.length≤1000000) (hlen:(Lib.join xs [32]).length≤140737488355328):FSpec Tryz.prog 160 [.c (ZaY xs),.c (.str [32])] (.c (.str (Lib.join xs [32]))):=by
 refine ⟨Zcg Zjv.f156 (by kernel_rfl) (by kernel_rfl),fun w M vs hM hr=> ?_⟩;simp only[RepAs,RepA,RepC,ZaY] at hr;obtain ⟨_,_,rfl,⟨A,cap,rfl,hcap,hmax,hA⟩,_,_,rfl,rfl,rfl⟩:=hr;rw[List.length_map] at hcap⊢;cases hx:xs with
 |nil=>
  refine (show Calls Tryz.prog 160 _ w _ from Any.strings_Join_none Zjv Zz9 A cap ⟨#[32]⟩ w).mono ?_;rintro e w' ⟨rfl,rfl⟩;exact ⟨_,rfl,by simp only[RepA,RepC];rfl,Below.refl _ _⟩
 |cons x0 r=>
  rw[←hx];rcases hA with h|⟨ad,rfl,hE⟩
  ·rw[hx] at h;cases h
  obtain ⟨l,k1,k2,k3,k4⟩:=RepE.vals (loc:=fun _=>undef) _ _ hE;rw[ZfD] at k3;have hl:=ZeO _ _ k3;subst hl;have h0:=k2 0 (sv x0) (by rw[hx];rfl);have hsp:ad.spot=none:=by
   unfold World.cell? at h0;split at h0
   ·split at h0
    ·cases h0
    ·rename_i h;cases hs:(ad.add 0).spot with
     |none=>exact hs
     |some q=>rw[hs] at h;exact absurd rfl h
   ·cases h0
  obtain ⟨bk,o,sp⟩:=ad;simp only at hsp;subst hsp;have hm:(xs.map fun s=>(⟨s.toArray⟩:ByteArray)).map (·.data.toList)=xs:=by
   rw[List.map_map];exact (List.map_congr_left fun s _=>rfl).trans (List.map_id xs)
  have c:=Any.strings_Join Zjv Zz9 bk o cap (xs.map fun s => (⟨s.toArray⟩ : ByteArray)) ⟨#[32]⟩ w (fun j x hj => by
   rw[List.getElem?_map] at hj;cases hxj:xs[j]? with
   |none=>rw[hxj] at hj;cases hj
   |some s=>
    rw[hxj] at hj;simp only[Option.map_some,Option.some.injEq] at hj;subst hj;have:=k2 j (sv s) (by rw[List.getElem?_map,hxj];rfl);rw[Zgq] at this;exact this) (Zbg (p:=⟨bk,o,none⟩) (by rw[show w.cell? ⟨bk,o,none⟩=some (sv x0) from h0];rfl)) (by rw[List.length_map];omega) (by rw[List.length_map];exact hcap) (by rw[hm];exact hlen)
  rw[hm,List.length_map] at c;refine (show Calls Tryz.prog 160 _ w _ from c).mono ?_;rintro e w' ⟨rfl,hb⟩;exact ⟨_,rfl,by simp only[RepA,RepC],hb⟩
end Go.Proofs.YtcggfogkfhlmlaaGreatDoor
namespace Go.Proofs.YtcggfogkfhlmlaaGreatDoor
open Go Go.V Go.RowKit
variable {tb:Obj}
abbrev Ztu:VC:=(.seq (.ops [JSm 9 1,JSk 10 .eql 9 3,JSm 11 10,JNm 12 1 11,JNk 13 .eql 12 0 11,JNm 14 13 11,JTm 15 0 14,JTn 16 15 14,JTk 17 .eql 16 0 14,JNp 18 14 17 11,JSo 19 11 18,JSm 8 19]) (.cond (.t 8) (.seq (.ops [JS 4 (.mv (.k (.c (.str [110,111,110,101]))))]) .ret) (.seq (.ops [JSm 21 1,JSk 22 .neq 21 0,JSm 20 22]) (.cond (.t 20) (.seq (.ops [JS 4 (.mv (.k (.c (.str [110,111]))))]) .ret) .skip))))
-- K127_1: changed and kept: [25,5]
abbrev Ztv:VC:=(.seq (.seq (.ops [JSm 23 0,JSn 24 23,JSi 25 0]) (.block 1 (.loop (.seq (.ops [JSb 26 .lss 25 24]) (.seq (.cond (.t 26) .skip (.exit 1)) (.seq (.block 2 (.seq (.ops [JSa 27 1 23 25,JSl 28 27,JSm 7 28]) (.ops [JSm 29 5,JSm 30 7,JSc 31 159 [.t 30],JS 32 (.bsl 9 1 [.t 31]),JS 33 (.app 9 1 16 (.t 29) (.t 32)),JSm 5 33]))) (.ops [JSk 34 .add 25 1,JSm 25 34]))))))) (.seq (.ops [JSm 35 5,JSc 36 160 [.t 35,(.k (.c (.str [32])))],JSm 4 36]) .ret))
def Zvh:FC:=⟨2,37,[.t 4],(.seq (.ops [JS 4 (.mv (.k (.c (.str []))))]) (.seq (.block 0 Ztu) (.seq (.ops [JS 5 (.mv (.k J0))]) Ztv)))⟩
theorem ZAF:Zao Tryz.prog [] 127=some Zvh:=by kernel_rfl
attribute [local go_sem] Nat.reduceEqDiff Nat.reduceAdd Nat.reduceMul reduceIte Nat.reduceLeDiff Nat.reduceLT Nat.reduceBEq reduceCtorEq
def ZhF:List UInt8:=[121,101,115]
def noS:List UInt8:=[110,111]
def ZvZ:List UInt8:=[110,111,110,101]
def ZtX:List UInt8:=[119,104,97,116]
def Zi9 (l:List Int) (e:Int):List UInt8:=if e=3∨(e=0∧l=[]) then ZvZ else if e≠0 then noS else Lib.join (l.map Lib.itoa) [32]
def i64 (n:Int):Prop:=-9223372036854775808≤n∧n≤9223372036854775807
theorem Zld:∀(l:List Int),(∀n∈l,i64 n)→(Lib.join (l.map Lib.itoa) [32]).length≤22*l.length
 |[],_=>by simp[Lib.join_nil]
 |n::l,h=>by
  rw[List.map_cons,Lib.join_length];have hl:∀l:List Int,(∀n∈l,i64 n)→Lib.lens (l.map Lib.itoa)≤21*l.length:=by
   intro l h;induction l with
   |nil=>simp[Lib.lens]
   |cons n l ih=>
    have h1:=Lib.itoa_length_le n (h n (by simp)).1 (h n (by simp)).2;have h2:=ih fun m hm=>h m (by simp[hm])
    simp only[Lib.lens,List.map_cons,List.sum_cons,List.length_cons] at h2⊢;omega
  have:=hl (n::l) h;simp only[List.map_cons,List.length_cons,List.length_nil,List.length_map] at this⊢;omega
theorem ZjR {l:List Int} (hl:l.length≤10000) (hr:∀n∈l,i64 n) (e:Int):ZaE Tryz.prog 127 [.c (Zaj l),iv e] [(tabO tb)] [] (fun r l'=>r= .c (.str (Zi9 l e))∧l'=[(tabO tb)]):=by
 have hm:maxLen=9223372036854775807:=rfl;refine Zat ZAF (by first|simp|exact Nat.le_of_ble_eq_true rfl) (Nat.le_refl _) (by decide) (by decide) fun C hP hN hC hL=> ?_;rw[Zap,Zaw (by first|simp|exact Nat.le_of_ble_eq_true rfl)];simp only[Zvh,Zco,Za1,List.map_nil,List.map_cons,Nat.reduceAdd,]
 refine vR0 ?_;refine ZaL (σ':=⟨upd (upd (upd (upd e0 0 (.c (Zaj l))) 1 (iv e)) 4 (.c (.str []))) 8 (.c (.bool (e==3||e==0&&(l.length:Int)==0))),upd o0 1000 (tabO tb)⟩) (Zai (by unfold Zaj;simp only[go_sem];exact Zam) (by simp only[go_sem];exact Zaa)) ?_;by_cases h1:e=3∨(e=0∧l=[])
 ·have ha:Zi9 l e=ZvZ:=if_pos h1;have hv:(e==3||e==0&&(l.length:Int)==0)=true:=by
   rcases h1 with h|⟨h,h'⟩
   ·rw[h];rfl
   ·rw[h,h'];rfl
  rw[ha,hv];(refine vC ?_ ?_<;>intro h)
  ·refine vR ?_;(refine Zak ?_;simp only[Zaq,inQ,ZaB,Zar,Zae,ZaI];simp only[go_sem,ZaH,AV.keepP,AV.keepPL];refine ⟨_,[(tabO tb)],rfl,Zag rfl rfl ?_ ?_ rfl,?_⟩)
   ·simp only[go_sem,Zal,Ob.keepP,AV.keepP,AV.keepPL]
   ·trivial
   ·exact ⟨rfl,rfl⟩
  ·cases h
 ·have hv:(e==3||e==0&&(l.length:Int)==0)=false:=by
   cases hx:(e==3||e==0&&(l.length:Int)==0) with
   |false=>rfl
   |true=>simp at hx;exact absurd hx h1
  rw[hv];(refine vC ?_ ?_<;>intro h)
  ·cases h
  ·refine vR ?_;by_cases h2:e=0
   ·have ha:Zi9 l e=Lib.join (l.map Lib.itoa) [32]:=by unfold Zi9;rw[if_neg h1,if_neg (by simpa using h2)]
    rw[ha];(refine vC ?_ ?_<;>intro h)
    ·rw[h2] at h;simp at h
    ·refine vR0 ?_;refine Zby 5 33 9 1 (by decide) (by decide) rfl rfl ?_;simp only[go_sem];refine ZaQ (fun k:Nat=>⟨upd (upd (upd (upd (upd e0 4 (.c (.str []))) 23 (.c (Zaj l))) 24 (iv l.length)) 25 (iv k)) 5 (.gr 33),upd (upd o0 1000 (tabO tb)) 33 (.grow 9 1 (((l.take k).map Lib.itoa).map fun x=>[CD.str x]))⟩) (fun k=>k≤l.length) (fun k=>l.length -k) 0 (Nat.zero_le _) ?_ ?_
     ·refine Zai (by unfold Zaj;simp only[go_sem];exact Zam) (by simp only[List.take_zero,List.map_nil];simp only[go_sem];exact Zaa)
     intro k hk;refine vR0 ?_;(refine vC ?_ ?_<;>intro h)
     ·have hi:k<l.length:=by simpa using h
      have hwk:=w64 (n:=(k:Int)+1) (by omega) (by omega);have hg:=ZaD (l:=l) (i:=k) hi;have htk:l.take (k+1)=l.take k++[l.getD k 0]:=by rw[List.take_succ_eq_append_getElem hi,List.getD_eq_getElem?_getD,List.getElem?_eq_getElem hi];rfl
      have htl:(l.take k).length=k:=by rw[List.length_take];omega
      have hxr:=hr (l.getD k 0) (by rw[List.getD_eq_getElem?_getD,List.getElem?_eq_getElem hi];exact List.getElem_mem hi);generalize l.getD k 0=x at hg hxr htk;(repeat (refine vV ?_;(try simp only[go_sem,hP,hg,List.length_map,Int.toNat_natCast]);refine vQ ?_))
      refine Zas [1000] (ZvQ hxr.1 hxr.2) rfl rfl rfl (by decide) rfl rfl ?_;rintro r l' ⟨rfl,rfl⟩;refine ⟨_,_,rfl,rfl,?_⟩;simp only[go_sem,hP,Zab,htl,List.length_map];refine vQ ?_;(repeat (refine vV ?_;(try simp only[go_sem,hP,hwk,htl,List.length_map]);refine vQ ?_))
      refine ⟨k+1,by omega,by omega,?_⟩;rw[htk,List.map_append,List.map_append];refine Zai (by simp only[go_sem];exact Zam) (by simp only[go_sem];exact Zaa)
     ·have hkl:k=l.length:=by
       have:¬(k<l.length):=by simpa using h
       omega
      subst hkl;have hb:=Zld l hr;refine vR ?_;rw[List.take_length];(refine Zau (ZvR (xs:=l.map Lib.itoa) (by rw[List.length_map];omega) (by omega)) ?_;simp only[go_sem,hP];refine vQ ?_;refine vR ?_)
      refine vR ?_;(refine Zak ?_;simp only[Zaq,inQ,ZaB,Zar,Zae,ZaI];simp only[go_sem,ZaH,AV.keepP,AV.keepPL];refine ⟨_,[(tabO tb)],rfl,Zag rfl rfl ?_ ?_ rfl,?_⟩)
      ·simp only[go_sem,Zal,Ob.keepP,AV.keepP,AV.keepPL]
      ·trivial
      ·exact ⟨rfl,rfl⟩
   ·have ha:Zi9 l e=noS:=by unfold Zi9;rw[if_neg h1,if_pos h2]
    rw[ha];(refine vC ?_ ?_<;>intro h)
    ·refine vR ?_;(refine Zak ?_;simp only[Zaq,inQ,ZaB,Zar,Zae,ZaI];simp only[go_sem,ZaH,AV.keepP,AV.keepPL];refine ⟨_,[(tabO tb)],rfl,Zag rfl rfl ?_ ?_ rfl,?_⟩)
     ·simp only[go_sem,Zal,Ob.keepP,AV.keepP,AV.keepPL]
     ·trivial
     ·exact ⟨rfl,rfl⟩
    ·simp at h;exact absurd h h2
abbrev ZyD:List Ins:=[JSf 4 0 1,JSL 5 3 4,JSc 6 100 [.t 5],JSk 7 .neq 6 0,JSm 8 7,JNf 9 0 1 8,JNL 10 3 9 8,JNf 11 3 1 8,JNl 12 11 8,JNc 13 101 [.t 10,.t 12] 8,JG 14 (.un .not (.t 13)) 8 false,JSo 15 8 14,JSm 16 15,JNf 17 0 1 16,JNL 18 3 17 16,JNf 19 5 1 16,JNl 20 19 16,JNc 21 101 [.t 18,.t 20] 16,JG 22 (.un .not (.t 21)) 16 false,JSo 23 16 22,JSm 24 23,JNf 25 4 1 24,JNl 26 25 24,JNn 27 26 24,JNf 28 3 1 24,JNl 29 28 24,JNn 30 29 24,JNb 31 .neq 27 30 24,JSo 32 24 31,JSm 33 32,JNf 34 6 1 33,JNl 35 34 33,JNc 36 102 [.t 35,(.k (Jz 0)),(.k (Jz 9999))] 33,JG 37 (.un .not (.t 36)) 33 false,JSo 38 33 37,JSm 39 38,JNf 40 7 1 39,JNl 41 40 39,JNc 42 102 [.t 41,(.k (Jz 0)),(.k (Jz 9))] 39,JG 43 (.un .not (.t 42)) 39 false,JSo 44 39 43]
abbrev Zxp:VC:=(.seq (.seq (.ops [JSm 45 3,JSf 46 3 1,JSl 47 46,JSn 48 47,JSb 49 .lss 45 48]) (.cond (.t 49) .skip (.exit 0))) (.seq (.block 1 (.seq (.dops [JFf 52 4 1,JFl 53 52,JFm 54 3,JFa 55 1 53 54,JFl 56 55,JFf 57 3 1,JFl 58 57,JFm 59 3,JFa 60 1 58 59,JFl 61 60,JSc 62 102 [.t 56,(.k (Jz 0)),.t 61],JS 63 (.un .not (.t 62))]) (.cond (.t 63) (.seq (.ops [JSi 2 50]) .ret) .skip))) (.ops [JSm 50 3,JSk 51 .add 50 1,JSm 3 51])))
-- Zue: changed and kept: [3]
abbrev Zue:List Nat:=[1]
abbrev Zxq:VC:=(.seq (.seq (.ops ZyD) (.cond (.t 44) (.seq (.ops [JSi 2 50]) .ret) .skip)) (.seq (.seq (.ops [JSi 3 0]) (.block 0 (.loop Zxp))) (.seq (.seq (.dops [JFf 64 0 1,JFL 65 3 64,JFf 66 3 1,JFl 67 66,JFf 68 5 1,JFl 69 68,JFc 70 103 [.t 67,.t 69],JSc 71 101 [.t 65,.t 70],JS 72 (.un .not (.t 71))]) (.cond (.t 72) (.seq (.ops [JSi 2 50]) .ret) .skip)) (.seq (.ops [JSi 2 0]) .ret))))
def ZzG:FC:=⟨1,73,[.t 2],(.seq (.ops [JS 1 (.box 8 (.t 0)),JSi 2 0]) Zxq)⟩
theorem c55:Zao Tryz.prog [] 55=some ZzG:=by kernel_rfl
def Zkm (b:Bx):Nat→Bool
 |0=>true
 |k+1=>Zkm b k&&Zah (b.ma.getD k 0) 0 (b.fo.getD k 0)
theorem ZgB {b:Bx}:∀{k m:Nat},Zkm b k=false→k≤m→Zkm b m=false
 |k,0,h,hm=>by rwa [show k=0 by omega] at h
 |k,m+1,h,hm=>by
  rcases Nat.lt_or_ge m k with h1|h1
  ·rwa [show k=m+1 by omega] at h
  ·simp only[Zkm,ZgB h h1,Bool.false_and]
def Zdw (b:Bx):Bool:=whB b.wh&&Zf0 b.wh b.fo&&Zf0 b.wh b.sl&&(b.ma.length==b.fo.length)&&Zah b.pl 0 9999&&Zah b.sk 0 9&&Zkm b b.fo.length&&Zf0 b.wh (ZbC b)
def Zog (b:Bx):Int:=if Zdw b then 0 else 50
theorem ZwH {b:Bx} (h:Zdw b=true):bxB b=true:=by
 simp only[Zdw,Zf0,Bool.and_eq_true,beq_iff_eq,decide_eq_true_eq] at h;obtain ⟨⟨⟨⟨⟨⟨⟨h1,h2,h2s⟩,h3,h3s⟩,h4⟩,h5⟩,h6⟩,h7⟩,h8,h8s⟩:=h;have k2:=ZaX h2;have k3:=ZaX h3;have hm:∀k,Zkm b k=true→∀i,i<k→0≤b.ma.getD i 0∧b.ma.getD i 0≤b.fo.getD i 0:=by
  intro k;induction k with
  |zero=>intro _ i hi;omega
  |succ k ih=>
   intro h i hi;simp only[Zkm,Bool.and_eq_true,Zah,decide_eq_true_eq] at h;rcases Nat.lt_or_ge i k with h9|h9
   ·exact ih h.1 i h9
   ·obtain rfl:i=k:=by omega
    exact h.2
 have hml:ZfO b.wh b.ma=true:=by
  unfold ZfO;have e1:(b.ma.length==b.wh.co.length)=true:=by rw[beq_iff_eq,h4,k2.1]
  have e2:b.ma.any Zf1=false:=by
   rw[List.any_eq_false];intro n hn;obtain ⟨i,hi,rfl⟩:=List.mem_iff_getElem.1 hn;have:=hm _ h7 i (by omega);have h9:=ZaZ k2.2 (k:=i) (by omega);rw[Zbi hi] at this;simp[Zf1,Zah];omega
  rw[e1,e2];rfl
 have hmk:∀k,k≤b.fo.length→mkK b.fo b.ma k=true:=by
  intro k;induction k with
  |zero=>intro _;rfl
  |succ k ih=>
   intro hk;simp only[mkK,ih (by omega),Bool.true_and,decide_eq_true_eq];exact (hm _ h7 k (by omega)).2
 have hsum:∀k,k≤b.fo.length→sumK b.fo b.sl k=((ZbC b).take k).sum:=by
  intro k;induction k with
  |zero=>intro _;simp[sumK]
  |succ k ih=>
   intro hk;have hp:k<(ZbC b).length:=by simp[ZbC,ZeD];omega
   rw[List.take_succ_eq_append_getElem hp,List.sum_append,sumK,ih (by omega)];simp only[ZbC,ZeD,List.getElem_zipWith,Zbi (l:=b.fo) (k:=k) (by omega),Zbi (l:=b.sl) (k:=k) (by omega)];simp
 have hpl:(ZbC b).length=b.fo.length:=by simp[ZbC,ZeD];omega
 have hs:=hsum b.fo.length (Nat.le_refl _);rw[List.take_of_length_le (by omega)] at hs;unfold bxB;rw[h1,h5,h6,h2,hml,h3,hmk _ (Nat.le_refl _),hs,decide_eq_true h8s];rfl
set_option maxHeartbeats 16000000 in
set_option maxRecDepth 20000 in
theorem check8 (b:Bx):FSpec Tryz.prog 55 [b.av] (iv (Zog b)):=by
 refine Zac c55 (Nat.le_refl _) (by decide) fun C hP hN hC hL=> ?_;rw[Zad]
 simp only[ZzG,Bx.av,Bx.avs];have hbad:Zdw b=false→Zog b=50:=fun h=>by unfold Zog;rw[h];rfl
 have hb0:((0:Int) !=0)=false:=rfl;have hne:((b.ma.length:Int) !=(b.fo.length:Int))= !(b.ma.length==b.fo.length):=Zx9 _ _;(repeat (refine vV ?_;(try simp only[go_sem,hP,Bx.avs,Zaj,List.length_map]);refine vQ ?_))
 (refine Zau (Zrs b.wh) ?_;simp only[go_sem,hP,Wh.av,Wh.avs,Zaj,List.length_map,hne];refine vQ ?_;(repeat (refine vV ?_;(try simp only[go_sem,hP,Wh.av,Wh.avs,Zaj,List.length_map,hne]);refine vQ ?_)))
 by_cases h1:whB b.wh=true;case neg=>
  have h1:whB b.wh=false:=by simpa using h1
  have e0:whE b.wh=10:=by unfold whE;rw[h1];rfl
  rw[hbad (by unfold Zdw;rw[h1];rfl),e0];have hb1:((10:Int) !=0)=true:=rfl;simp only[go_sem,hb1];(refine ZaC ?_;simp only[go_sem,hP,List.length_map,hne];refine vQ ?_;refine vR1 ?_)
  (refine ZaC ?_;simp only[go_sem,hP,List.length_map,hne];refine vQ ?_;refine vR1 ?_)
  (refine ZaC ?_;simp only[go_sem,hP,List.length_map,hne];refine vQ ?_;refine vR1 ?_)
  (refine ZaC ?_;simp only[go_sem,hP,List.length_map,hne];refine vQ ?_;refine vR1 ?_)
  (refine vC ?_ ?_<;>intro h)
  ·refine vR ?_;(refine vT ?_;try exact trivial)
  ·simp at h
 have e0:whE b.wh=0:=by unfold whE;rw[if_pos h1]
 have hw:=ZeQ h1;rw[e0];simp only[go_sem,hb0];(refine Za9 (fun hG=>Zhr hw b.fo) ?_;simp only[go_sem,hP,Wh.av,Wh.avs,Zaj,hb0,List.length_map,hne];refine vQ ?_;(repeat (refine vV ?_;(try simp only[go_sem,hP,Wh.av,Wh.avs,Zaj,hb0,List.length_map,hne]);refine vQ ?_)))
 by_cases h2:Zf0 b.wh b.fo=true;case neg=>
  have h2:Zf0 b.wh b.fo=false:=by simpa using h2
  rw[hbad (by unfold Zdw;rw[h2];simp)];simp only[go_sem,h2];(refine ZaC ?_;simp only[go_sem,hP,List.length_map,hne];refine vQ ?_;refine vR1 ?_)
  (refine ZaC ?_;simp only[go_sem,hP,List.length_map,hne];refine vQ ?_;refine vR1 ?_)
  (refine ZaC ?_;simp only[go_sem,hP,List.length_map,hne];refine vQ ?_;refine vR1 ?_)
  (refine vC ?_ ?_<;>intro h)
  ·refine vR ?_;(refine vT ?_;try exact trivial)
  ·simp at h
 simp only[go_sem,h2];(refine Za9 (fun hG=>Zhr hw b.sl) ?_;simp only[go_sem,hP,Wh.av,Wh.avs,Zaj,hb0,h2,List.length_map,hne];refine vQ ?_;(repeat (refine vV ?_;(try simp only[go_sem,hP,Wh.av,Wh.avs,Zaj,hb0,h2,List.length_map,hne]);refine vQ ?_)))
 by_cases h3:Zf0 b.wh b.sl=true;case neg=>
  have h3:Zf0 b.wh b.sl=false:=by simpa using h3
  rw[hbad (by unfold Zdw;rw[h3];simp)];simp only[go_sem,h3];(refine ZaC ?_;simp only[go_sem,hP,List.length_map,hne];refine vQ ?_;refine vR1 ?_)
  (refine ZaC ?_;simp only[go_sem,hP,List.length_map,hne];refine vQ ?_;refine vR1 ?_)
  (refine vC ?_ ?_<;>intro h)
  ·refine vR ?_;(refine vT ?_;try exact trivial)
  ·simp at h
 by_cases h4:b.ma.length=b.fo.length;case neg=>
  have hb4:(b.ma.length==b.fo.length)=false:=by simpa using h4
  rw[hbad (by unfold Zdw;rw[hb4];simp)];simp only[go_sem,h3,hb4];(refine ZaC ?_;simp only[go_sem,hP,List.length_map,hne];refine vQ ?_;refine vR1 ?_)
  (refine ZaC ?_;simp only[go_sem,hP,List.length_map,hne];refine vQ ?_;refine vR1 ?_)
  (refine vC ?_ ?_<;>intro h)
  ·refine vR ?_;(refine vT ?_;try exact trivial)
  ·simp at h
 have hb4:(b.ma.length==b.fo.length)=true:=by simpa using h4
 simp only[go_sem,h3,hb4];(refine Za9 (fun hG=>ZhE b.pl 0 9999) ?_;simp only[go_sem,hP,Zaj,hb0,h3,hb4,List.length_map,hne];refine vQ ?_;(repeat (refine vV ?_;(try simp only[go_sem,hP,Zaj,hb0,h3,hb4,List.length_map,hne]);refine vQ ?_)))
 by_cases h5:Zah b.pl 0 9999=true;case neg=>
  have h5:Zah b.pl 0 9999=false:=by simpa using h5
  rw[hbad (by unfold Zdw;rw[h5];simp)];simp only[go_sem,h5];(refine ZaC ?_;simp only[go_sem,hP,List.length_map,hne];refine vQ ?_;refine vR1 ?_)
  (refine vC ?_ ?_<;>intro h)
  ·refine vR ?_;(refine vT ?_;try exact trivial)
  ·simp at h
 simp only[go_sem,h5];(refine Za9 (fun hG=>ZhE b.sk 0 9) ?_;simp only[go_sem,hP,Zaj,hb0,h5,List.length_map,hne];refine vQ ?_;(repeat (refine vV ?_;(try simp only[go_sem,hP,Zaj,hb0,h5,List.length_map,hne]);refine vQ ?_)))
 by_cases h6:Zah b.sk 0 9=true;case neg=>
  have h6:Zah b.sk 0 9=false:=by simpa using h6
  rw[hbad (by unfold Zdw;rw[h6];simp)];(refine vC ?_ ?_<;>intro h)
  ·refine vR ?_;(refine vT ?_;try exact trivial)
  ·simp[h6] at h
 (refine vC ?_ ?_<;>intro h)
 ·simp[h6] at h
 clear h;have hfl:b.fo.length=b.wh.co.length:=by
  simp only[Zf0,Bool.and_eq_true] at h2;exact (ZaX h2.1).1
 have hcl:=hw.cl;have hmb:Zkm b b.fo.length=false→Zog b=50:=fun h=>hbad (by unfold Zdw;rw[h];simp)
 have hrest:Zkm b b.fo.length=true→Zog b=if Zf0 b.wh (ZbC b) then 0 else 50:=fun h=>by
  have:Zdw b=Zf0 b.wh (ZbC b):=by unfold Zdw;rw[h1,h2,h3,hb4,h5,h6,h];rfl
  unfold Zog;rw[this]
 refine vR0 ?_;refine Zax Zue [] (fun k:Nat=>k≤b.fo.length∧Zkm b k=true) (fun k=>b.fo.length -k) (fun k=>[(3,iv k)]) (fun _=>[]) 0 ⟨by omega,rfl⟩ ?_ ?_
 ·exact Zaz
 ·rintro k ⟨hk,hr⟩;refine vR0 ?_;(refine vC ?_ ?_<;>intro h)
  ·have hi:k<b.fo.length:=by simpa using h
   have hi2:k<b.ma.length:=by omega
   have gf:=ZaD hi;have gm:=ZaD hi2;have w1:=w64 (n:=(k:Int)+1) (by omega) (by omega);have hs:Zkm b (k+1)=Zah (b.ma.getD k 0) 0 (b.fo.getD k 0):=by simp only[Zkm,hr,Bool.true_and]
   generalize b.fo.getD k 0=x at*;generalize b.ma.getD k 0=y at*;(repeat (refine vV ?_;(try simp only[go_sem,hP,gf,gm,Zaj,List.length_map,Int.toNat_natCast,Int.ofNat_lt,hi,hi2,Int.natCast_nonneg]);refine vQ ?_))
   (refine Zau (ZhE y 0 x) ?_;simp only[go_sem,hP,Zaj];refine vQ ?_;refine vR2 ?_)
   by_cases hx:Zah y 0 x=true
   ·(refine vC ?_ ?_<;>intro h)
    ·simp[hx] at h
    refine vW w1 ?_;refine ⟨k+1,⟨by omega,by rw[hs];exact hx⟩,by omega,?_⟩;(refine Zai (by simp only[go_sem];exact vEi) (by simp only[go_sem];exact Zaa))
   ·have hx:Zah y 0 x=false:=by simpa using hx
    rw[hmb (ZgB (k:=k+1) (by rw[hs];exact hx) (by omega))];(refine vC ?_ ?_<;>intro h)
    ·refine vR ?_;(refine vT ?_;try exact trivial)
    ·simp[hx] at h
  ·have hi:k=b.fo.length:=by simp at h;omega
   subst hi;have hfo:∀n∈b.fo,0≤n∧n≤12:=by
    simp only[Zf0,Bool.and_eq_true] at h2;exact (ZaX h2.1).2
   have hslo:b.sl.length=b.wh.co.length∧∀n∈b.sl,0≤n∧n≤12:=by
    simp only[Zf0,Bool.and_eq_true] at h3;exact ZaX h3.1
   clear h hk;by_cases h9:Zf0 b.wh (ZbC b)=true
   ·have e1:Zog b=0:=by rw[hrest hr,if_pos h9]
    rw[e1];refine vR0 ?_;(refine Za0 (Zqt (by omega) (by omega) hfo hslo.2) rfl rfl rfl rfl rfl ?_;simp only[go_sem,hP,Zaj];refine vQ ?_;refine vR2 ?_)
    (refine Zau (Zhr hw (ZbC b)) ?_;simp only[go_sem,hP,Wh.av,Wh.avs,Zaj,ZbC];refine vQ ?_;(repeat (refine vV ?_;(try simp only[go_sem,hP,Wh.av,Wh.avs,Zaj,ZbC]);refine vQ ?_)))
    simp only[ZbC] at h9;(refine vC ?_ ?_<;>intro h)
    ·simp[h9] at h
    ·refine vR ?_;(refine vT ?_;try exact trivial)
   ·have e1:Zog b=50:=by rw[hrest hr,if_neg h9]
    have h9:Zf0 b.wh (ZbC b)=false:=by simpa using h9
    rw[e1];refine vR0 ?_;(refine Za0 (Zqt (by omega) (by omega) hfo hslo.2) rfl rfl rfl rfl rfl ?_;simp only[go_sem,hP,Zaj];refine vQ ?_;refine vR2 ?_)
    (refine Zau (Zhr hw (ZbC b)) ?_;simp only[go_sem,hP,Wh.av,Wh.avs,Zaj,ZbC];refine vQ ?_;(repeat (refine vV ?_;(try simp only[go_sem,hP,Wh.av,Wh.avs,Zaj,ZbC]);refine vQ ?_)))
    simp only[ZbC] at h9;(refine vC ?_ ?_<;>intro h)
    ·refine vR ?_;(refine vT ?_;try exact trivial)
    ·simp[h9] at h
end Go.Proofs.YtcggfogkfhlmlaaGreatDoor
/-
 Trays as data:plain.
-/
namespace Go.Proofs.YtcggfogkfhlmlaaGreatDoor
open Go Go.V
abbrev bv (b:Bool):AV:=.c (.bool b)
structure Rec where
 front:Int
 back:Int
 deriving DecidableEq,Inhabited
structure Pr where
 side:Int
 time:Int
 deriving DecidableEq,Inhabited
structure Tray where
 recs:List Rec
 at_:Int
 way:Int
 step:Int
 pres:List Pr
 deriving DecidableEq,Inhabited
def Rec.cds (s:Rec):List CD:=[.int .i64 s.front,.int .i64 s.back]
def ZaO (l:List Rec):CD:=.sl 2 (l.map Rec.cds)
def Pr.cds (p:Pr):List CD:=[.int .i64 p.side,.int .i64 p.time]
def ZbR (l:List Pr):CD:=.sl 2 (l.map Pr.cds)
def Tray.cds (t:Tray):List CD:=[ZaO t.recs,.int .i64 t.at_,.int .i64 t.way,.int .i64 t.step,ZbR t.pres]
def Tray.av (t:Tray):AV:=.agg [.c (ZaO t.recs),iv t.at_,iv t.way,iv t.step,.c (ZbR t.pres)]
def Tray.n (t:Tray):Nat:=t.recs.length
def ZdF (r:Rec):Bool:=Zah r.front 1 999&&Zah r.back 1 999
def ZeI (n:Nat) (s:Int):Bool:=Zah s 0 (2*(n:Int) -1)
def Zgz (x:Int):Bool:=Zah x 0 9999
def Zkp (n:Nat) (p:Pr):Bool:=ZeI n p.side&&Zgz p.time
def Tray.okHead (t:Tray):Bool:=Zah t.n 1 6&&Zah t.at_ 0 ((t.n:Int) -1)&&(t.way==1||t.way== -1)&&Zah t.step 0 60
def Tray.ok (t:Tray):Bool:=t.okHead&&t.recs.all ZdF&&decide (t.pres.length≤12)&&t.pres.all (Zkp t.n)
theorem Zlt {l:List Rec} (h:(ZaO l).lens):l.length≤9223372036854775807:=by
 simp only[ZaO,CD.lens,List.length_map,maxLen] at h;omega
theorem Znt {l:List Pr} (h:(ZbR l).lens):l.length≤9223372036854775807:=by
 simp only[ZbR,CD.lens,List.length_map,maxLen] at h;omega
theorem Tray.lens {t:Tray} {xs:List AV} (h:AV.lensL (t.av::xs)):t.recs.length≤9223372036854775807∧t.pres.length≤9223372036854775807:=by
 simp only[AV.lensL,Tray.av,AV.lens] at h;exact ⟨Zlt h.1.1,Znt h.1.2.2.2.2.1⟩
theorem ZeM (r:Pr):r.cds.length=2:=rfl
theorem Zkv (l:List Rec):((l.map Rec.cds).all fun e=>e.length==2)=true:=by
 rw[List.all_eq_true];intro e he;obtain ⟨n,_,rfl⟩:=List.mem_map.1 he;rfl
theorem Zew (l:List Pr):((l.map Pr.cds).all fun e=>e.length==2)=true:=by
 rw[List.all_eq_true];intro e he;obtain ⟨n,_,rfl⟩:=List.mem_map.1 he;rfl
attribute [go_sem] Int.toNat_natCast List.length_map List.length_set Nat.mul_one Nat.zero_add Int.natCast_nonneg
structure TrayOk (t:Tray):Prop where
 n1:1≤t.n
 n6:t.n≤6
 at_:0≤t.at_∧t.at_<(t.n:Int)
 way:t.way=1∨t.way= -1
 step:0≤t.step∧t.step≤60
 recs:∀r∈t.recs,(1≤r.front∧r.front≤999)∧(1≤r.back∧r.back≤999)
 pres:∀p∈t.pres,(0≤p.side∧p.side<2*(t.n:Int))∧(0≤p.time∧p.time≤9999)
 p13:t.pres.length≤13
theorem Tray.ok_spec {t:Tray} (h:t.ok=true):TrayOk t∧t.pres.length≤12:=by
 simp only[Tray.ok,Tray.okHead,Bool.and_eq_true,Bool.or_eq_true,beq_iff_eq,decide_eq_true_eq,List.all_eq_true,ZdF,Zkp,ZeI,Zgz,Zah] at h;obtain ⟨⟨⟨⟨⟨⟨h1,h2⟩,h3⟩,h4⟩,h5⟩,h6⟩,h7⟩:=h;exact ⟨⟨by omega,by omega,by omega,h3,h4,h5,fun p hp=>by have:=h7 p hp;omega,by omega⟩,h6⟩
end Go.Proofs.YtcggfogkfhlmlaaGreatDoor
namespace Go.Proofs.YtcggfogkfhlmlaaGreatDoor
open Go Go.V
abbrev ZyI:List Ins:=[JSf 8 0 1,JSl 9 8,JSn 10 9,JSk 11 .geq 10 1,JSm 12 11,JTf 13 0 1 12,JTl 14 13 12,JTn 15 14 12,JTk 16 .leq 15 6 12,JSp 17 12 16,JSm 18 17,JTf 19 1 1 18,JTl 20 19 18,JTk 21 .geq 20 0 18,JSp 22 18 21,JSm 23 22,JTf 24 1 1 23,JTl 25 24 23,JTf 26 0 1 23,JTl 27 26 23,JTn 28 27 23,JTb 29 .lss 25 28 23,JSp 30 23 29,JSm 31 30,JTf 32 2 1 31,JTl 33 32 31,JTk 34 .eql 33 1 31,JTm 35 34 31,JNf 36 2 1 35,JNl 37 36 35,JNk 38 .eql 37 (-1) 35,JTo 39 35 38 31,JSp 40 31 39,JSm 41 40,JTf 42 3 1 41,JTl 43 42 41,JTk 44 .geq 43 0 41,JSp 45 41 44,JSm 46 45,JTf 47 3 1 46,JTl 48 47 46,JTk 49 .leq 48 60 46,JSp 50 46 49,JSm 51 50,JTf 52 4 1 51,JTl 53 52 51,JTn 54 53 51,JTk 55 .leq 54 12 51,JSp 56 51 55,JSm 3 56]
abbrev ZyJ:List Ins:=[JSm 64 3,JSm 65 64,JTf 66 0 5 65,JTl 67 66 65,JTk 68 .geq 67 1 65,JSp 69 65 68,JSm 70 69,JTf 71 0 5 70,JTl 72 71 70,JTk 73 .leq 72 999 70,JSp 74 70 73,JSm 75 74,JTf 76 1 5 75,JTl 77 76 75,JTk 78 .geq 77 1 75,JSp 79 75 78,JSm 80 79,JTf 81 1 5 80,JTl 82 81 80,JTk 83 .leq 82 999 80,JSp 84 80 83,JSm 3 84]
-- Zuk: changed and kept: [60,3]
abbrev Zuk:List Nat:=[1,58,59]
abbrev ZxE:VC:=(.seq (.cond (.t 90) .skip (.exit 2)) (.seq (.block 3 (.seq (.ops [JSa 91 2 87 89,JSL 92 2 91,JS 7 (.alloc [Jz 0,Jz 0]),JUs 2 7 92]) (.ops [JSm 93 3,JSm 94 93,JTL 95 5 1 94,JTf 96 0 7 94,JTl 97 96 94,JTc 98 75 [.t 95,.t 97] 94,JSp 99 94 98,JSm 100 99,JTf 101 1 7 100,JTl 102 101 100,JTc 103 74 [.t 102] 100,JSp 104 100 103,JSm 3 104]))) (.ops [JSk 105 .add 89 1,JSm 89 105])))
-- Zul: changed and kept: [89,3]
abbrev Zul:List Nat:=[1,87,88]
abbrev ZxF:VC:=(.seq (.seq (.ops [JSf 57 0 1,JSl 58 57,JSn 59 58,JSi 60 0]) (.block 0 (.loop (.seq (.ops [JSb 61 .lss 60 59]) (.seq (.cond (.t 61) .skip (.exit 0)) (.seq (.block 1 (.seq (.ops [JSa 62 2 58 60,JSL 63 2 62,JS 5 (.alloc [Jz 0,Jz 0]),JUs 2 5 63]) (.ops ZyJ))) (.ops [JSk 85 .add 60 1,JSm 60 85]))))))) (.seq (.seq (.ops [JSf 86 4 1,JSl 87 86,JSn 88 87,JSi 89 0]) (.block 2 (.loop (.seq (.ops [JSb 90 .lss 89 88]) ZxE)))) (.seq (.seq (.ops [JSm 106 3,JS 107 (.un .not (.t 106))]) (.cond (.t 107) (.seq (.ops [JSi 2 20]) .ret) .skip)) (.seq (.ops [JSi 2 0]) .ret))))
def ZzS:FC:=⟨1,108,[.t 2],(.seq (.ops [JS 1 (.box 5 (.t 0)),JSi 2 0]) (.seq (.ops ZyI) ZxF))⟩
def ZzT:FC:=⟨1,9,[.t 2],(.seq (.ops [JSB 2 false]) (.seq (.ops [JSm 3 0,JSk 4 .geq 3 0,JSm 5 4,JTm 6 0 5,JTk 7 .leq 6 9999 5,JSp 8 5 7,JSm 2 8]) .ret))⟩
def ZzU:FC:=⟨2,15,[.t 4],(.seq (.ops [JS 2 (.box 5 (.t 0)),JSB 4 false]) (.seq (.ops [JSm 5 1,JSk 6 .geq 5 0,JSm 7 6,JTm 8 1 7,JTf 9 0 2 7,JTl 10 9 7,JTn 11 10 7,JG 12 (.bin .mul (.k (Jz 2)) (.t 11)) 7 true,JTb 13 .lss 8 12 7,JSp 14 7 13,JSm 4 14]) .ret))⟩
abbrev ZyE:List Ins:=[JSf 4 0 1,JSl 5 4,JSn 6 5,JSc 7 104 [.t 6,(.k (Jz 1)),(.k (Jz 6))],JS 8 (.un .not (.t 7)),JSm 9 8,JNf 10 1 1 9,JNl 11 10 9,JNf 12 0 1 9,JNl 13 12 9,JNn 14 13 9,JNk 15 .sub 14 1 9,JNc 16 104 [.t 11,(.k (Jz 0)),.t 15] 9,JG 17 (.un .not (.t 16)) 9 false,JSo 18 9 17,JSm 19 18,JNf 20 2 1 19,JNl 21 20 19,JNk 22 .neq 21 1 19,JNm 23 22 19,JTf 24 2 1 23,JTl 25 24 23,JTk 26 .neq 25 (-1) 23,JNp 27 23 26 19,JSo 28 19 27,JSm 29 28,JNf 30 3 1 29,JNl 31 30 29,JNc 32 104 [.t 31,(.k (Jz 0)),(.k (Jz 60))] 29,JG 33 (.un .not (.t 32)) 29 false,JSo 34 29 33]
abbrev ZyF:List Ins:=[JSf 42 0 1,JSl 43 42,JSm 44 3,JSa 45 2 43 44,JSf 46 0 45,JSl 47 46,JSc 48 104 [.t 47,(.k (Jz 1)),(.k (Jz 999))],JS 49 (.un .not (.t 48)),JSm 50 49,JNf 51 0 1 50,JNl 52 51 50,JNm 53 3 50,JNa 54 2 52 53 50,JNf 55 1 54 50,JNl 56 55 50,JNc 57 104 [.t 56,(.k (Jz 1)),(.k (Jz 999))] 50,JG 58 (.un .not (.t 57)) 50 false,JSo 59 50 58]
-- Zuf: changed and kept: [3]
abbrev Zuf:List Nat:=[1]
abbrev Zxr:VC:=(.seq (.seq (.ops [JSi 3 0]) (.block 0 (.loop (.seq (.seq (.ops [JSm 35 3,JSf 36 0 1,JSl 37 36,JSn 38 37,JSb 39 .lss 35 38]) (.cond (.t 39) .skip (.exit 0))) (.seq (.block 1 (.seq (.ops ZyF) (.cond (.t 59) (.seq (.ops [JSi 2 20]) .ret) .skip))) (.ops [JSm 40 3,JSk 41 .add 40 1,JSm 3 41])))))) (.seq (.ops [JSL 60 5 1,JSc 61 105 [.t 60,(.k (Jz 12))],JSm 2 61]) .ret))
def ZzH:FC:=⟨1,62,[.t 2],(.seq (.ops [JS 1 (.box 5 (.t 0)),JSi 2 0]) (.seq (.seq (.ops ZyE) (.cond (.t 34) (.seq (.ops [JSi 2 20]) .ret) .skip)) Zxr))⟩
abbrev Zv1:List Ins:=[JFL 18 5 2,JFf 19 4 2,JFl 20 19,JFm 21 5,JFa 22 2 20 21,JFf 23 0 22,JFl 24 23,JSc 25 137 [.t 18,.t 24],JS 26 (.un .not (.t 25)),JSm 27 26,JH 28 (Jf 4 2) 27 false,JH 29 (Jl 28) 27 false,JH 30 (Jm 5) 27 false,JNa 31 2 29 30 27,JNf 32 1 31 27,JNl 33 32 27,JNc 34 138 [.t 33] 27,JG 35 (.un .not (.t 34)) 27 false,JSo 36 27 35]
-- Zqc: changed and kept: [5]
abbrev Zqc:List Nat:=[2]
abbrev Ztf:VC:=(.seq (.seq (.ops [JSf 6 4 2,JSl 7 6,JSn 8 7,JSm 9 1,JSb 10 .gtr 8 9]) (.cond (.t 10) (.seq (.ops [JSi 4 20]) .ret) .skip)) (.seq (.seq (.ops [JSi 5 0]) (.block 0 (.loop (.seq (.seq (.ops [JSm 11 5,JSf 12 4 2,JSl 13 12,JSn 14 13,JSb 15 .lss 11 14]) (.cond (.t 15) .skip (.exit 0))) (.seq (.block 1 (.seq (.dops Zv1) (.cond (.t 36) (.seq (.ops [JSi 4 20]) .ret) .skip))) (.ops [JSm 16 5,JSk 17 .add 16 1,JSm 5 17])))))) (.seq (.ops [JSi 4 0]) .ret)))
def Zu3:FC:=⟨2,37,[.t 4],(.seq (.ops [JS 2 (.box 5 (.t 0)),JSi 4 0]) Ztf)⟩
def Zu2:FC:=⟨3,15,[.t 6],(.seq (.ops [JSB 6 false]) (.seq (.ops [JSm 7 1,JSm 8 0,JSb 9 .leq 7 8,JSm 10 9,JTm 11 0 10,JTm 12 2 10,JTb 13 .leq 11 12 10,JSp 14 10 13,JSm 6 14]) .ret))⟩
def Zvj:FC:=⟨2,12,[.t 4],(.seq (.ops [JS 2 (.box 5 (.t 0)),JSB 4 false]) (.seq (.ops [JSm 5 1,JSf 6 0 2,JSl 7 6,JSn 8 7,JS 9 (.bin .mul (.k (Jz 2)) (.t 8)),JSk 10 .sub 9 1,JSc 11 104 [.t 5,(.k (Jz 0)),.t 10],JSm 4 11]) .ret))⟩
def Zvk:FC:=⟨1,5,[.t 2],(.seq (.ops [JSB 2 false]) (.seq (.ops [JSm 3 0,JSc 4 104 [.t 3,(.k (Jz 0)),(.k (Jz 9999))],JSm 2 4]) .ret))⟩
def ZzD:FC:=⟨1,13,[.t 2],(.seq (.ops [JS 1 (.box 5 (.t 0)),JSB 2 false]) (.seq (.ops [JSf 3 0 1,JSl 4 3,JSn 5 4,JSk 6 .gtr 5 40,JSm 7 6,JNf 8 4 1 7,JNl 9 8 7,JNn 10 9 7,JNk 11 .gtr 10 40 7,JSo 12 7 11,JSm 2 12]) .ret))⟩
theorem c73:Zao Tryz.prog [] 73=some ZzS:=by kernel_rfl
theorem c74:Zao Tryz.prog [] 74=some ZzT:=by kernel_rfl
theorem c75:Zao Tryz.prog [] 75=some ZzU:=by kernel_rfl
theorem c56:Zao Tryz.prog [] 56=some ZzH:=by kernel_rfl
theorem ZAr:Zao Tryz.prog [] 105=some Zu3:=by kernel_rfl
theorem ZAq:Zao Tryz.prog [] 104=some Zu2:=by kernel_rfl
theorem ZAH:Zao Tryz.prog [] 137=some Zvj:=by kernel_rfl
theorem ZAI:Zao Tryz.prog [] 138=some Zvk:=by kernel_rfl
theorem c52:Zao Tryz.prog [] 52=some ZzD:=by kernel_rfl
attribute [local go_sem] Nat.reduceEqDiff Nat.reduceAdd Nat.reduceMul reduceIte Nat.reduceLeDiff Nat.reduceLT Nat.reduceBEq reduceCtorEq
theorem ZtY (a b c:Int):FSpec Tryz.prog 104 [iv a,iv b,iv c] (.c (.bool (Zah a b c))):=by
 refine Zac ZAq (Nat.le_refl _) (by decide) fun C hP hN hC hL=> ?_;rw[Zad]
 simp only[Zu2];refine vR ?_;(refine vT ?_;try exact trivial)
theorem Zpd (a:Int):FSpec Tryz.prog 74 [iv a] (.c (.bool (Zgz a))):=by
 refine Zac c74 (Nat.le_refl _) (by decide) fun C hP hN hC hL=> ?_;rw[Zad]
 simp only[ZzT];refine vR ?_;(refine vT ?_;try exact trivial)
theorem ZnM (a:Int):FSpec Tryz.prog 138 [iv a] (.c (.bool (Zgz a))):=by
 refine Zac ZAI (Nat.le_refl _) (by decide) fun C hP hN hC hL=> ?_;rw[Zad]
 simp only[Zvk];refine vR ?_;(refine Zau (ZtY _ _ _) ?_;simp only[go_sem,hP];refine vQ ?_;refine vR ?_)
 (refine vT ?_;try exact trivial)
theorem Zs0 (n:Nat) (s:Int):(decide (0≤s)&&decide (s<2*(n:Int)))=ZeI n s:=by
 unfold ZeI Zah;rw[Bool.eq_iff_iff];simp;omega
theorem Zpc (t:Tray) (s:Int) (hn:t.n≤1000):FSpec Tryz.prog 75 [t.av,iv s] (.c (.bool (ZeI t.n s))):=by
 refine Zac c75 (Nat.le_refl _) (by decide) fun C hP hN hC hL=> ?_;rw[Zad]
 simp only[ZzU,Tray.av];have hn':t.recs.length=t.n:=rfl;have w1:=w64 (n:=2*(t.n:Int)) (by omega) (by omega);(repeat (refine vV ?_;(try simp only[go_sem,hP,ZaO,List.length_map,hn',w1]);refine vQ ?_))
 (refine vT ?_;try exact trivial)
 exact congrArg (fun b=>AV.c (CD.bool b)) (Zs0 _ _)
theorem ZnL (t:Tray) (s:Int) (hn:t.n≤1000):FSpec Tryz.prog 137 [t.av,iv s] (.c (.bool (ZeI t.n s))):=by
 refine Zac ZAH (Nat.le_refl _) (by decide) fun C hP hN hC hL=> ?_;rw[Zad]
 simp only[Zvj,Tray.av];have hn':t.recs.length=t.n:=rfl;have w1:=w64 (n:=2*(t.n:Int)) (by omega) (by omega);have w2:=w64 (n:=2*(t.n:Int) -1) (by omega) (by omega);(repeat (refine vV ?_;(try simp only[go_sem,hP,ZaO,List.length_map,hn',w1,w2]);refine vQ ?_))
 (refine Zau (ZtY _ _ _) ?_;simp only[go_sem,hP];refine vQ ?_;refine vR ?_)
 (refine vT ?_;try exact trivial)
def Zx4 (t:Tray):Bool:=decide (40<t.n)||decide (40<t.pres.length)
theorem Zx3 (t:Tray):FSpec Tryz.prog 52 [t.av] (.c (.bool (Zx4 t))):=by
 refine Zac c52 (Nat.le_refl _) (by decide) fun C hP hN hC hL=> ?_;rw[Zad]
 simp only[ZzD,Tray.av];(repeat (refine vV ?_;(try simp only[go_sem,hP,ZaO,ZbR,List.length_map]);refine vQ ?_))
 (refine vT ?_;try exact trivial)
 have e1:decide ((40:Int)<(t.recs.length:Int))=decide (40<t.recs.length):=by simp;omega
 have e2:decide ((40:Int)<(t.pres.length:Int))=decide (40<t.pres.length):=by simp;omega
 rw[e1,e2];rfl
set_option maxRecDepth 20000 in
set_option maxHeartbeats 8000000 in
theorem check40 (t:Tray):FSpec Tryz.prog 73 [t.av] (iv (if t.ok then 0 else 20)):=by
 refine Zac c73 (Nat.le_refl _) (by decide) fun C hP hN hC hL=> ?_;rw[Zad]
 obtain ⟨h1,h2⟩:=Tray.lens hL;have hn':t.recs.length=t.n:=rfl;simp only[ZzS,Tray.av,ZaO,ZbR];(repeat (refine vV ?_;(try simp only[go_sem,hP,List.length_map,hn']);refine vQ ?_))
 have hh:(decide (1≤(t.n:Int))&&(decide ((t.n:Int)≤6)&&(decide (0≤t.at_)&&(decide (t.at_<(t.n:Int))&&((t.way==1||t.way== -1)&&(decide (0≤t.step)&&(decide (t.step≤60)&&decide ((t.pres.length:Int)≤12))))))))=(t.okHead&&decide (t.pres.length≤12)):=by
  unfold Tray.okHead Zah;rw[Bool.eq_iff_iff];simp;omega
 have hh2:(((((((decide (1≤(t.n:Int))&&decide ((t.n:Int)≤6))&&decide (0≤t.at_))&&decide (t.at_<(t.n:Int)))&&(t.way==1||t.way== -1))&&decide (0≤t.step))&&decide (t.step≤60))&&decide ((t.pres.length:Int)≤12))=(t.okHead&&decide (t.pres.length≤12)):=by
  rw[←hh];simp only[Bool.and_assoc]
 rw[hh2];generalize hg0:(t.okHead&&decide (t.pres.length≤12))=g0;refine Zax Zuk [5] (fun k:Nat=>k≤t.n) (fun k=>t.n -k) (fun k=>[(3,.c (.bool (g0&&(t.recs.take k).all ZdF))),(60,iv k)]) (fun _=>[]) 0 (Nat.zero_le _) ?_ ?_
 ·exact Zaz
 ·intro k hk;simp only[go_sem];refine vR ?_;(refine vC ?_ ?_<;>intro h)
  ·have h:k<t.recs.length:=by simp at h;omega
   have hkl:=h;have hI:(k:Int)<(t.n:Int):=by omega
   have hw2:=w64 (n:=(k:Int)+1) (by omega) (by omega);(repeat (refine vV ?_;(try simp only[go_sem,hP,Int.toNat_natCast,Za7 h,List.length_map,hn',hI,Int.natCast_nonneg,Rec.cds,hw2]);refine vQ ?_))
   refine ⟨k+1,by omega,by omega,?_⟩;(refine Zai (by simp only[go_sem];((repeat' (first|exact ZaW _ _|refine ZaJ ?_ ?_))<;>((try simp only[ZaT,ZbG,ZbH,Nat.reduceEqDiff,reduceIte]);first|exact AWk.refl _ _|exact AWk.int (by omega)|exact AWk.int (by rw[w64 (by omega) (by omega)];omega)|exact AWk.grow rfl|exact AWk.nil _|exact AWk.of (by (rw[Zd9 ZdF h];simp[Bool.and_assoc,ZdF,Zah]))))) (by simp only[go_sem];exact Zaa))
  ·have h:k=t.recs.length:=by simp at h;omega
   subst h;rw[List.take_length];generalize hg1:(g0&&t.recs.all ZdF)=g1;refine vR3 ?_;refine Zax Zul [7] (fun k:Nat=>k≤t.pres.length) (fun k=>t.pres.length -k) (fun k=>[(3,.c (.bool (g1&&(t.pres.take k).all (Zkp t.n)))),(89,iv k)]) (fun _=>[]) 0 (Nat.zero_le _) ?_ ?_
   ·exact Zaz
   ·intro k hk;simp only[go_sem];refine vR3 ?_;(refine vC ?_ ?_<;>intro h)
    ·have h:k<t.pres.length:=by simpa using h
     have hI:(k:Int)<(t.pres.length:Int):=by omega
     have hw2:=w64 (n:=(k:Int)+1) (by omega) (by omega);(repeat (refine vV ?_;(try simp only[go_sem,hP,Int.toNat_natCast,Za7 h,List.length_map,hI,Int.natCast_nonneg,Pr.cds]);refine vQ ?_))
     refine Zi4 (fun hG=>Zpc t t.pres[k].side ?_) rfl (fun hG=>by simp only[go_sem,hG]) rfl rfl rfl ?_
     ·simp only[Bool.and_eq_true] at hG;have:g0=true:=by
       have:=hG.1;rw[←hg1] at this;simp only[Bool.and_eq_true] at this;exact this.1
      rw[←hg0] at this;simp only[Bool.and_eq_true,decide_eq_true_eq,Tray.okHead,Zah] at this;omega
     simp only[go_sem,hP,Tray.av,ZaO,ZbR];refine vR ?_;(refine Za9 (fun hG=>Zpd _) ?_;simp only[go_sem,hP,hw2];refine vQ ?_;refine vW hw2 ?_)
     refine ⟨k+1,by omega,by omega,?_⟩;(refine Zai (by simp only[go_sem];((repeat' (first|exact ZaW _ _|refine ZaJ ?_ ?_))<;>((try simp only[ZaT,ZbG,ZbH,Nat.reduceEqDiff,reduceIte]);first|exact AWk.refl _ _|exact AWk.int (by omega)|exact AWk.int (by rw[w64 (by omega) (by omega)];omega)|exact AWk.grow rfl|exact AWk.nil _|exact AWk.of (by (rw[Zd9 (Zkp t.n) h];simp[Bool.and_assoc,Zkp]))))) (by simp only[go_sem];exact Zaa))
    ·have h:k=t.pres.length:=by simp at h;omega
     subst h;rw[List.take_length];have hok:(g1&&t.pres.all (Zkp t.n))=t.ok:=by
      rw[←hg1,←hg0];unfold Tray.ok;cases t.okHead<;>cases t.recs.all ZdF<;>cases decide (t.pres.length≤12)<;>rfl
     rw[hok];refine vR ?_;cases t.ok
     ·(refine vC ?_ ?_<;>intro h)
      ·refine vR ?_;(refine vT ?_;try exact trivial)
      ·simp at h
     ·(refine vC ?_ ?_<;>intro h)
      ·simp at h
      ·refine vR ?_;(refine vT ?_;try exact trivial)
def Zjy (t:Tray) (most:Int):Bool:=decide ((t.pres.length:Int)≤most)&&t.pres.all (Zkp t.n)
set_option maxRecDepth 20000 in
set_option maxHeartbeats 8000000 in
theorem presses64 (t:Tray) (most:Int) (hn:t.n≤1000):FSpec Tryz.prog 105 [t.av,iv most] (iv (if Zjy t most then 0 else 20)):=by
 refine Zac ZAr (Nat.le_refl _) (by decide) fun C hP hN hC hL=> ?_;rw[Zad]
 obtain ⟨h1,h2⟩:=Tray.lens hL;simp only[Zu3,Tray.av];(repeat (refine vV ?_;(try simp only[go_sem,hP,ZbR,List.length_map]);refine vQ ?_))
 (refine vC ?_ ?_<;>intro h)
 ·have h:most<(t.pres.length:Int):=by simpa using h
  refine vR ?_;(refine vT ?_;try exact trivial)
  have:Zjy t most=false:=by simp[Zjy];intro h';omega
  rw[this];rfl
 have hm:(t.pres.length:Int)≤most:=by simp at h;omega
 clear h;have hpb:Zjy t most=t.pres.all (Zkp t.n):=by unfold Zjy;rw[decide_eq_true hm];rfl
 rw[hpb];refine vR ?_;(refine Zax Zqc [] (fun k:Nat=>k≤t.pres.length∧(t.pres.take k).all (Zkp t.n)=true) (fun k=>t.pres.length -k) (fun k=>[(5,iv k)]) (fun _=>[]) 0 ⟨Nat.zero_le _,by simp⟩ ?_ ?_)
 ·exact Zaz
 ·intro k ⟨hk,ha⟩;simp only[go_sem];(repeat (refine vV ?_;(try simp only[go_sem,hP,ZbR,List.length_map]);refine vQ ?_))
  (refine vC ?_ ?_<;>intro h)
  ·have h:k<t.pres.length:=by simpa using h
   have hkl:=h;have hI:(k:Int)<(t.pres.length:Int):=by omega
   have hw2:=w64 (n:=(k:Int)+1) (by omega) (by omega);(repeat (refine vV ?_;(try simp only[go_sem,hP,ZbR,Za7 h,List.length_map,hI,Int.natCast_nonneg,Pr.cds]);refine vQ ?_))
   (refine Zau (ZnL t _ hn) ?_;simp only[go_sem,hP,Tray.av,ZbR,Za7 h,List.length_map,hI,Int.natCast_nonneg,Pr.cds];refine vQ ?_;(repeat (refine vV ?_;(try simp only[go_sem,hP,Tray.av,ZbR,Za7 h,List.length_map,hI,Int.natCast_nonneg,Pr.cds]);refine vQ ?_)))
   (refine Za9 (fun hG=>ZnM _) ?_;simp only[go_sem,hP];refine vQ ?_;refine vR ?_)
   have hb:(!ZeI t.n t.pres[k].side|| !Zgz t.pres[k].time)= !Zkp t.n t.pres[k]:=by unfold Zkp;cases ZeI t.n t.pres[k].side<;>cases Zgz t.pres[k].time<;>rfl
   rw[hb];cases hbb:Zkp t.n t.pres[k]
   ·(refine vC ?_ ?_<;>intro h)
    ·refine vR ?_;(refine vT ?_;try exact trivial)
     have:t.pres.all (Zkp t.n)=false:=List.all_eq_false.2 ⟨_,List.getElem_mem hkl,by simp[hbb]⟩;rw[this];rfl
    ·simp at h
   ·(refine vC ?_ ?_<;>intro h)
    ·simp at h
    ·refine vW hw2 ?_;refine ⟨k+1,⟨by omega,by rw[Zd9 (Zkp t.n) (by assumption),ha,hbb];rfl⟩,by omega,?_⟩;exact Zaz
  ·have h:k=t.pres.length:=by simp at h;omega
   subst h;rw[List.take_length] at ha;refine vR ?_;(refine vT ?_;try exact trivial)
   rw[ha];rfl
set_option maxRecDepth 20000 in
set_option maxHeartbeats 8000000 in
theorem rcheck41 (t:Tray):FSpec Tryz.prog 56 [t.av] (iv (if t.ok then 0 else 20)):=by
 refine Zac c56 (Nat.le_refl _) (by decide) fun C hP hN hC hL=> ?_;rw[Zad]
 obtain ⟨h1,h2⟩:=Tray.lens hL;have hn':t.recs.length=t.n:=rfl;simp only[ZzH,Tray.av];have w1:=w64 (n:=(t.n:Int) -1) (by omega) (by omega);(repeat (refine vV ?_;(try simp only[go_sem,hP,ZaO,List.length_map,hn']);refine vQ ?_))
 (refine Zau (ZtY _ _ _) ?_;simp only[go_sem,hP,w1,ZaO,List.length_map,hn'];refine vQ ?_;(repeat (refine vV ?_;(try simp only[go_sem,hP,w1,ZaO,List.length_map,hn']);refine vQ ?_)))
 (refine Za9 (fun hG=>ZtY _ _ _) ?_;simp only[go_sem,hP];refine vQ ?_;refine vR ?_)
 (refine Za9 (fun hG=>ZtY _ _ _) ?_;simp only[go_sem,hP];refine vQ ?_;refine vR ?_)
 have hh:(!Zah (t.n:Int) 1 6||(!Zah t.at_ 0 ((t.n:Int) -1)||((t.way !=1&&t.way != -1)|| !Zah t.step 0 60)))= !t.okHead:=by
  unfold Tray.okHead;cases Zah (t.n:Int) 1 6<;>cases Zah t.at_ 0 ((t.n:Int) -1)<;>cases Zah t.step 0 60<;>cases h5:(t.way==1)<;>cases h6:(t.way== -1)<;>simp[bne,h5,h6]
 have hh2:(((!Zah (t.n:Int) 1 6|| !Zah t.at_ 0 ((t.n:Int) -1))||(t.way !=1&&t.way != -1))|| !Zah t.step 0 60)= !t.okHead:=by
  rw[←hh];simp only[Bool.or_assoc]
 rw[hh2];cases hhd:t.okHead
 ·(refine vC ?_ ?_<;>intro h)
  ·refine vR ?_;(refine vT ?_;try exact trivial)
   simp[Tray.ok,hhd]
  ·simp at h
 (refine vC ?_ ?_<;>intro h)
 ·simp at h
 clear h;have hn6:t.n≤6:=by
  simp only[Tray.okHead,Zah,Bool.and_eq_true,decide_eq_true_eq] at hhd;omega
 have hok:t.ok=(t.recs.all ZdF&&Zjy t 12):=by
  unfold Tray.ok Zjy;rw[hhd];have e:decide ((t.pres.length:Int)≤12)=decide (t.pres.length≤12):=by simp;omega
  rw[e];cases t.recs.all ZdF<;>cases decide (t.pres.length≤12)<;>rfl
 rw[hok];refine vR ?_;(refine Zax Zuf [] (fun k:Nat=>k≤t.n∧(t.recs.take k).all ZdF=true) (fun k=>t.n -k) (fun k=>[(3,iv k)]) (fun _=>[]) 0 ⟨Nat.zero_le _,by simp⟩ ?_ ?_)
 ·exact Zaz
 ·intro k ⟨hk,ha⟩;simp only[go_sem];(repeat (refine vV ?_;(try simp only[go_sem,hP,ZaO,List.length_map,hn']);refine vQ ?_))
  (refine vC ?_ ?_<;>intro h)
  ·have h:k<t.recs.length:=by simp at h;omega
   have hkl:=h;have hI:(k:Int)<(t.n:Int):=by omega
   have hw2:=w64 (n:=(k:Int)+1) (by omega) (by omega);(repeat (refine vV ?_;(try simp only[go_sem,hP,ZaO,Za7 h,List.length_map,hn',hI,Int.natCast_nonneg,Rec.cds]);refine vQ ?_))
   (refine Zau (ZtY _ _ _) ?_;simp only[go_sem,hP,ZaO,Za7 h,List.length_map,hn',hI,Int.natCast_nonneg,Rec.cds];refine vQ ?_;(repeat (refine vV ?_;(try simp only[go_sem,hP,ZaO,Za7 h,List.length_map,hn',hI,Int.natCast_nonneg,Rec.cds]);refine vQ ?_)))
   (refine Za9 (fun hG=>ZtY _ _ _) ?_;simp only[go_sem,hP];refine vQ ?_;refine vR ?_)
   have hb:(!Zah t.recs[k].front 1 999|| !Zah t.recs[k].back 1 999)= !ZdF t.recs[k]:=by unfold ZdF;cases Zah t.recs[k].front 1 999<;>cases Zah t.recs[k].back 1 999<;>rfl
   rw[hb];cases hbb:ZdF t.recs[k]
   ·(refine vC ?_ ?_<;>intro h)
    ·refine vR ?_;(refine vT ?_;try exact trivial)
     have:t.recs.all ZdF=false:=List.all_eq_false.2 ⟨_,List.getElem_mem hkl,by simp[hbb]⟩;rw[this];rfl
    ·simp at h
   ·(refine vC ?_ ?_<;>intro h)
    ·simp at h
    ·refine vW hw2 ?_;refine ⟨k+1,⟨by omega,by rw[Zd9 ZdF (by assumption),ha,hbb];rfl⟩,by omega,?_⟩;exact Zaz
  ·have h:k=t.recs.length:=by simp at h;omega
   subst h;rw[List.take_length] at ha;refine vR ?_;(refine Zau (presses64 t 12 (by omega)) ?_;simp only[go_sem,hP,Tray.av,ZaO];refine vQ ?_;(repeat (refine vV ?_;(try simp only[go_sem,hP,Tray.av,ZaO]);refine vQ ?_)))
   (refine vT ?_;try exact trivial)
   rw[ha];simp
abbrev ZyL:List Ins:=[JSf 3 0 1,JSL 4 8 3,JSc 5 115 [.t 4],JSk 6 .neq 5 0,JSm 7 6,JNf 8 10 1 7,JNL 9 5 8 7,JNc 10 73 [.t 9] 7,JNk 11 .neq 10 0 7,JSo 12 7 11,JSm 13 12,JNf 14 8 1 13,JNf 15 0 14 13,JNl 16 15 13,JNk 17 .lss 16 0 13,JSo 18 13 17,JSm 19 18,JNf 20 8 1 19,JNf 21 0 20 19,JNl 22 21 19,JNf 23 0 1 19,JNf 24 0 23 19,JNf 25 0 24 19,JNl 26 25 19,JNb 27 .geq 22 26 19,JSo 28 19 27,JSm 29 28,JNf 30 8 1 29,JNf 31 1 30 29,JNl 32 31 29,JNk 33 .lss 32 0 29,JSo 34 29 33,JSm 35 34,JNf 36 8 1 35,JNf 37 1 36 35,JNl 38 37 35,JNk 39 .gtr 38 20 35,JSo 40 35 39]
def Zz4:FC:=⟨1,41,[.t 2],(.seq (.ops [JS 1 (.box 15 (.t 0)),JSi 2 0]) (.seq (.seq (.ops ZyL) (.cond (.t 40) (.seq (.ops [JSi 2 120]) .ret) .skip)) (.seq (.ops [JSi 2 0]) .ret)))⟩
theorem c91:Zao Tryz.prog [] 91=some Zz4:=by kernel_rfl
structure Bar where
 box:Bx
 pl:Int
 cr:Int
 tray:Tray
def Bar.cds (b:Bar):List CD:=[.int .i64 b.box.wh.ro,Zaj b.box.wh.no,Zaj b.box.wh.co,Zaj b.box.fo,Zaj b.box.ma,Zaj b.box.sl,.int .i64 b.box.pl,.int .i64 b.box.sk,.int .i64 b.pl,.int .i64 b.cr,ZaO b.tray.recs,.int .i64 b.tray.at_,.int .i64 b.tray.way,.int .i64 b.tray.step,ZbR b.tray.pres]
def Bar.avs (b:Bar):List AV:=[iv b.box.wh.ro,.c (Zaj b.box.wh.no),.c (Zaj b.box.wh.co),.c (Zaj b.box.fo),.c (Zaj b.box.ma),.c (Zaj b.box.sl),iv b.box.pl,iv b.box.sk,iv b.pl,iv b.cr,.c (ZaO b.tray.recs),iv b.tray.at_,iv b.tray.way,iv b.tray.step,.c (ZbR b.tray.pres)]
def Bar.av (b:Bar):AV:=.agg b.avs
def Zcr (b:Bar):Bool:=bxB b.box&&(b.tray.ok&&(decide (0≤b.pl)&&(decide (b.pl<b.box.wh.ro)&&(decide (0≤b.cr)&&decide (b.cr≤20)))))
def ZeT (b:Bar):Int:=if Zcr b then 0 else 120
set_option maxRecDepth 100000 in
set_option maxHeartbeats 4000000 in
theorem check25 (b:Bar):FSpec Tryz.prog 91 [b.av] (iv (ZeT b)):=by
 have h1:=check28 b.box;have h2:=check40 b.tray;refine Zac c91 (Nat.le_refl _) (by decide) fun C hP hN hC hL=> ?_;rw[Zad]
 simp only[Zz4,Bar.av,Bar.avs];simp only[Bx.av,Bx.avs] at h1;simp only[Tray.av] at h2;refine vR ?_;(refine Zau (h1) ?_;simp only[go_sem,hP];refine vQ ?_;refine vR ?_)
 (refine Za9 (fun hG=>h2) ?_;simp only[go_sem,hP];refine vQ ?_;refine vR ?_)
 by_cases hb:Zcr b=true
 ·have he:ZeT b=0:=by unfold ZeT;rw[if_pos hb]
  rw[he];simp only[Zcr,Bool.and_eq_true,decide_eq_true_eq] at hb;have e1:bxE b.box=0:=by unfold bxE;rw[if_pos hb.1]
  have e2:(if b.tray.ok then (0:Int) else 20)=0:=by rw[if_pos hb.2.1]
  (refine vC ?_ ?_<;>intro h)
  ·exfalso;rw[e1,e2] at h;simp at h;omega
  ·refine vR ?_;(refine vT ?_;try exact trivial)
 ·have he:ZeT b=120:=by unfold ZeT;rw[if_neg hb]
  rw[he];(refine vC ?_ ?_<;>intro h)
  ·refine vR ?_;(refine vT ?_;try exact trivial)
  ·exfalso;apply hb;simp only[Zcr,Bool.and_eq_true,decide_eq_true_eq];have e1:bxB b.box=true:=by
    cases hx:bxB b.box with
    |true=>rfl
    |false=>unfold bxE at h;rw[hx] at h;simp at h
   have e2:b.tray.ok=true:=by
    cases hx:b.tray.ok with
    |true=>rfl
    |false=>rw[hx] at h;simp at h
   refine ⟨e1,e2,?_⟩;simp at h;omega
end Go.Proofs.YtcggfogkfhlmlaaGreatDoor
/-
 Ranks:the greater rest first,and of two equal ones the lesser number:plain.
-/
namespace Go.Proofs.YtcggfogkfhlmlaaGreatDoor
open Go Go.V
def before (f:Nat→Int) (a b:Nat):Bool:=decide (f b<f a)||(f a==f b&&decide (a<b))
theorem Zgr (f:Nat→Int) (a:Nat):before f a a=false:=by simp[before]
theorem ZeE (f:Nat→Int) {a b c:Nat} (h:before f a b=true) (k:before f b c=true):before f a c=true:=by
 unfold before at*;simp only[Bool.or_eq_true,decide_eq_true_eq,Bool.and_eq_true,beq_iff_eq] at*;omega
def rank (f:Nat→Int) (n i:Nat):Nat:=((List.range n).filter fun k=>before f k i).length
structure Ordered (f:Nat→Int) (n:Nat) (l:List Nat):Prop where
 perm:l.Perm (List.range n)
 sorted:l.Pairwise fun a b=>before f a b=true
theorem Ordered.len {f:Nat→Int} {n:Nat} {l:List Nat} (h:Ordered f n l):l.length=n:=by
 rw[h.perm.length_eq,List.length_range]
theorem Ordered.rank {f:Nat→Int} {n:Nat} {l:List Nat} (h:Ordered f n l) {j:Nat} (hj:j<l.length):rank f n l[j]=j:=by
 unfold Go.Proofs.YtcggfogkfhlmlaaGreatDoor.rank;rw[←(h.perm.filter _).length_eq];have e:l=l.take j++l[j]::l.drop (j+1):=by rw[List.getElem_cons_drop,List.take_append_drop]
 have hs:=List.pairwise_iff_getElem.1 h.sorted;have h1:(l.take j).filter (fun k=>before f k l[j])=l.take j:=by
  rw[List.filter_eq_self];intro x hx;obtain ⟨i,hi,rfl⟩:=List.mem_take_iff_getElem.1 hx;exact hs i j (by omega) hj (by omega)
 have h2:(l.drop (j+1)).filter (fun k=>before f k l[j])=[]:=by
  rw[List.filter_eq_nil_iff];intro x hx;obtain ⟨i,hi,rfl⟩:=List.mem_drop_iff_getElem.1 hx;have:=hs j (j+1+i) hj (by omega) (by omega);intro hb;have h3:=ZeE f this hb;rw[Zgr] at h3;cases h3
 have e2:l.filter (fun k=>before f k l[j])=(l.take j++l[j]::l.drop (j+1)).filter (fun k=>before f k l[j]):=congrArg (List.filter (fun k=>before f k l[j])) e;rw[e2,List.filter_append,List.filter_cons,h1,h2,Zgr];simp;omega
theorem Ordered.mem {f:Nat→Int} {n:Nat} {l:List Nat} (h:Ordered f n l) {i:Nat} (hi:i<n):∃j,∃hj:j<l.length,l[j]=i:=by
 have:i∈l:=h.perm.mem_iff.2 (List.mem_range.2 hi);obtain ⟨j,hj,e⟩:=List.mem_iff_getElem.1 this;exact ⟨j,hj,e⟩
theorem Ordered.lt {f:Nat→Int} {n:Nat} {l:List Nat} (h:Ordered f n l) {j:Nat} (hj:j<l.length):l[j]<n:=
 List.mem_range.1 (h.perm.mem_iff.1 (List.getElem_mem hj))
def mv {α:Type} (l:List α) (i j:Nat):List α:=l.take j++((l.drop i).take 1++((l.drop j).take (i -j)++l.drop (i+1)))
theorem Zii {α:Type} {l:List α} {i j:Nat} (hi:i<l.length) (hj:j≤i):(mv l i j).length=l.length:=by
 simp[mv];omega
theorem ZgD {α:Type} {l:List α} {i j:Nat} (hi:i<l.length) (hj:j≤i) (t:Nat):(mv l i j)[t]? =if t<j then l[t]? else if t=j then l[i]? else if t≤i then l[t -1]? else l[t]?:=by
 unfold mv;rw[List.getElem?_append];have e1:(l.take j).length=j:=by simp;omega
 have e2:((l.drop i).take 1).length=1:=by simp;omega
 have e3:((l.drop j).take (i -j)).length=i -j:=by simp;omega
 rw[e1];split
 ·rename_i h;rw[List.getElem?_take,if_pos h]
 ·rename_i h;rw[List.getElem?_append,e2];split
  ·rename_i h2;have:t=j:=by omega
   subst this;rw[if_pos rfl,List.getElem?_take,if_pos (by omega),List.getElem?_drop];congr 1
   omega
  ·rename_i h2;rw[if_neg (by omega),List.getElem?_append,e3];split
   ·rename_i h3;rw[if_pos (by omega),List.getElem?_take,if_pos h3,List.getElem?_drop];congr 1
    omega
   ·rename_i h3;rw[if_neg (by omega),List.getElem?_drop];congr 1
    omega
theorem ZrY {α:Type} {l:List α} {i:Nat} (hi:i<l.length):mv l i i=l:=by
 apply List.ext_getElem?;intro t;rw[ZgD hi (Nat.le_refl _)];split
 ·rfl
 ·split
  ·rename_i h;rw[h]
  ·rw[if_neg (by omega)]
theorem ZrZ {α:Type} {l:List α} {i j:Nat} (hi:i<l.length) (hj:j<i) (x y:α) (hx:l[i]? =some x) (hy:l[j]? =some y):((mv l i (j+1)).set (j+1) y).set j x=mv l i j:=by
 apply List.ext_getElem?;intro t;rw[List.getElem?_set,List.getElem?_set,List.length_set,Zii hi hj,ZgD hi hj,ZgD hi (by omega)];by_cases h1:j=t
 ·subst h1;rw[if_pos rfl,if_pos (by omega),if_neg (by omega),if_pos rfl,hx]
 ·rw[if_neg h1];by_cases h2:j+1=t
  ·subst h2;rw[if_pos rfl,if_pos (by omega),if_neg (by omega),if_neg (by omega),if_pos (by omega),Nat.add_sub_cancel,hy]
  ·rw[if_neg h2];by_cases h3:t<j
   ·rw[if_pos (by omega),if_pos h3]
   ·rw[if_neg (by omega),if_neg (by omega),if_neg h3,if_neg (show¬t=j from fun e=>h1 e.symm)]
structure SortI (f:Nat→Int) (n i:Nat) (l:List Nat):Prop where
 len:l.length=n
 perm:(l.take i).Perm (List.range i)
 sorted:(l.take i).Pairwise fun a b=>before f a b=true
 rest:∀t,i≤t→t<n→l[t]? =some t
theorem SortI.first (f:Nat→Int) {n:Nat} (hn:0<n):SortI f n 1 (List.range n):=by
 have e:(List.range n).take 1=[0]:=by
  cases n with
  |zero=>omega
  |succ n=>rw[List.range_succ_eq_map];rfl
 refine ⟨by simp,?_,?_,fun t _ h=>by simp[h]⟩
 ·rw[e];exact List.Perm.refl _
 ·rw[e];simp
theorem SortI.lt {f:Nat→Int} {n i:Nat} {l:List Nat} (h:SortI f n i l) {t:Nat} (ht:t<i) (hi:i≤n) {x:Nat} (hx:l[t]? =some x):x<i:=by
 have:x∈l.take i:=by
  rw[List.mem_take_iff_getElem];obtain ⟨h1,h2⟩:=List.getElem?_eq_some_iff.1 hx;exact ⟨t,by omega,h2⟩
 exact List.mem_range.1 (h.perm.mem_iff.1 this)
theorem SortI.step {f:Nat→Int} {n i j:Nat} {l:List Nat} (h:SortI f n i l) (hi:i<n) (hj:j≤i) (h1:∀t x,j≤t→t<i→l[t]? =some x→f x<f i) (h2:∀x,0<j→l[j -1]? =some x→f i≤f x):SortI f n (i+1) (mv l i j):=by
 have hl:=h.len;have hx:(l.drop i).take 1=[i]:=by
  rw[List.drop_eq_getElem_cons (by omega)];have:=h.rest i (Nat.le_refl _) hi;rw[List.getElem?_eq_getElem (by omega)] at this;simp only[Option.some.injEq] at this;simp[this]
 have ht:(mv l i j).take (i+1)=l.take j++(i::(l.drop j).take (i -j)):=by
  unfold mv;rw[hx,←List.append_assoc [i],←List.append_assoc (l.take j),List.take_left' (by simp;omega)];rfl
 have hp:l.take i=l.take j++(l.drop j).take (i -j):=by
  have:=List.take_append_drop j (l.take i);rw[List.take_take,List.drop_take,Nat.min_eq_left hj] at this;exact this.symm
 have hs:=h.sorted;rw[hp,List.pairwise_append] at hs;have hA:∀x∈l.take j,before f x i=true:=by
  intro x hxm;obtain ⟨t,htl,rfl⟩:=List.mem_take_iff_getElem.1 hxm;have hti:l[t]<i:=h.lt (t:=t) (by omega) (by omega) (List.getElem?_eq_getElem (by omega));have hlast:before f (l[j -1]'(by omega)) i=true:=by
   have h3:=h2 _ (by omega) (List.getElem?_eq_getElem (by omega));have h4:l[j -1]'(by omega)<i:=h.lt (t:=j -1) (by omega) (by omega) (List.getElem?_eq_getElem (by omega));simp only[before,Bool.or_eq_true,decide_eq_true_eq,Bool.and_eq_true,beq_iff_eq];omega
  by_cases htj:t=j -1
  ·subst htj;exact hlast
  ·refine ZeE f ?_ hlast;have:=List.pairwise_iff_getElem.1 h.sorted t (j -1) (by simp;omega) (by simp;omega) (by omega);simpa using this
 have hB:∀x∈(l.drop j).take (i -j),before f i x=true:=by
  intro x hxm;obtain ⟨t,htl,rfl⟩:=List.mem_take_iff_getElem.1 hxm;simp only[List.getElem_drop];have h3:=h1 (j+t) _ (by omega) (by simp at htl;omega) (List.getElem?_eq_getElem (by simp at htl;omega));simp only[before,Bool.or_eq_true,decide_eq_true_eq];exact .inl h3
 refine ⟨by rw[Zii (by omega) hj];exact hl,?_,?_,fun t h3 h4=> ?_⟩
 ·rw[ht,List.range_succ];refine List.perm_middle.trans ?_;rw[←hp];exact (List.Perm.cons i h.perm).trans (List.perm_append_comm (l₁:=[i]))
 ·rw[ht,List.pairwise_append,List.pairwise_cons];refine ⟨hs.1,⟨hB,hs.2.1⟩,fun a ha b hb=> ?_⟩;rcases List.mem_cons.1 hb with rfl|hb
  ·exact hA a ha
  ·exact hs.2.2 a ha b hb
 ·rw[ZgD (by omega) hj,if_neg (by omega),if_neg (by omega),if_neg (by omega)];exact h.rest t (by omega) h4
theorem SortI.done {f:Nat→Int} {n i:Nat} {l:List Nat} (h:SortI f n i l) (hi:n≤i):Ordered f n l:=by
 have hl:=h.len;have h1:=h.perm;have h2:=h.sorted;rw[List.take_of_length_le (by omega)] at h1 h2;have:i=n:=by
  have:=h1.length_eq;simp at this;omega
 subst this;exact ⟨h1,h2⟩
end Go.Proofs.YtcggfogkfhlmlaaGreatDoor
/-
 The carriage:plain.
-/
namespace Go.Proofs.YtcggfogkfhlmlaaGreatDoor
open Go Go.V
structure Sp where
 at_:Int
 way:Int
 side:Int
 from_:Int
 deriving DecidableEq,Inhabited
def Sp.cds (s:Sp):List CD:=[.int .i64 s.at_,.int .i64 s.way,.int .i64 s.side,.int .i64 s.from_]
def Zi3 (up:Bool):Int:=if up then 1 else-1
structure Cs where
 q:List Pr
 pins:List Bool
 now:Int
 at_:Nat
 up:Bool
 side:Int
 spells:List Sp
 plays:List Pr
 steps:Int
 end_:Int
 deriving DecidableEq,Inhabited
def Zf6 (k:Nat) (up:Bool):Nat:=if up then 2*k else 2*k+1
def Tray.rc (t:Tray) (k:Nat):Rec:=t.recs.getD k default
def Zlw (t:Tray) (s:Nat):Int:=if s % 2=0 then (t.rc (s/2)).front else (t.rc (s/2)).back
def Cs.mark (s:Cs) (side:Int):Cs:={s with side:=side,spells:=s.spells++[⟨s.at_,Zi3 s.up,side,s.now⟩]}
def Zbz (now:Int):List Pr→List Bool→List Pr×List Bool
 |[],pins=>([],pins)
 |p::q,pins=>if p.time≤now then Zbz now q (pins.set p.side.toNat true) else (p::q,pins)
def Cs.press (s:Cs):Cs:={s with q:=(Zbz s.now s.q s.pins).1,pins:=(Zbz s.now s.q s.pins).2}
def Cs.move (t:Tray) (s:Cs):Cs:=
 if s.up then (if s.at_+1<t.n then {s with at_:=s.at_+1,now:=s.now+t.step,steps:=s.steps+1} else {s with up:=false})
 else (if 0<s.at_ then {s with at_:=s.at_ -1,now:=s.now+t.step,steps:=s.steps+1} else {s with up:=true})
def Cs.next (t:Tray) (s:Cs):Cs:=(s.move t).mark (-1)
def Cs.pos (s:Cs):Nat:=Zf6 s.at_ s.up
def Cs.play1 (s:Cs):Cs:=({s with pins:=s.pins.set s.pos false,plays:=s.plays++[⟨s.pos,s.now⟩]}:Cs).mark s.pos
def Cs.play2 (t:Tray) (s:Cs):Cs:=({s with now:=s.now+Zlw t s.pos,end_:=s.now+Zlw t s.pos}:Cs).mark (-1)
def Cs.play (t:Tray) (s:Cs):Cs:=if s.pins.getD s.pos false=true then (s.play1).play2 t else s
def Cs.act1 (t:Tray) (s:Cs):Option Cs:=
 if s.pins.all (!·) then (match s.q with|[]=>none|p::_=>some {s with now:=p.time}) else some ((s.play t).next t)
def Cs.act (t:Tray) (s:Cs):Option Cs:=s.press.act1 t
def Zoi (t:Tray):Nat→Cs→Cs
 |0,s=>s
 |k+1,s=>match s.act t with|none=>s.press|some s'=>Zoi t k s'
def Zcn (t:Tray) (q:List Pr):Cs:=⟨q,List.replicate (2*t.n) false,0,t.at_.toNat,t.way==1,-1,[],[],0,0⟩
def ZdZ (t:Tray) (q:List Pr):Cs:=Zoi t 250 ((Zcn t q).mark (-1))
def cyc (n:Nat) (k:Nat) (up:Bool):Nat:=if up then k else 2*n -1 -k
def ZdC (n:Nat) (s:Nat):Nat:=cyc n (s/2) (s % 2==0)
theorem Zk7 (n k:Nat) (up:Bool):ZdC n (Zf6 k up)=cyc n k up:=by
 unfold ZdC Zf6;cases up
 ·have h1:(2*k+1)/2=k:=by omega
  have h2:((2*k+1) % 2==0)=false:=by simp
  simp only[Bool.false_eq_true,if_false,h1,h2]
 ·have h1:(2*k)/2=k:=by omega
  have h2:((2*k) % 2==0)=true:=by simp
  simp only[if_true,h1,h2]
theorem Zg9 {n s:Nat} (h:s<2*n):ZdC n s<2*n:=by
 unfold ZdC cyc;split<;>omega
theorem Zh3 {n s s':Nat} (h:s<2*n) (h':s'<2*n) (e:ZdC n s=ZdC n s'):s=s':=by
 unfold ZdC cyc at e;by_cases h1:s % 2=0<;>by_cases h2:s' % 2=0<;>simp[h1,h2] at e<;>omega
def ZoP (n c d:Nat):Nat:=if c≤d then d -c else d+2*n -c
theorem Zrz {n c d:Nat} (hc:c<2*n) (hd:d<2*n):ZoP n c d<2*n:=by unfold ZoP;split<;>omega
def ZdB (n c:Nat):Nat:=if c+1=2*n then 0 else c+1
theorem Zh4 {n c d:Nat} (hc:c<2*n) (hd:d<2*n) (h:c≠d):ZoP n (ZdB n c) d+1=ZoP n c d:=by
 unfold ZoP ZdB;split<;>split<;>split<;>omega
structure CsOk (t:Tray) (s:Cs):Prop where
 at_:s.at_<t.n
 pins:s.pins.length=2*t.n
 q:∀p∈s.q,(0≤p.side∧p.side<2*(t.n:Int))∧(0≤p.time∧p.time≤9999)
 now:0≤s.now
 sorted:s.q.Pairwise fun a b=>a.time≤b.time
def Zdf (n c:Nat) (pins:List Bool):Nat:=((List.range pins.length).map fun s=>if pins.getD s false then ZoP n c (ZdC n s)+1 else 0).sum
def jW (s:Cs):Nat:=match s.q with|[]=>0|p::_=>if s.now<p.time then 1 else 0
def Cs.c (t:Tray) (s:Cs):Nat:=cyc t.n s.at_ s.up
def mu (t:Tray) (s:Cs):Nat:=(2*t.n+2)*s.q.length+Zdf t.n (s.c t) s.pins+jW s
theorem ZqV {l:List Nat} {f g:Nat→Nat} (h:∀i∈l,f i≤g i):(l.map f).sum≤(l.map g).sum:=by
 induction l with
 |nil=>simp
 |cons a l ih=>
  simp only[List.map_cons,List.sum_cons];have:=h a (by simp);have:=ih fun i hi=>h i (by simp[hi])
  omega
theorem Zs6 {l:List Nat} (hn:l.Nodup) {f g:Nat→Nat} {k d:Nat} (h:∀i∈l,i≠k→f i≤g i) (hk:f k≤g k+d):(l.map f).sum≤(l.map g).sum+d:=by
 induction l with
 |nil=>simp
 |cons a l ih=>
  have hn':=List.nodup_cons.1 hn;simp only[List.map_cons,List.sum_cons];by_cases e:a=k
  ·subst e;have:(l.map f).sum≤(l.map g).sum:=ZqV fun i hi=>h i (by simp[hi]) (fun e=>hn'.1 (e▸hi))
   omega
  ·have h1:=h a (by simp) e;have:=ih hn'.2 fun i hi hne=>h i (by simp[hi]) hne
   omega
theorem ZwQ {l:List Nat} {f g:Nat→Nat} (h:∀i∈l,f i≤g i) {k:Nat} (hm:k∈l) (hk:f k<g k):(l.map f).sum<(l.map g).sum:=by
 induction l with
 |nil=>cases hm
 |cons a l ih=>
  simp only[List.map_cons,List.sum_cons];rcases List.mem_cons.1 hm with rfl|hm
  ·have:=ZqV (l:=l) (f:=f) (g:=g) fun i hi=>h i (by simp[hi])
   omega
  ·have h1:=h a (by simp);have:=ih (fun i hi=>h i (by simp[hi])) hm;omega
theorem ZgK (now:Int):∀(q:List Pr) (pins:List Bool),(Zbz now q pins).2.length=pins.length
 |[],pins=>rfl
 |p::q,pins=>by
  simp only[Zbz];split
  ·rw[ZgK now q];simp
  ·rfl
theorem Zb7 (now:Int):∀(q:List Pr) (pins:List Bool),∃k,(Zbz now q pins).1=q.drop k
 |[],pins=>⟨0,rfl⟩
 |p::q,pins=>by
  simp only[Zbz];split
  ·obtain ⟨k,h⟩:=Zb7 now q (pins.set p.side.toNat true);exact ⟨k+1,by rw[h];rfl⟩
  ·exact ⟨0,rfl⟩
theorem ZfX (now:Int):∀(q:List Pr) (pins:List Bool),∀p q',(Zbz now q pins).1=p::q'→now<p.time
 |[],pins,p,q',h=>by cases h
 |a::q,pins,p,q',h=>by
  simp only[Zbz] at h;split at h
  ·exact ZfX now q _ p q' h
  ·rename_i hn;simp only[List.cons.injEq] at h;obtain ⟨rfl,_⟩:=h;omega
theorem CsOk.press {t:Tray} {s:Cs} (h:CsOk t s):CsOk t s.press:=by
 obtain ⟨k,hk⟩:=Zb7 s.now s.q s.pins;refine ⟨h.at_,by simp only[Cs.press];rw[ZgK];exact h.pins,fun p hp=> ?_,h.now,?_⟩
 ·simp only[Cs.press,hk] at hp;exact h.q p (List.mem_of_mem_drop hp)
 ·simp only[Cs.press,hk];exact h.sorted.sublist (List.drop_sublist _ _)
theorem Znb {n c:Nat} {pins:List Bool} {k:Nat} (hc:c<2*n) (hl:pins.length=2*n) (hk:k<2*n):Zdf n c (pins.set k true)≤Zdf n c pins+2*n:=by
 unfold Zdf;rw[List.length_set];refine Zs6 (k:=k) List.nodup_range (fun i _ hne=> ?_) ?_
 ·have e2:(pins.set k true).getD i false=pins.getD i false:=by
   rw[List.getD_eq_getElem?_getD,List.getElem?_set,if_neg (fun e=>hne e.symm),←List.getD_eq_getElem?_getD]
  rw[e2];exact Nat.le_refl _
 ·have:=Zrz hc (Zg9 (n:=n) (s:=k) (by omega));split<;>omega
theorem Zit {n c:Nat} (hc:c<2*n) (now:Int):∀(q:List Pr) (pins:List Bool),pins.length=2*n→(∀p∈q,0≤p.side∧p.side<2*(n:Int))→
  (2*n+2)*(Zbz now q pins).1.length+Zdf n c (Zbz now q pins).2+2*(q.length -(Zbz now q pins).1.length)≤(2*n+2)*q.length+Zdf n c pins∧(Zbz now q pins).1.length≤q.length
 |[],pins,_,_=>by simp[Zbz]
 |p::q,pins,hl,h=>by
  simp only[Zbz];split
  ·have hp:=h p (by simp);have ih:=Zit hc now q (pins.set p.side.toNat true) (by simpa using hl) fun x hx=>h x (by simp[hx])
   have hs:=Znb hc hl (k:=p.side.toNat) (by omega);obtain ⟨i1,i2⟩:=ih;simp only[List.length_cons];have e:(2*n+2)*(q.length+1)=(2*n+2)*q.length+(2*n+2):=Nat.mul_succ _ _;rw[e];generalize (2*n+2)*q.length=A at*;generalize (2*n+2)*(Zbz now q (pins.set p.side.toNat true)).1.length=B at*;constructor<;>omega
  ·simp
theorem ZuJ {n k:Nat} {up:Bool} (h:k<n):cyc n k up<2*n:=by unfold cyc;split<;>omega
theorem Cs.c_lt {t:Tray} {s:Cs} (h:CsOk t s):s.c t<2*t.n:=ZuJ h.at_
theorem Zko {t:Tray} {s:Cs} (h:CsOk t s):(2*t.n+2)*s.press.q.length+Zdf t.n (s.press.c t) s.press.pins+2*(s.q.length -s.press.q.length)≤(2*t.n+2)*s.q.length+Zdf t.n (s.c t) s.pins∧s.press.q.length≤s.q.length:=
 Zit (Cs.c_lt h) s.now s.q s.pins h.pins fun p hp=>(h.q p hp).1
theorem Zne {t:Tray} {s:Cs} (h:CsOk t s):s.pos<2*t.n:=by have:=h.at_;unfold Cs.pos Zf6;split<;>omega
theorem Zry (t:Tray) (s:Cs):ZdC t.n s.pos=s.c t:=Zk7 _ _ _
theorem ZqK {t:Tray} {s:Cs} (h:s.at_<t.n):(s.move t).c t=ZdB t.n (s.c t)∧(s.move t).at_<t.n:=by
 unfold Cs.move Cs.c ZdB cyc;cases hu:s.up
 ·by_cases h0:0<s.at_
  ·simp[hu,h0];repeat' (first|omega|split|apply And.intro)
  ·simp[hu,h0];repeat' (first|omega|split|apply And.intro)
 ·by_cases h1:s.at_+1<t.n
  ·simp[hu,h1];repeat' (first|omega|split|apply And.intro)
  ·simp[hu,h1];repeat' (first|omega|split|apply And.intro)
theorem ZmZ (t:Tray) (s:Cs):(s.move t).q=s.q∧(s.move t).pins=s.pins∧(s.move t).plays=s.plays∧(s.move t).spells=s.spells∧(s.move t).end_=s.end_:=by
 unfold Cs.move;split<;>split<;>exact ⟨rfl,rfl,rfl,rfl,rfl⟩
theorem Zkn {t:Tray} (ht:0≤t.step) (s:Cs):s.now≤(s.move t).now∧(s.move t).now≤s.now+t.step∧s.steps≤(s.move t).steps∧(s.move t).steps≤s.steps+1:=by
 unfold Cs.move;split<;>split<;>simp only<;>omega
theorem Zln {n c:Nat} {pins:List Bool} (hc:c<2*n) (hl:pins.length=2*n) {k:Nat} (hk:k<2*n) (hck:ZdC n k=c) (h:pins.all (!·)=false):
  Zdf n (ZdB n c) (pins.set k false)<Zdf n c pins:=by
 unfold Zdf;rw[List.length_set,hl];obtain ⟨b,hb,hbt⟩:=List.all_eq_false.1 h;obtain ⟨i,hi,rfl⟩:=List.mem_iff_getElem.1 hb;have hbi:pins[i]=true:=by simpa using hbt
 have hle:∀j∈List.range (2*n),(if (pins.set k false).getD j false then ZoP n (ZdB n c) (ZdC n j)+1 else 0)≤(if pins.getD j false then ZoP n c (ZdC n j)+1 else 0):=by
  intro j hj;have hj:=List.mem_range.1 hj;by_cases e:k=j
  ·subst e;have:(pins.set k false).getD k false=false:=by
    rw[List.getD_eq_getElem?_getD,List.getElem?_set,if_pos rfl];split<;>rfl
   rw[this];simp
  ·have e2:(pins.set k false).getD j false=pins.getD j false:=by
    rw[List.getD_eq_getElem?_getD,List.getElem?_set,if_neg e,←List.getD_eq_getElem?_getD]
   rw[e2];have hne:c≠ZdC n j:=fun h=>e (Zh3 hk hj (by rw[hck,h]))
   have:=Zh4 hc (Zg9 hj) hne;split<;>omega
 refine ZwQ hle (k:=i) (List.mem_range.2 (by omega)) ?_;have hgi:pins.getD i false=true:=by rw[List.getD_eq_getElem?_getD,List.getElem?_eq_getElem hi];exact hbi
 rw[hgi];by_cases e:k=i
 ·subst e;have:(pins.set k false).getD k false=false:=by
   rw[List.getD_eq_getElem?_getD,List.getElem?_set,if_pos rfl];split<;>rfl
  rw[this];simp
 ·have e2:(pins.set k false).getD i false=true:=by
   rw[List.getD_eq_getElem?_getD,List.getElem?_set,if_neg e,←List.getD_eq_getElem?_getD];exact hgi
  rw[e2];have hne:c≠ZdC n i:=fun h=>e (Zh3 hk (by omega) (by rw[hck,h]))
  have:=Zh4 hc (Zg9 (s:=i) (n:=n) (by omega)) hne;simp;omega
theorem ZnU {pins:List Bool} {k:Nat} (h:pins.getD k false≠true):pins.set k false=pins:=by
 apply List.ext_getElem?;intro i;rw[List.getElem?_set];split
 ·rename_i e;subst e;split
  ·rename_i hk;rw[List.getD_eq_getElem?_getD,List.getElem?_eq_getElem hk] at h;rw[List.getElem?_eq_getElem hk];simp only[Option.getD_some] at h;simp at h;rw[h]
  ·rename_i hk;rw[List.getElem?_eq_none (by omega)]
 ·rfl
theorem Zd4 (t:Tray) (s:Cs):(s.play t).pins=s.pins.set s.pos false∧(s.play t).q=s.q∧(s.play t).at_=s.at_∧(s.play t).up=s.up:=by
 unfold Cs.play;split
 ·exact ⟨rfl,rfl,rfl,rfl⟩
 ·rename_i h;exact ⟨(ZnU h).symm,rfl,rfl,rfl⟩
theorem ZwG {t:Tray} (h:TrayOk t) {k:Nat} (hk:k<t.n):(1≤(t.rc k).front∧(t.rc k).front≤999)∧(1≤(t.rc k).back∧(t.rc k).back≤999):=by
 have hk':k<t.recs.length:=hk;have:=h.recs _ (List.getElem_mem hk');unfold Tray.rc;rwa [List.getD_eq_getElem?_getD,List.getElem?_eq_getElem hk']
theorem ZnS {t:Tray} (h:TrayOk t) {s:Nat} (hs:s<2*t.n):1≤Zlw t s∧Zlw t s≤999:=by
 have:=ZwG h (k:=s/2) (by omega);unfold Zlw;split
 ·exact this.1
 ·exact this.2
theorem Zho {t:Tray} (h:TrayOk t) {s:Cs} (hs:CsOk t s):s.now≤(s.play t).now∧(s.play t).now≤s.now+999∧(s.play t).steps=s.steps:=by
 have:=ZnS h (Zne hs);unfold Cs.play;split
 ·refine ⟨?_,?_,rfl⟩<;>show _≤_<;>simp only[Cs.play2,Cs.play1,Cs.mark,Cs.pos] at* <;>omega
 ·exact ⟨Int.le_refl _,by omega,rfl⟩
theorem Zrd {t:Tray} (h:TrayOk t) {s s':Cs} (hs:CsOk t s) (e:s.act1 t=some s'):CsOk t s':=by
 unfold Cs.act1 at e;split at e
 ·split at e
  ·cases e
  ·rename_i p q hq;simp only[Option.some.injEq] at e;subst e;exact ⟨hs.at_,hs.pins,hs.q,(hs.q p (by rw[hq];simp)).2.1,hs.sorted⟩
 ·simp only[Option.some.injEq] at e;subst e;obtain ⟨p1,p2,p3,p4⟩:=Zd4 t s;obtain ⟨m1,m2,m3,m4,m5⟩:=ZmZ t (s.play t);have hn:=Zho h hs;have hm:=Zkn h.step.1 (s.play t);refine ⟨(ZqK (by rw[p3];exact hs.at_)).2,?_,fun p hp=> ?_,?_,?_⟩
  ·show ((s.play t).move t).pins.length=_;rw[m2,p1,List.length_set];exact hs.pins
  ·have hp':p∈((s.play t).move t).q:=hp;rw[m1,p2] at hp';exact hs.q p hp'
  ·show 0≤((s.play t).move t).now;have:=hs.now;omega
  ·show ((s.play t).move t).q.Pairwise _;rw[m1,p2];exact hs.sorted
theorem Zuq {t:Tray} (h:TrayOk t) {s s':Cs} (hs:CsOk t s) (e:s.act t=some s'):CsOk t s':=Zrd h hs.press e
theorem Zup {t:Tray} {s s':Cs} (hs:CsOk t s) (e:s.act t=some s'):mu t s'<mu t s:=by
 have hpr:=Zko hs;have hp:=hs.press;have hhead:=ZfX s.now s.q s.pins;have hnow:s.press.now=s.now:=rfl;unfold Cs.act at e;have hj1:s.press.q.length=s.q.length→s.press.q=s.q:=by
  intro hl;obtain ⟨k,hk⟩:=Zb7 s.now s.q s.pins;have e1:s.press.q=s.q.drop k:=hk;rw[e1] at hl⊢;rw[List.length_drop] at hl;by_cases hk0:k=0
  ·rw[hk0];rfl
  ·have:s.q=[]:=by cases hq:s.q with
    |nil=>rfl
    |cons a l=>rw[hq] at hl;simp at hl;omega
   rw[this];simp
 have hjle:∀x:Cs,jW x≤1:=fun x=>by unfold jW;split<;>(try split)<;>omega
 have hjp:s.press.q=s.q→s.q≠[]→jW s=1:=by
  intro he hne;unfold jW;cases hq:s.q with
  |nil=>exact absurd hq hne
  |cons p q=>
   have:s.press.q=p::q:=by rw[he,hq]
   have:=hhead p q this;simp[this]
 unfold Cs.act1 at e;split at e
 ·split at e
  ·cases e
  ·rename_i p q hq;simp only[Option.some.injEq] at e;subst e;unfold mu;have hj0:jW ({s.press with now:=p.time}:Cs)=0:=by unfold jW;simp only[hq];simp
   rw[hj0];show (2*t.n+2)*s.press.q.length+Zdf t.n (s.press.c t) s.press.pins+0<_;by_cases hl:s.press.q.length=s.q.length
   ·have he:=hj1 hl;have hne:s.q≠[]:=by rw[←he,hq];simp
    have:=hjp he hne;omega
   ·omega
 ·rename_i hall;have hall:s.press.pins.all (!·)=false:=by simpa using hall
  simp only[Option.some.injEq] at e;subst e;obtain ⟨p1,p2,p3,p4⟩:=Zd4 t s.press;obtain ⟨m1,m2,m3,m4,m5⟩:=ZmZ t (s.press.play t);have hc1:(s.press.play t).c t=s.press.c t:=by unfold Cs.c;rw[p3,p4]
  have hmv:=(ZqK (t:=t) (s:=s.press.play t) (by rw[p3];exact hp.at_)).1;rw[hc1] at hmv;have hw:=Zln (Cs.c_lt hp) hp.pins (Zne hp) (Zry t s.press) hall;have e1:mu t ((s.press.play t).next t)=(2*t.n+2)*s.press.q.length+Zdf t.n (ZdB t.n (s.press.c t)) (s.press.pins.set s.press.pos false)+jW ((s.press.play t).next t):=by
   unfold mu;show (2*t.n+2)*((s.press.play t).move t).q.length+Zdf t.n (((s.press.play t).move t).c t) ((s.press.play t).move t).pins+_=_;rw[m1,m2,hmv,p1,p2]
  rw[e1];unfold mu;have hj2:=hjle ((s.press.play t).next t);by_cases hl:s.press.q.length=s.q.length
  ·have he:=hj1 hl;by_cases hne:s.q=[]
   ·have:jW ((s.press.play t).next t)=0:=by
     unfold jW;have:((s.press.play t).next t).q=[]:=by
      show ((s.press.play t).move t).q=[];rw[m1,p2,he,hne]
     rw[this]
    omega
   ·have:=hjp he hne;omega
  ·omega
end Go.Proofs.YtcggfogkfhlmlaaGreatDoor
/-
 The order by times,and how far a run goes:plain.
-/
namespace Go.Proofs.YtcggfogkfhlmlaaGreatDoor
open Go Go.V
theorem ZjH (f:Nat→Int) {n:Nat}:∃l,Ordered f n l:=by
 cases n with
 |zero=>exact ⟨[],by simp,List.Pairwise.nil⟩
 |succ n=>
  have h:∀i,1≤i→i≤n+1→∃l,SortI f (n+1) i l:=by
   intro i;induction i with
   |zero=>intro h;omega
   |succ i ih=>
    intro _ hi;cases i with
    |zero=>exact ⟨_,SortI.first f (by omega)⟩
    |succ i=>
     obtain ⟨l,hl⟩:=ih (by omega) (by omega);have hj:∀m,m≤i+1→∃j,j≤i+1∧(∀t x,j≤t→t<i+1→l[t]? =some x→f x<f (i+1))∧(j≤i+1 -m∨∃x,0<j∧l[j -1]? =some x∧f (i+1)≤f x):=by
      intro m;induction m with
      |zero=>intro _;exact ⟨i+1,Nat.le_refl _,fun t x h1 h2=>by omega,.inl (by omega)⟩
      |succ m ihm=>
       intro hm;obtain ⟨j,h1,h2,h3⟩:=ihm (by omega);rcases h3 with h3|h3
       ·by_cases hj0:j≤i+1 -(m+1)
        ·exact ⟨j,h1,h2,.inl hj0⟩
        ·have hlen:=hl.len;have hjl:j -1<l.length:=by omega
         have hg:l[j -1]? =some l[j -1]:=List.getElem?_eq_getElem hjl;by_cases hf:f l[j -1]<f (i+1)
         ·refine ⟨j -1,by omega,fun t x h4 h5 h6=> ?_,.inl (by omega)⟩;by_cases ht:t=j -1
          ·subst ht;rw[hg] at h6;cases h6;exact hf
          ·exact h2 t x (by omega) h5 h6
         ·exact ⟨j,h1,h2,.inr ⟨_,by omega,hg,by omega⟩⟩
       ·exact ⟨j,h1,h2,.inr h3⟩
     obtain ⟨j,h1,h2,h3⟩:=hj (i+1) (Nat.le_refl _);refine ⟨_,hl.step (by omega) h1 h2 fun x h4 h5=> ?_⟩;rcases h3 with h3|⟨y,_,h6,h7⟩
     ·omega
     ·rw[h5] at h6;cases h6;exact h7
  obtain ⟨l,hl⟩:=h (n+1) (by omega) (Nat.le_refl _);exact ⟨l,hl.done (Nat.le_refl _)⟩
def Zt6 (f:Nat→Int) (n:Nat):List Nat:=(List.range n).map fun j=>((List.range n).find? fun i=>rank f n i==j).getD 0
theorem ZgH {f:Nat→Int} {n:Nat} {l:List Nat} (h:Ordered f n l):l=Zt6 f n:=by
 have hl:=h.len;apply List.ext_getElem
 ·simp[Zt6,hl]
 ·intro j h1 h2;have hr:=h.rank h1;have hm:l[j]<n:=h.lt h1;have e:(Zt6 f n)[j]=((List.range n).find? fun i=>rank f n i==j).getD 0:=by simp[Zt6]
  rw[e];cases hf:(List.range n).find? (fun i=>rank f n i==j) with
  |none=>
   have:=List.find?_eq_none.1 hf l[j] (List.mem_range.2 hm);simp[hr] at this
  |some i=>
   have h3:=List.find?_some hf;have h4:=List.mem_range.1 (List.mem_of_find?_eq_some hf);obtain ⟨j',hj',rfl⟩:=h.mem h4;have h5:=h.rank hj';simp only[beq_iff_eq] at h3;have:j'=j:=by omega
   subst this;rfl
theorem Zm5 (f:Nat→Int) (n:Nat):Ordered f n (Zt6 f n):=by
 obtain ⟨l,hl⟩:=ZjH f (n:=n);rw[←ZgH hl];exact hl
def Ze4 (L:List Pr) (k:Nat):Int:=-(L.getD k default).time
def arr (L:List Pr) (π:List Nat):List Pr:=π.map fun k=>L.getD k default
def Zf7 (L:List Pr):List Pr:=arr L (Zt6 (Ze4 L) L.length)
theorem ZgQ (L:List Pr):(Zf7 L).Perm L:=by
 have h:=(Zm5 (Ze4 L) L.length).perm.map fun k=>L.getD k default
 have e:(List.range L.length).map (fun k=>L.getD k default)=L:=by
  apply List.ext_getElem (by simp);intro i h1 h2;simp[h2]
 rw[e] at h;exact h
theorem ZnW (L:List Pr):(Zf7 L).length=L.length:=(ZgQ L).length_eq
theorem ZiQ (L:List Pr):(Zf7 L).Pairwise fun a b=>a.time≤b.time:=by
 unfold Zf7 arr;rw[List.pairwise_map];refine (Zm5 (Ze4 L) L.length).sorted.imp fun {a b} h=> ?_
 have h':Ze4 L b<Ze4 L a∨(Ze4 L a=Ze4 L b∧a<b):=by simpa [before] using h
 have ea:Ze4 L a= -(L.getD a default).time:=rfl;have eb:Ze4 L b= -(L.getD b default).time:=rfl;show (L.getD a default).time≤(L.getD b default).time;omega
def Zjr (t:Tray):Cs:=ZdZ t (Zf7 t.pres)
theorem Zlo (n c m:Nat):Zdf n c (List.replicate m false)=0:=by
 unfold Zdf;have:((List.range (List.replicate m false).length).map fun s=>if (List.replicate m false).getD s false then ZoP n c (ZdC n s)+1 else 0)=(List.range (List.replicate m false).length).map fun _=>0:=by
  refine List.map_congr_left fun s _=> ?_
  rw[List.getD_eq_getElem?_getD,List.getElem?_replicate];split<;>simp at*
 rw[this];induction (List.range (List.replicate m false).length) with
 |nil=>rfl
 |cons a l ih=>simpa using ih
theorem ZnY {t:Tray} (ht:TrayOk t) {q:List Pr} (hq:q.Perm t.pres) (hs:q.Pairwise fun a b=>a.time≤b.time):CsOk t ((Zcn t q).mark (-1)):=by
 refine ⟨?_,by simp[Zcn,Cs.mark],fun p hp=> ?_,Int.le_refl _,hs⟩
 ·have:=ht.at_;show t.at_.toNat<t.n;omega
 ·exact ht.pres p (hq.mem_iff.1 hp)
theorem ZpU {t:Tray} (ht:TrayOk t) {q:List Pr} (hq:q.length≤13):mu t ((Zcn t q).mark (-1))≤200:=by
 have h6:=ht.n6;have e:mu t ((Zcn t q).mark (-1))=(2*t.n+2)*q.length+Zdf t.n (((Zcn t q).mark (-1)).c t) (List.replicate (2*t.n) false)+jW ((Zcn t q).mark (-1)):=rfl;rw[e,Zlo];have h1:(2*t.n+2)*q.length≤14*13:=Nat.mul_le_mul (by omega) hq;have h2:jW ((Zcn t q).mark (-1))≤1:=by unfold jW;split<;>(try split)<;>omega
 omega
structure Grown (s s':Cs):Prop where
 now:s'.now≤s.now+1059∨s'.now≤9999
 spells:s'.spells.length≤s.spells.length+3
 plays:s'.plays.length≤s.plays.length+1
 steps:s.steps≤s'.steps∧s'.steps≤s.steps+1
 q:s'.q.length≤s.q.length
theorem ZkW {t:Tray} (ht:TrayOk t) {s1 s':Cs} (hs1:CsOk t s1) (e:s1.act1 t=some s'):Grown s1 s':=by
 have hstep:=ht.step;unfold Cs.act1 at e;split at e
 ·split at e
  ·cases e
  ·rename_i p q hqq;simp only[Option.some.injEq] at e;subst e;exact ⟨.inr (hs1.q p (by rw[hqq];simp)).2.2,by simp only;omega,by simp only;omega,by simp only;omega,Nat.le_refl _⟩
 ·simp only[Option.some.injEq] at e;subst e;have hn:=Zho ht hs1;have hm:=Zkn hstep.1 (s1.play t);obtain ⟨m1,m2,m3,m4,m5⟩:=ZmZ t (s1.play t);obtain ⟨p1,p2,p3,p4⟩:=Zd4 t s1;have hsp:(s1.play t).spells.length≤s1.spells.length+2∧(s1.play t).plays.length≤s1.plays.length+1:=by
   unfold Cs.play;split
   ·simp[Cs.play2,Cs.play1,Cs.mark]
   ·omega
  refine ⟨.inl ?_,?_,?_,?_,?_⟩
  ·show ((s1.play t).move t).now≤_;omega
  ·show (((s1.play t).move t).spells++[_]).length≤_;rw[m4,List.length_append];simp only[List.length_cons,List.length_nil];omega
  ·show ((s1.play t).move t).plays.length≤_;rw[m3];omega
  ·show s1.steps≤((s1.play t).move t).steps∧((s1.play t).move t).steps≤_;omega
  ·show ((s1.play t).move t).q.length≤_;rw[m1,p2];exact Nat.le_refl _
theorem ZlY {t:Tray} (ht:TrayOk t) {s s':Cs} (hs:CsOk t s) (e:s.act t=some s'):Grown s s':=by
 have hq:s.press.q.length≤s.q.length:=(Zko hs).2;have h:=ZkW ht hs.press e;exact ⟨h.now,h.spells,h.plays,h.steps,Nat.le_trans h.q hq⟩
end Go.Proofs.YtcggfogkfhlmlaaGreatDoor
namespace Go.Proofs.YtcggfogkfhlmlaaGreatDoor
open Go Go.V
def Zu6:FC:=⟨2,10,[.t 4],(.seq (.ops [JS 2 (.box 2 (.t 0)),JS 3 (.box 2 (.t 1)),JSi 4 0]) (.seq (.ops [JSf 5 1 2,JSl 6 5,JSf 7 1 3,JSl 8 7,JSb 9 .sub 6 8,JSm 4 9]) .ret))⟩
abbrev Zwk:List Ins:=[JFm 18 9,JFm 19 1,JSb 20 .gtr 18 19,JSm 21 20,JH 22 (Jm 3) 21 true,JH 23 (Jm 0) 21 true,JH 24 (Jm 9) 21 true,JH 25 (Ja 2 23 24) 21 true,JH 26 (JL 2 25) 21 true,JH 27 (Jm 0) 21 true,JH 28 (Jm 9) 21 true,JH 29 (Jk .sub 28 1) 21 true,JH 30 (Ja 2 27 29) 21 true,JH 31 (JL 2 30) 21 true,JG 32 (.call (.t 22) [.t 26,.t 31]) 21 true,JTk 33 .lss 32 0 21,JSp 34 21 33]
abbrev Zwl:List Ins:=[JFm 37 0,JFm 38 9,JFm 39 0,JFm 40 9,JFk 41 .sub 40 1,JFm 42 0,JFm 43 9,JFk 44 .sub 43 1,JFa 45 2 42 44,JFL 46 2 45,JFm 47 0,JFm 48 9,JFa 49 2 47 48,JFL 50 2 49,JFa 51 2 37 38,JE (Js 2 51 46),JSa 52 2 39 41,JUs 2 52 50]
-- Zqo: changed and kept: [9]
abbrev Zqo:List Nat:=[0,1,2,3,8]
-- ZlK: changed and kept: [8]
abbrev ZlK:List Nat:=[0,1,2,3]
abbrev ZtI:VC:=(.block 0 (.loop (.seq (.seq (.ops [JSm 12 8,JSm 13 2,JSb 14 .lss 12 13]) (.cond (.t 14) .skip (.exit 0))) (.seq (.block 1 (.seq (.ops [JSm 17 8,JSm 9 17]) (.block 2 (.loop (.seq (.seq (.dops Zwk) (.cond (.t 34) .skip (.exit 2))) (.seq (.block 3 (.dops Zwl)) (.ops [JSm 35 9,JSk 36 .sub 35 1,JSm 9 36]))))))) (.ops [JSm 15 8,JSk 16 .add 15 1,JSm 8 16])))))
def ZrR:FC:=⟨4,53,[],(.seq (.ops [JSm 10 1,JSk 11 .add 10 1,JSm 8 11]) ZtI)⟩
-- ZlI: changed and kept: [8,7]
abbrev ZlI:List Nat:=[0,1,2,6]
-- K141_3: changed and kept: [8,7]
abbrev Zty:VC:=(.loop (.seq (.seq (.ops [JSm 33 8,JSm 34 1,JSb 35 .leq 33 34]) (.cond (.t 35) .skip (.exit 4))) (.block 5 (.seq (.ops [JSm 36 0,JSm 37 7,JSm 38 7,JSm 39 6,JSb 40 .add 38 39,JSm 41 8,JSm 42 2,JSc 43 169 [.t 36,.t 37,.t 40,.t 41,.t 42]]) (.seq (.ops [JSm 44 8,JSm 7 44]) (.ops [JSm 45 8,JSm 46 6,JS 47 (.bin .mul (.k (Jz 2)) (.t 46)),JSb 48 .add 45 47,JSm 8 48]))))))
abbrev Ztz:VC:=(.seq (.ops [JSm 31 6,JS 32 (.bin .mul (.k (Jz 2)) (.t 31)),JSi 7 0,JSm 8 32]) (.seq (.block 4 Zty) (.seq (.seq (.ops [JSm 49 7,JSm 50 6,JSb 51 .add 49 50,JSm 9 51]) (.seq (.ops [JSm 52 9,JSm 53 1,JSb 54 .lss 52 53]) (.cond (.t 54) (.ops [JSm 55 0,JSm 56 7,JSm 57 9,JSm 58 1,JSm 59 2,JSc 60 169 [.t 55,.t 56,.t 57,.t 58,.t 59]]) .skip))) (.ops [JSm 61 6,JSk 62 .mul 61 2,JSm 6 62]))))
-- ZlJ: changed and kept: [6]
abbrev ZlJ:List Nat:=[0,1,2]
abbrev ZtA:VC:=(.seq (.block 0 (.loop (.seq (.seq (.ops [JSm 11 8,JSm 12 1,JSb 13 .leq 11 12]) (.cond (.t 13) .skip (.exit 0))) (.block 1 (.seq (.ops [JSm 14 0,JSm 15 7,JSm 16 8,JSm 17 2,JSc 18 168 [.t 14,.t 15,.t 16,.t 17]]) (.seq (.ops [JSm 19 8,JSm 7 19]) (.ops [JSm 20 8,JSm 21 6,JSb 22 .add 20 21,JSm 8 22]))))))) (.seq (.ops [JSm 23 0,JSm 24 7,JSm 25 1,JSm 26 2,JSc 27 168 [.t 23,.t 24,.t 25,.t 26]]) (.block 2 (.loop (.seq (.seq (.ops [JSm 28 6,JSm 29 1,JSb 30 .lss 28 29]) (.cond (.t 30) .skip (.exit 2))) (.block 3 Ztz))))))
def ZrP:FC:=⟨3,63,[],(.seq (.ops [JSi 6 20]) (.seq (.ops [JSm 10 6,JSi 7 0,JSm 8 10]) ZtA))⟩
def ZrM:FC:=⟨2,9,[],(.ops [JSm 4 0,JSm 5 0,JSn 6 5,JSm 7 1,JSc 8 141 [.t 4,.t 6,.t 7]])⟩
abbrev Zsj:List Ins:=[JS 2 (.mv (.k J0))]
abbrev Zsk:List Ins:=[JSm 3 0,JS 4 (.nils false (.t 3))]
abbrev Zsl:List Ins:=[JS 2 (.mv (.k J0))]
abbrev ZtS:VC:=(.seq (.ops Zsl) .ret)
abbrev ZtT:VC:=(.cond (.t 4) ZtS .skip)
abbrev Zsm:List Ins:=[JS 5 (.bsl 122 2 []),JSm 6 0,JS 7 (.app 122 2 16 (.t 5) (.t 6)),JSm 2 7]
abbrev ZtU:VC:=(.seq (.ops Zsm) .ret)
abbrev ZtV:VC:=(.seq (.seq (.ops Zsk) ZtT) ZtU)
def ir76:FC:=⟨1,8,[.t 2],(.seq (.ops Zsj) ZtV)⟩
theorem ZAu:Zao Tryz.prog [] 110=some Zu6:=by kernel_rfl
theorem Zzh:Zao Tryz.prog [] 168=some ZrR:=by kernel_rfl
theorem Zzf:Zao Tryz.prog [] 141=some ZrP:=by kernel_rfl
theorem Zzc:Zao Tryz.prog [] 109=some ZrM:=by kernel_rfl
theorem c76:Zao Tryz.prog [] 76=some ir76:=by kernel_rfl
attribute [local go_sem] Nat.reduceEqDiff Nat.reduceAdd Nat.reduceMul reduceIte Nat.reduceLeDiff Nat.reduceLT Nat.reduceBEq reduceCtorEq
theorem Zx1 (a b:Pr) (ha:0≤a.time∧a.time≤9999) (hb:0≤b.time∧b.time≤9999):FSpec Tryz.prog 110 [.agg [iv a.side,iv a.time],.agg [iv b.side,iv b.time]] (iv (a.time -b.time)):=by
 have w1:=w64 (n:=a.time -b.time) (by omega) (by omega);refine Zac ZAu (Nat.le_refl _) (by decide) fun C hP hN hC hL=> ?_;rw[Zad]
 simp only[Zu6];refine vW w1 ?_;(refine vT ?_;try exact trivial)
theorem Zja (L:List Pr) (π:List Nat):(arr L π).length=π.length:=by simp[arr]
theorem Zl3 {L:List Pr} {π:List Nat} {i k:Nat} (h:π[i]? =some k) (hi:i<(arr L π).length):(arr L π)[i]=L.getD k default:=by
 have h2:(arr L π)[i]? =some (L.getD k default):=by simp[arr,h]
 exact (List.getElem?_eq_some_iff.1 h2).2
theorem Zl5 (L:List Pr) (π:List Nat) (i k:Nat):(arr L π).set i (L.getD k default)=arr L (π.set i k):=by
 simp[arr,List.map_set]
theorem Zl4 (L:List Pr):arr L (List.range L.length)=L:=by
 apply List.ext_getElem (by simp[arr]);intro i h1 h2;simp[arr,h2]
theorem ZAb {α:Type} {cds:α→List CD} (hm:∀a,(cds a).length=2) {l:List α} {k:Nat} (h:k<l.length) (j:Nat) (a:α) {x y:CD} (ha:cds a=[x,y]):
  (Zaf cds l j).take (k*2)++AV.c x::AV.c y::(Zaf cds l j).drop (k*2+2)=Zaf cds (l.set k a) j:=Zk2 hm h j a ha
set_option maxRecDepth 20000 in
set_option maxHeartbeats 8000000 in
theorem ins87 {L:List Pr} {n cap jk:Nat} (hn:0<n) (hn20:n≤20) (hl0:L.length=n) (ht:∀p∈L,0≤p.time∧p.time≤9999):
  ZaE Tryz.prog 168 [.vw 2 1000 0 n cap,iv 0,iv n,.fn 110 []] [.box (Zaf Pr.cds L jk)] [] (fun res l'=>res= .tup []∧∃l,Ordered (Ze4 L) n l∧l'=[.box (Zaf Pr.cds (arr L l) jk)]):=by
 have w0:IntKind.i64.wrap (0+1)=1:=by decide
 have hti:∀i,i<n→0≤(L.getD i default).time∧(L.getD i default).time≤9999:=fun i hi=>by
  have hiL:i<L.length:=by omega
  have:=ht _ (List.getElem_mem hiL);have e:L.getD i default=L[i]:=by simp[*]
  rw[e];exact this
 have hL0:Zaf Pr.cds L jk=Zaf Pr.cds (arr L (List.range n)) jk:=by rw[←hl0,Zl4]
 rw[hL0];refine Zat Zzh (by first|simp|exact Nat.le_of_ble_eq_true rfl) (Nat.le_refl _) (by decide) (by decide) fun C hP hN hC hL=> ?_;rw[Zap,Zaw (by first|simp|exact Nat.le_of_ble_eq_true rfl)];simp only[ZrR,Zco,Za1,List.map_nil,List.map_cons,Nat.reduceAdd,]
 refine vW w0 ?_;refine Zax ZlK [1000] (fun p:Nat×List Nat=>1≤p.1∧p.1≤n∧SortI (Ze4 L) n p.1 p.2) (fun p=>n -p.1) (fun p=>[(8,iv p.1)]) (fun p=>[(1000,.box (Zaf Pr.cds (arr L p.2) jk))]) (1,List.range n) ⟨Nat.le_refl _,hn,SortI.first (Ze4 L) hn⟩ ?_ ?_
 ·exact Zaz
 ·rintro ⟨i,l⟩ ⟨h1,h2,hs⟩;simp only at h1 h2 hs;have hl:=hs.len;simp only[go_sem];refine vR ?_;(refine vC ?_ ?_<;>intro h)
  ·have hi:i<n:=by simpa using h
   refine vR ?_;refine Zax Zqo [1000] (fun j:Nat=>j≤i∧∀t x,j≤t→t<i→l[t]? =some x→Ze4 L x<Ze4 L i) (fun j=>j) (fun j=>[(9,iv j)]) (fun j=>[(1000,.box (Zaf Pr.cds (arr L (mv l i j)) jk))]) i ⟨Nat.le_refl _,fun t x h3 h4=>by omega⟩ ?_ ?_
   ·rw[ZrY (by omega)];exact Zaz
   ·rintro j ⟨hj,hd⟩;have hgi:l[i]? =some i:=hs.rest i (Nat.le_refl _) hi;have hmi:(mv l i j)[j]? =some i:=by rw[ZgD (by omega) hj,if_neg (by omega),if_pos rfl,hgi]
    have hlm:(arr L (mv l i j)).length=n:=by rw[Zja,Zii (by omega) hj,hl]
    simp only[go_sem];cases j with
    |zero=>
     have hd0:decide ((0:Int)<((0:Nat):Int))=false:=by simp
     refine vW hd0 ?_;refine Or.inr (Or.inr ?_);(refine vC ?_ ?_<;>intro h)
     ·simp at h
     ·have hs':=hs.step hi (Nat.zero_le _) (fun t x _ h4 h5=>hd t x (Nat.zero_le _) h4 h5) (fun x h6=>by omega);have w1:=w64 (n:=(i:Int)+1) (by omega) (by omega);refine vW w1 ?_;refine ⟨(i+1,mv l i 0),⟨by simp only;omega,by simp only;omega,hs'⟩,by simp only;omega,?_⟩;exact Zaz
    |succ j=>
     have hjl:j<l.length:=by omega
     have hgj:l[j]? =some l[j]:=List.getElem?_eq_getElem hjl;have hjn:=hs.lt (t:=j) (by omega) h2 hgj;have hmj:(mv l i (j+1))[j]? =some l[j]:=by rw[ZgD (by omega) hj,if_pos (by omega),hgj]
     have hlen0:j+1<(arr L (mv l i (j+1))).length:=by omega
     have hlen1:j<(arr L (mv l i (j+1))).length:=by omega
     have g1:=Zfw ZeM hlen0 jk;rw[Zl3 hmi hlen0] at g1;have g2:=Zfw ZeM hlen1 jk;rw[Zl3 hmj hlen1] at g2;have w1:=w64 (n:=(j:Int)) (by omega) (by omega);have e1:(((j+1:Nat):Int) -1)=(j:Int):=by omega
     have hjlt:j<n:=by omega
     have hj1:j+1<n:=by omega
     have hcl:=Zbl ZeM (arr L (mv l i (j+1))) jk;have hq1:(j+1)*2+2≤(Zaf Pr.cds (arr L (mv l i (j+1))) jk).length:=by rw[hcl,hlm];omega
     have hq2:j*2+2≤(Zaf Pr.cds (arr L (mv l i (j+1))) jk).length:=by rw[hcl,hlm];omega
     have p1:=ZAb ZeM hlen0 jk (L.getD l[j] default) rfl;rw[Zl5] at p1;have hlen2:j<(arr L ((mv l i (j+1)).set (j+1) l[j])).length:=by rw[Zja,List.length_set,Zii (by omega) hj];omega
     have p2:=ZAb ZeM hlen2 jk (L.getD i default) rfl;rw[Zl5,ZrZ (by omega) (by omega) i l[j] hgi hgj] at p2;have hq3:j*2+2≤(Zaf Pr.cds (arr L ((mv l i (j+1)).set (j+1) l[j])) jk).length:=by rw[Zbl ZeM,Zja,List.length_set,Zii (by omega) hj];omega
     have hdj:decide (0<((j+1:Nat):Int))=true:=by simp
     have ht0:(((j+1:Nat):Int)).toNat=j+1:=by omega
     have hlt1:((j+1:Nat):Int)<(n:Int):=by omega
     have hlt2:(j:Int)<(n:Int):=by omega
     have hc:=Zx1 (L.getD i default) (L.getD l[j] default) (hti i hi) (hti l[j] (by omega));have hcc:decide ((L.getD i default).time -(L.getD l[j] default).time<0)=decide (Ze4 L l[j]<Ze4 L i):=by
      unfold Ze4;rw[Bool.eq_iff_iff];simp;omega
     have hk1:Ze4 L i= -(L.getD i default).time:=rfl;generalize L.getD i default=A at*;generalize L.getD l[j] default=B at*;(repeat (refine vV ?_;(try simp only[go_sem,hP,w1,e1,hdj,ht0,g1,g2,hq1,hq2,hlt1,hlt2,Pr.cds]);refine vQ ?_))
     refine Zi4 (fun _=>hc) rfl (fun _=>rfl) rfl rfl rfl ?_;simp only[go_sem,hP];refine vR ?_;rw[hcc];(refine vC ?_ ?_<;>intro h)
     ·have h:Ze4 L l[j]<Ze4 L i:=by simpa using h
      (repeat (refine vV ?_;(try simp only[go_sem,hP,w1,e1,ht0,g1,g2,hq1,hq2,hq3,hlt1,hlt2,p1,p2,Pr.cds]);refine vQ ?_))
      refine ⟨j,⟨by omega,fun t x h3 h4 h5=> ?_⟩,by omega,?_⟩
      ·by_cases htj:t=j
       ·subst htj;rw[hgj] at h5;cases h5;exact h
       ·exact hd t x (by omega) h4 h5
      ·exact Zaz
     ·have h:¬Ze4 L l[j]<Ze4 L i:=by simpa using h
      have hs':=hs.step (j:=j+1) hi hj hd (fun x _ hx=>by rw[Nat.add_sub_cancel,hgj] at hx;cases hx;omega);have w2:=w64 (n:=(i:Int)+1) (by omega) (by omega);refine vW w2 ?_;refine ⟨(i+1,mv l i (j+1)),⟨by simp only;omega,by simp only;omega,hs'⟩,by simp only;omega,?_⟩;exact Zaz
  ·have h:i=n:=by simp at h;omega
   subst h;(refine ZbE ?_;simp only[go_sem])
   ((try simp only[Zaq,inQ,ZaB,Zar,Zae,ZaI]);(try simp only[go_sem,ZaH,AV.keepP,AV.keepPL]);refine ⟨_,[.box (Zaf Pr.cds (arr L l) jk)],rfl,Zag rfl rfl ?_ ?_ rfl,?_⟩)
   ·simp only[go_sem,Zal,Ob.keepP]
   ·simp only[go_sem,Zb2]
   ·exact ⟨rfl,_,hs.done (Nat.le_refl _),rfl⟩
set_option maxHeartbeats 4000000 in
theorem stable80 {L:List Pr} {n cap jk:Nat} (hn:0<n) (hn20:n<20) (hl0:L.length=n) (ht:∀p∈L,0≤p.time∧p.time≤9999):
  ZaE Tryz.prog 141 [.vw 2 1000 0 n cap,iv n,.fn 110 []] [.box (Zaf Pr.cds L jk)] [] (fun res l'=>res= .tup []∧∃l,Ordered (Ze4 L) n l∧l'=[.box (Zaf Pr.cds (arr L l) jk)]):=by
 refine Zat Zzf (by first|simp|exact Nat.le_of_ble_eq_true rfl) (Nat.le_refl _) (by decide) (by decide) fun C hP hN hC hL=> ?_;rw[Zap,Zaw (by first|simp|exact Nat.le_of_ble_eq_true rfl)];simp only[ZrP,Zco,Za1,List.map_nil,List.map_cons,Nat.reduceAdd,]
 refine vR ?_;refine Zax ZlI [1000] (fun _:Unit=>True) (fun _=>0) (fun _=>[(7,iv 0),(8,iv 20)]) (fun _=>[(1000,.box (Zaf Pr.cds L jk))]) () trivial ?_ ?_
 ·exact Zaz
 ·rintro - -;simp only[go_sem];refine vR ?_;(refine vC ?_ ?_<;>intro h)
  ·have h:(20:Int)≤n:=by simpa using h
   omega
  ·(refine ZbE ?_;simp only[go_sem])
   refine vR ?_;refine Zas [1000] (ins87 (jk:=jk) hn (by omega) hl0 ht) rfl rfl rfl (by decide) rfl ?_ ?_
   ·simp only[go_sem,ZaA,Ob.lend]
   ·rintro r l' ⟨rfl,l,hl,rfl⟩;refine ⟨_,_,rfl,by simp only[Zay,Ob.back,back_cellsG];rfl,?_⟩;simp only[go_sem,hP,Zab];refine vR ?_;refine Zax ZlJ [1000] (fun _:Unit=>True) (fun _=>0) (fun _=>[(6,iv 20)]) (fun _=>[(1000,.box (Zaf Pr.cds (arr L l) jk))]) () trivial ?_ ?_
    ·exact Zaz
    ·rintro - -;simp only[go_sem];refine vR ?_;(refine vC ?_ ?_<;>intro h)
     ·have h:(20:Int)<n:=by simpa using h
      omega
     ·(refine ZbE ?_;simp only[go_sem])
      ((try simp only[Zaq,inQ,ZaB,Zar,Zae,ZaI]);(try simp only[go_sem,ZaH,AV.keepP,AV.keepPL]);refine ⟨_,[.box (Zaf Pr.cds (arr L l) jk)],rfl,Zag rfl rfl ?_ ?_ rfl,?_⟩)
      ·simp only[go_sem,Zal,Ob.keepP]
      ·simp only[go_sem,Zb2]
      ·exact ⟨rfl,_,hl,rfl⟩
theorem ZwO {L:List Pr} {n cap jk:Nat} (hn:0<n) (hn20:n<20) (hl0:L.length=n) (ht:∀p∈L,0≤p.time∧p.time≤9999):
  ZaE Tryz.prog 109 [.vw 2 1000 0 n cap,.fn 110 []] [.box (Zaf Pr.cds L jk)] [] (fun res l'=>res= .tup []∧∃l,Ordered (Ze4 L) n l∧l'=[.box (Zaf Pr.cds (arr L l) jk)]):=by
 refine Zat Zzc (by first|simp|exact Nat.le_of_ble_eq_true rfl) (Nat.le_refl _) (by decide) (by decide) fun C hP hN hC hL=> ?_;rw[Zap,Zaw (by first|simp|exact Nat.le_of_ble_eq_true rfl)];simp only[ZrM,Zco,Za1,List.map_nil,List.map_cons,Nat.reduceAdd,]
 refine vR ?_;refine Zas [1000] (stable80 (jk:=jk) hn hn20 hl0 ht) rfl rfl rfl (by decide) rfl ?_ ?_
 ·simp only[go_sem,ZaA,Ob.lend]
 ·rintro r l' ⟨rfl,l,hl,rfl⟩;refine ⟨_,_,rfl,by simp only[Zay,Ob.back,back_cellsG];rfl,?_⟩;simp only[go_sem,hP,Zab];((try simp only[Zaq,inQ,ZaB,Zar,Zae,ZaI]);(try simp only[go_sem,ZaH,AV.keepP,AV.keepPL]);refine ⟨_,[.box (Zaf Pr.cds (arr L l) jk)],rfl,Zag rfl rfl ?_ ?_ rfl,?_⟩)
  ·simp only[go_sem,Zal,Ob.keepP]
  ·simp only[go_sem,Zb2]
  ·exact ⟨rfl,_,hl,rfl⟩
theorem Zmk (l:List Pr) (hl:l.length≤1000):FSpec Tryz.prog 76 [.c (ZbR l)] (.c (ZbR l)):=by
 have hmax:maxLen=9223372036854775807:=rfl;refine Zac c76 (Nat.le_refl _) (by decide) fun C hP hN hC hL=> ?_;rw[Zad]
 simp only[ir76,ZbR];cases l with
 |nil=>
  refine vR ?_;intro b;refine vR ?_;cases b
  ·(refine vC ?_ ?_<;>intro h)
   ·simp at h
   ·(repeat (refine vV ?_;(try simp only[go_sem,hP,List.all_nil]);refine vQ ?_))
    (refine vT ?_;try exact trivial)
  ·(refine vC ?_ ?_<;>intro h)
   ·refine vR ?_;(refine Zak ?_;simp only[Zaq,inQ,ZgY,ZcN,Zae,ZaI];simp only[go_sem,ZaH,AV.port,AV.portL,exists_eq_left'])
    exact AVle.nil 2
   ·simp at h
 |cons a l=>
  refine vR ?_;(refine vC ?_ ?_<;>intro h)
  ·simp at h
  ·clear h;have hp:=Zew (a::l);simp only[List.map_cons] at hp;have hlen:l.length+1≤1000:=hl;(repeat (refine vV ?_;(try simp only[go_sem,hP,hp,List.length_cons]);refine vQ ?_))
   (refine vT ?_;try exact trivial)
namespace W
abbrev Zsj:List Ins:=[JS 2 (.mv (.k J0))]
abbrev Zsk:List Ins:=[JSm 3 0,JS 4 (.nils false (.t 3))]
abbrev Zsl:List Ins:=[JS 2 (.mv (.k J0))]
abbrev ZtS:VC:=(.seq (.ops Zsl) .ret)
abbrev ZtT:VC:=(.cond (.t 4) ZtS .skip)
abbrev Zsm:List Ins:=[JS 5 (.bsl 122 2 []),JSm 6 0,JS 7 (.appv 122 2 16 (.t 5) (.t 6)),JSm 2 7]
abbrev ZtU:VC:=(.seq (.ops Zsm) .ret)
abbrev ZtV:VC:=(.seq (.seq (.ops Zsk) ZtT) ZtU)
def ir76:FC:=⟨1,8,[.t 2],(.seq (.ops Zsj) ZtV)⟩
theorem c76:Zao Tryz.prog [100007] 76=some ir76:=by kernel_rfl
end W
def ZyW (S:List Pr) (res:AV) (os:List Ob):Prop:=∃cap j,S.length≤cap∧cap≤maxLen∧cap*2≤S.length*2+j∧res= .vw 2 1000 0 S.length cap∧os=[.box (Zaf Pr.cds S j)]
theorem ZoI (l:List Pr) (hl:l.length≤1000) (hne:l≠[]):Za3 Tryz.prog 76 [.c (ZbR l)] (ZyW l):=by
 have hmax:maxLen=9223372036854775807:=rfl;refine ZaK W.c76 (Nat.le_refl _) (by decide) fun C hP hN hC hL=> ?_
 obtain ⟨a,l,rfl⟩:=List.exists_cons_of_ne_nil hne;simp only[W.ir76,ZbR];refine vR ?_;(refine vC ?_ ?_<;>intro h)
 ·simp at h
 ·clear h;have hp:=Zew (a::l);simp only[List.map_cons] at hp;have hlen:l.length+1≤1000:=hl;(repeat (refine vV ?_;(try simp only[go_sem,hP,hp,List.length_cons]);refine vQ ?_))
  intro cap j h1 h2 h3;have ecell:List.map AV.c (a.cds::List.map Pr.cds l).flatten++List.replicate j AV.non=Zaf Pr.cds (a::l) j:=rfl;simp only[ecell];refine vR ?_;(refine Zak ?_;simp only[Zaq,inQ,Zbe,ZaP,Zae,ZaI];simp only[go_sem,ZaH])
  refine ⟨[7],.vw 2 1000 0 (a::l).length cap,_,[.box (Zaf Pr.cds (a::l) j)],by decide,by decide,?_,AVle.of rfl,?_,cap,j,?_,h2,?_,rfl,rfl⟩
  ·simp only[go_sem,AV.lend,AV.lendL,List.length_cons]
  ·simp only[go_sem,ZaA,Ob.lend]
  ·simpa using h1
  ·simpa using h3
end Go.Proofs.YtcggfogkfhlmlaaGreatDoor
namespace Go.Proofs.YtcggfogkfhlmlaaGreatDoor
open Go Go.V
namespace W
abbrev Zil:List Ins:=[JS 2 (.mv (.k J0))]
abbrev Zim:List Ins:=[JSm 3 0,JS 4 (.nils false (.t 3))]
abbrev Zin:List Ins:=[JS 2 (.mv (.k J0))]
abbrev ZiU:VC:=(.seq (.ops Zin) .ret)
abbrev ZiV:VC:=(.cond (.t 4) ZiU .skip)
abbrev Zio:List Ins:=[JS 5 (.bsl 3 1 []),JSm 6 0,JS 7 (.appv 3 1 8 (.t 5) (.t 6)),JSm 2 7]
abbrev ZiW:VC:=(.seq (.ops Zio) .ret)
abbrev ZiX:VC:=(.seq (.seq (.ops Zim) ZiV) ZiW)
def ir124:FC:=⟨1,8,[.t 2],(.seq (.ops Zil) ZiX)⟩
theorem c124:Zao Tryz.prog [100007] 124=some ir124:=by kernel_rfl
end W
abbrev Zil:List Ins:=[JS 2 (.mv (.k J0))]
abbrev Zim:List Ins:=[JSm 3 0,JS 4 (.nils false (.t 3))]
abbrev Zin:List Ins:=[JS 2 (.mv (.k J0))]
abbrev ZiU:VC:=(.seq (.ops Zin) .ret)
abbrev ZiV:VC:=(.cond (.t 4) ZiU .skip)
abbrev Zio:List Ins:=[JS 5 (.bsl 3 1 []),JSm 6 0,JS 7 (.app 3 1 8 (.t 5) (.t 6)),JSm 2 7]
abbrev ZiW:VC:=(.seq (.ops Zio) .ret)
abbrev ZiX:VC:=(.seq (.seq (.ops Zim) ZiV) ZiW)
def ir124:FC:=⟨1,8,[.t 2],(.seq (.ops Zil) ZiX)⟩
theorem c124:Zao Tryz.prog [] 124=some ir124:=by kernel_rfl
attribute [local go_sem] Nat.reduceEqDiff Nat.reduceAdd Nat.reduceMul reduceIte Nat.reduceLeDiff Nat.reduceLT Nat.reduceBEq reduceCtorEq
def zc (n:Int):List CD:=[.int .i64 n]
def vj (l:List Int) (j:Nat):List AV:=l.map iv++List.replicate j .non
theorem Zq0 (l:List Int):(l.map fun n=>[CD.int .i64 n]).flatten.length=l.length:=by
 induction l with
 |nil=>rfl
 |cons n l ih=>simp only[List.map_cons,List.flatten_cons,List.length_append,ih,List.length_cons,List.length_nil];omega
theorem ZdA (l:List Int) (hl:l.length≤1000):FSpec Tryz.prog 124 [.c (Zaj l)] (.c (Zaj l)):=by
 have hmax:maxLen=9223372036854775807:=rfl;refine Zac c124 (Nat.le_refl _) (by decide) fun C hP hN hC hL=> ?_;rw[Zad]
 simp only[ir124,Zaj];cases l with
 |nil=>
  refine vR ?_;intro b;refine vR ?_;cases b
  ·(refine vC ?_ ?_<;>intro h)
   ·simp at h
   ·(repeat (refine vV ?_;(try simp only[go_sem,hP,List.all_nil]);refine vQ ?_))
    (refine vT ?_;try exact trivial)
  ·(refine vC ?_ ?_<;>intro h)
   ·refine vR ?_;(refine Zak ?_;simp only[Zaq,inQ,ZgY,ZcN,Zae,ZaI];simp only[go_sem,ZaH,AV.port,AV.portL,exists_eq_left'])
    exact AVle.nil 1
   ·simp at h
 |cons a l=>
  refine vR ?_;(refine vC ?_ ?_<;>intro h)
  ·simp at h
  ·clear h;have hlen:l.length+1≤1000:=hl;have h1:(([CD.int .i64 a]::l.map fun n=>[CD.int .i64 n]).all fun e=>e.length==1)=true:=by
    rw[List.all_eq_true];intro e he;rcases List.mem_cons.1 he with rfl|he
    ·rfl
    ·obtain ⟨n,_,rfl⟩:=List.mem_map.1 he;rfl
   (repeat (refine vV ?_;(try simp only[go_sem,hP,h1,List.length_cons,List.length_map]);refine vQ ?_))
   (refine vT ?_;try exact trivial)
def ZyV (S:List Int) (res:AV) (os:List Ob):Prop:=∃cap j,S.length≤cap∧cap≤maxLen∧cap≤S.length+j∧res= .vw 1 1000 0 S.length cap∧os=[.box (Zaf zc S j)]
theorem Zg6 (l:List Int) (hl:l.length≤1000) (hne:l≠[]):Za3 Tryz.prog 124 [.c (Zaj l)] (ZyV l):=by
 have hmax:maxLen=9223372036854775807:=rfl;refine ZaK W.c124 (Nat.le_refl _) (by decide) fun C hP hN hC hL=> ?_
 obtain ⟨a,l,rfl⟩:=List.exists_cons_of_ne_nil hne;simp only[W.ir124,Zaj];refine vR ?_;(refine vC ?_ ?_<;>intro h)
 ·simp at h
 ·clear h;have hlen:l.length+1≤1000:=hl;have h1:(([CD.int .i64 a]::l.map fun n=>[CD.int .i64 n]).all fun e=>e.length==1)=true:=by
   rw[List.all_eq_true];intro e he;rcases List.mem_cons.1 he with rfl|he
   ·rfl
   ·obtain ⟨n,_,rfl⟩:=List.mem_map.1 he;rfl
  (repeat (refine vV ?_;(try simp only[go_sem,hP,h1,List.length_cons,List.length_map]);refine vQ ?_))
  intro cap j h1 h2 h3;have ecell:List.map AV.c ([CD.int .i64 a]::l.map fun n=>[CD.int .i64 n]).flatten++List.replicate j AV.non=Zaf zc (a::l) j:=rfl;simp only[ecell];refine vR ?_;(refine Zak ?_;simp only[Zaq,inQ,Zbe,ZaP,Zae,ZaI];simp only[go_sem,ZaH])
  refine ⟨[7],.vw 1 1000 0 (a::l).length cap,_,[.box (Zaf zc (a::l) j)],by decide,by decide,?_,AVle.of rfl,?_,cap,j,?_,h2,?_,rfl,rfl⟩
  ·simp only[go_sem,AV.lend,AV.lendL,List.length_cons]
  ·simp only[go_sem,ZaA,Ob.lend]
  ·simpa using h1
  ·simpa using h3
theorem ZoJ (l:List Pr) (hlen:l.length≤1000):Za3 Tryz.prog 76 [.c (ZbR l)] (fun r os=>r= .gr 1000∧os=[.grow 122 2 (l.map Pr.cds)]):=by
 have hmax:maxLen=9223372036854775807:=rfl;refine ZaK c76 (Nat.le_refl _) (by decide) fun C hP hN hC hL=> ?_;rw[Zad]
 simp only[ir76,ZbR];cases l with
 |nil=>
  refine vR ?_;intro b;refine vR ?_;(refine vC ?_ ?_<;>intro h)
  ·refine ZaG ?_;(refine ZcH ?_;simp only[go_sem,hP];refine vQ ?_)
   refine Zby 2 7 122 2 (by decide) (by decide) rfl rfl ?_;simp only[go_sem];(refine Zak ?_;simp only[Zaq,inQ,Zbe,ZaP,Zae,ZaI];simp only[go_sem,ZaH])
   exact ⟨[7],_,_,_,by simp,by simp,rfl,AVle.refl _,rfl,rfl,rfl⟩
  ·refine vR ?_;(refine Zak ?_;simp only[Zaq,inQ,Zbe,ZaP,Zae,ZaI];simp only[go_sem,ZaH])
   exact ⟨[7],_,_,_,by simp,by simp,rfl,AVle.refl _,rfl,rfl,rfl⟩
 |cons a l=>
  simp only[List.length_cons] at hlen;refine vR ?_;(refine vC ?_ ?_<;>intro h)
  ·cases h
  ·have hp:=Zew (a::l);simp only[List.map_cons] at hp;(repeat (refine vV ?_;(try simp only[go_sem,hP,hp,List.length_cons]);refine vQ ?_))
   (refine Zak ?_;simp only[Zaq,inQ,Zbe,ZaP,Zae,ZaI];simp only[go_sem,ZaH])
   exact ⟨[7],_,_,_,by simp,by simp,rfl,AVle.refl _,rfl,rfl,rfl⟩
end Go.Proofs.YtcggfogkfhlmlaaGreatDoor
namespace Go.Proofs.YtcggfogkfhlmlaaGreatDoor
open Go Go.V
def Zvf:FC:=⟨1,8,[.t 2],(.seq (.ops [JS 2 (.mv (.k J0))]) (.seq (.seq (.ops [JSm 3 0,JS 4 (.nils false (.t 3))]) (.cond (.t 4) (.seq (.ops [JS 2 (.mv (.k J0))]) .ret) .skip)) (.seq (.ops [JS 5 (.bsl 166 2 []),JSm 6 0,JS 7 (.app 166 2 16 (.t 5) (.t 6)),JSm 2 7]) .ret)))⟩
abbrev ZyM:List Ins:=[JSf 5 0 1,JSf 6 0 5,JSf 7 1 6,JSf 8 0 1,JSf 9 0 8,JSf 10 2 9,JSf 11 0 1,JSf 12 3 11,JSf 13 0 1,JSf 14 4 13,JSf 15 0 1,JSf 16 5 15,JS 17 (.raw (.build 196 #[(0,(.tmp 7)),(1,(.tmp 10)),(2,(.tmp 12)),(3,(.tmp 14)),(4,(.tmp 16))])),JSi 18 0]
-- K92_1: changed and kept: [18]
abbrev ZxI:VC:=(.seq (.seq (.ops ZyM) (.block 0 (.loop (.seq (.ops [JSk 19 .lss 18 5]) (.seq (.cond (.t 19) .skip (.exit 0)) (.seq (.block 1 (.seq (.ops [JS 20 (.raw (.index 196 (.tmp 17) (.tmp 18))),JSm 4 20]) (.ops [JSm 21 4,JSm 22 4,JS 23 (.nilc (.t 22)),JSl 24 23,JSc 25 124 [.t 24],JS 26 (.nilc (.t 21)),JUs 1 26 25]))) (.ops [JSk 27 .add 18 1,JSm 18 27]))))))) (.seq (.dops [JFf 28 10 1,JFf 29 0 28,JFl 30 29,JFc 31 125 [.t 30],JFf 32 10 1,JFf 33 4 32,JFl 34 33,JSc 35 76 [.t 34],JSf 36 10 1,JSf 37 0 36,JUs 1 37 31,JSf 38 10 1,JSf 39 4 38,JUs 1 39 35]) (.seq (.ops [JSL 40 15 1,JUs 15 2 40]) .ret)))
def Zyf:FC:=⟨1,41,[.cell 2 false 15],(.seq (.ops [JS 1 (.box 15 (.t 0)),JS 2 (.alloc [Jz 0,J0,J0,J0,J0,J0,Jz 0,Jz 0,Jz 0,Jz 0,J0,Jz 0,Jz 0,Jz 0,J0])]) ZxI)⟩
theorem ZAD:Zao Tryz.prog [] 125=some Zvf:=by kernel_rfl
theorem c92:Zao Tryz.prog [35] 92=some Zyf:=by kernel_rfl
attribute [local go_sem] Nat.reduceEqDiff Nat.reduceAdd Nat.reduceMul reduceIte Nat.reduceLeDiff Nat.reduceLT Nat.reduceBEq reduceCtorEq
theorem Zmj (l:List Rec) (hl:l.length≤1000):FSpec Tryz.prog 125 [.c (ZaO l)] (.c (ZaO l)):=by
 have hmax:maxLen=9223372036854775807:=rfl;refine Zac ZAD (Nat.le_refl _) (by decide) fun C hP hN hC hL=> ?_;rw[Zad]
 simp only[Zvf,ZaO];cases l with
 |nil=>
  refine vR ?_;intro b;refine vR ?_;cases b
  ·(refine vC ?_ ?_<;>intro h)
   ·simp at h
   ·(repeat (refine vV ?_;(try simp only[go_sem,hP,List.all_nil]);refine vQ ?_))
    (refine vT ?_;try exact trivial)
  ·(refine vC ?_ ?_<;>intro h)
   ·refine vR ?_;(refine Zak ?_;simp only[Zaq,inQ,ZgY,ZcN,Zae,ZaI];simp only[go_sem,ZaH,AV.port,AV.portL,exists_eq_left'])
    exact AVle.nil 2
   ·simp at h
 |cons a l=>
  refine vR ?_;(refine vC ?_ ?_<;>intro h)
  ·simp at h
  ·clear h;have hlen:l.length+1≤1000:=hl;have hp:((a.cds::l.map Rec.cds).all fun e=>e.length==2)=true:=by
    rw[List.all_eq_true];intro e he;rcases List.mem_cons.1 he with rfl|he
    ·rfl
    ·obtain ⟨n,_,rfl⟩:=List.mem_map.1 he;rfl
   (repeat (refine vV ?_;(try simp only[go_sem,hP,hp,List.length_cons,List.length_map]);refine vQ ?_))
   (refine vT ?_;try exact trivial)
structure BarLn (b:Bar):Prop where
 no:b.box.wh.no.length≤1000
 co:b.box.wh.co.length≤1000
 fo:b.box.fo.length≤1000
 ma:b.box.ma.length≤1000
 sl:b.box.sl.length≤1000
 rc:b.tray.recs.length≤1000
 pr:b.tray.pres.length≤1000
def Bar.avsP (b:Bar) (p:AV):List AV:=[iv b.box.wh.ro,.c (Zaj b.box.wh.no),.c (Zaj b.box.wh.co),.c (Zaj b.box.fo),.c (Zaj b.box.ma),.c (Zaj b.box.sl),iv b.box.pl,iv b.box.sk,iv b.pl,iv b.cr,.c (ZaO b.tray.recs),iv b.tray.at_,iv b.tray.way,iv b.tray.step,p]
set_option maxHeartbeats 1000000 in
theorem copied26 {b:Bar} (hb:BarLn b):Za3 Tryz.prog 92 [b.av] (fun r os=>r= .agg (b.avsP (.gr 1000))∧os=[.grow 122 2 (b.tray.pres.map Pr.cds)]):=by
 refine ZaK c92 (Nat.le_refl _) (by decide) fun C hP hN hC hL=> ?_;rw[Zad]
 simp only[Zyf,Bar.av,Bar.avs];refine vR ?_;refine Ze9 (e:=195) (n:=5) (sz:=1) (z:=List.replicate 5 (.c (.raw (.pointer none)))) (ps:=[(0,1,.t 7),(1,1,.t 10),(2,1,.t 12),(3,1,.t 14),(4,1,.t 16)]) (r:=[.bp 1 1,.bp 1 2,.bp 1 3,.bp 1 4,.bp 1 5]) (by kernel_rfl) (by kernel_rfl) (by kernel_rfl) rfl ?_ rfl ?_ ?_
 ·intro i q hq;have:i=0∨i=1∨i=2∨i=3∨i=4∨5≤i:=by omega
  rcases this with rfl|rfl|rfl|rfl|rfl|h
  case inr.inr.inr.inr.inr=>rw[List.getElem?_eq_none (by exact h)] at hq;cases hq
  all_goals (cases hq;exact ⟨_,rfl,rfl⟩)
 ·simp only[go_sem]
 simp only[go_sem,hP];refine vR ?_;refine ZaQ (fun k:Nat=>⟨upd (upd (upd (upd e0 1 (.bp 1 0)) 2 (.bp 2 0)) 17 (.agg [.bp 1 1,.bp 1 2,.bp 1 3,.bp 1 4,.bp 1 5])) 18 (iv k),upd (upd o0 1 (.box b.avs)) 2 (.box [iv 0,.c (.raw (.slice none 0 0)),.c (.raw (.slice none 0 0)),.c (.raw (.slice none 0 0)),.c (.raw (.slice none 0 0)),.c (.raw (.slice none 0 0)),iv 0,iv 0,iv 0,iv 0,.c (.raw (.slice none 0 0)),iv 0,iv 0,iv 0,.c (.raw (.slice none 0 0))])⟩) (fun k=>k≤5) (fun k=>5 -k) 0 (Nat.zero_le _) ?_ ?_
 ·refine Zai (by simp only[go_sem];exact Zam) (by unfold Bar.avs;simp only[go_sem];exact Zaa)
 intro k hk;unfold Bar.avs;refine vR ?_;(refine vC ?_ ?_<;>intro h)
 ·have hi:k<5:=by simp at h;omega
  (refine Zcb ?_;simp only[go_sem])
  refine ZaG (Zcs (ZaG ?_));have w1:=w64 (n:=(k:Int)+1) (by omega) (by omega);have:k=0∨k=1∨k=2∨k=3∨k=4:=by omega
  have h1:=ZdA _ hb.no;have h2:=ZdA _ hb.co;have h3:=ZdA _ hb.fo;have h4:=ZdA _ hb.ma;have h5:=ZdA _ hb.sl;rcases this with rfl|rfl|rfl|rfl|rfl
  all_goals (
   (refine ZcH ?_;simp only[go_sem,hP];refine vQ ?_)
   refine ZbM (e:=195) (n:=5) (x':=.t 17) (i':=.t 18) (k:=.i64) (j:=_) (by kernel_rfl) (by kernel_rfl) (by kernel_rfl) rfl rfl rfl rfl rfl rfl (by omega) rfl ?_;simp only[go_sem,hP];refine vR ?_;first|refine Zau h1 ?_|refine Zau h2 ?_|refine Zau h3 ?_|refine Zau h4 ?_|refine Zau h5 ?_
   simp only[go_sem,hP];refine vQ ?_;refine vW w1 ?_)
  all_goals (first|refine ⟨1,by omega,by omega,Zai (by simp only[go_sem];exact Zam) (by simp only[go_sem];exact Zaa)⟩|refine ⟨2,by omega,by omega,Zai (by simp only[go_sem];exact Zam) (by simp only[go_sem];exact Zaa)⟩|refine ⟨3,by omega,by omega,Zai (by simp only[go_sem];exact Zam) (by simp only[go_sem];exact Zaa)⟩|refine ⟨4,by omega,by omega,Zai (by simp only[go_sem];exact Zam) (by simp only[go_sem];exact Zaa)⟩|refine ⟨5,by omega,by omega,Zai (by simp only[go_sem];exact Zam) (by simp only[go_sem];exact Zaa)⟩)
 ·have hk5:k=5:=by simp at h;omega
  subst hk5;have h6:=Zmj _ hb.rc;refine vR ?_;(refine Za0 (h6) rfl rfl rfl rfl rfl ?_;simp only[go_sem,hP];refine vQ ?_;refine vR ?_)
  refine ZaR (ZoJ _ hb.pr) rfl rfl rfl rfl ?_;rintro r os ⟨rfl,rfl⟩;refine ⟨[35],_,_,by simp,rfl,rfl,rfl,rfl,?_⟩;simp only[go_sem,hP,Zab];refine vQ ?_;refine vR ?_;(refine Zak ?_;simp only[Zaq,inQ,Zbe,ZaP,Zae,ZaI];simp only[go_sem,ZaH])
  refine ⟨[35],_,_,_,by simp,by simp,rfl,AVle.refl _,rfl,rfl,rfl⟩
end Go.Proofs.YtcggfogkfhlmlaaGreatDoor
