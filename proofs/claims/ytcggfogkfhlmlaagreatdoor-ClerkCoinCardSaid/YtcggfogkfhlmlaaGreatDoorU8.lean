/-
  Contracts of the layer's functions, of the laws' helpers and of the law; conditions: as each theorem states.
-/
import Derived.Test.YtcggfogkfhlmlaaGreatDoorU7
import Derived.Test.YtcggfogkfhlmlaaGreatDoorV3
import Derived.Shelf.SlIterI.Nil
import Derived.Shelf.SortM.Plain
import Derived.Shelf.SortM.SortNone
import Derived.Shelf.Slices.Reverse
import Derived.Sort.OwnSortedInts
import Derived.Test.YtcggfogkfhlmlaaGreatDoorV2
import Derived.Test.YtcggfogkfhlmlaaGreatDoorU5
import Derived.Test.YtcggfogkfhlmlaaGreatDoorChecked
set_option linter.unusedVariables false
set_option linter.unusedSimpArgs false
namespace Go.Proofs.YtcggfogkfhlmlaaGreatDoor
open Go Go.V
abbrev Zv9:List Ins:=[JS 17 (.raw (.makeMap 189 none)),JS 18 (.bld [Jz 0,Jz 0,Jz 0,Jz 0,Jz 0,Jz 0,Jz 0] []),JS 19 (.bld [Jz 0,Jz 0,Jz 0,Jz 0,Jz 0,Jz 0,Jz 0,Jz 0] [(0,1,(.k (Jz (-2))))]),JN (.raw (.insert 189 (.tmp 17) (.tmp 18) (.tmp 19))),JSm 20 17,JS 5 (.alloc [(.c (.raw (.map none)))]),JUs 1 5 20]
abbrev ZwT:OT:=(.cons (JFm 43 0) (.cons (JF 44 (.nilc (.t 43))) (.cons (JFf 45 0 44) (.cons (JFf 46 0 45) (.cons (JFL 47 3 46) (.cons (JFf 48 0 7) (.cons (JFf 49 0 48) (.cons (JFl 50 49) (.cons (JF 51 (.bld [Jz 0,Jz 0] [(0,1,(.t 50)),(1,1,(.k (Jz 1)))])) (.br [(.cons (JF 52 (.bsl 3 1 [(.k (Jz (-1)))])) (.cons (JF 9 (.alloc [Jz 0,Jz 0])) (.cons (JFc 53 40 [.t 47,.t 51,.t 52]) (.cons (JFm 42 53) (.cons (JFe 54 42 0) (.cons (JFe 55 42 1) (.cons (JFe 56 42 2) (.cons (JE (Js 2 9 54)) (.cons (JFm 10 55) (.cons (JSm 11 56) .nil)))))))))),(.cons (JF 9 (.alloc [Jz 0,Jz 0])) (.cons (JF 52 (.bsl 3 1 [(.k (Jz (-1)))])) (.cons (JFc 53 40 [.t 47,.t 51,.t 52]) (.cons (JFm 42 53) (.cons (JFe 54 42 0) (.cons (JFe 55 42 1) (.cons (JFe 56 42 2) (.cons (JE (Js 2 9 54)) (.cons (JFm 10 55) (.cons (JSm 11 56) .nil))))))))))]))))))))))
abbrev Zr5:List Ins:=[JSm 57 8,JSf 58 0 9,JSl 59 58,JSf 60 0 7,JSf 61 1 60,JSl 62 61,JSk 63 .sub 62 1,JS 64 (.bld [Jz 0,Jz 0] [(0,1,(.t 59)),(1,1,(.t 63))]),JSf 65 2 7,JSL 66 4 65,JSf 67 6 7,JSl 68 67,JS 69 (.bld [Jz 0,Jz 0,Jz 0,Jz 0,Jz 0,Jz 0,Jz 0] [(0,2,(.t 64)),(2,4,(.t 66)),(6,1,(.t 68))]),JS 70 (.call (.t 57) [(.k (Jz (-1))),.t 69])]
abbrev Zs7:OT:=(.cons (JFm 90 0) (.cons (JF 91 (.nilc (.t 90))) (.cons (JFf 92 0 91) (.cons (JFf 93 0 92) (.cons (JFL 94 3 93) (.cons (JFf 95 0 7) (.cons (JFf 96 0 95) (.cons (JFl 97 96) (.cons (JF 98 (.bld [Jz 0,Jz 0] [(0,1,(.t 97))])) (.cons (JFm 99 12) (.br [(.cons (JF 100 (.bsl 3 1 [.t 99])) (.cons (JF 13 (.alloc [Jz 0,Jz 0])) (.cons (JFc 101 40 [.t 94,.t 98,.t 100]) (.cons (JFm 89 101) (.cons (JFe 102 89 0) (.cons (JFe 103 89 1) (.cons (JFe 104 89 2) (.cons (JE (Js 2 13 102)) (.cons (JFm 14 103) (.cons (JSm 15 104) .nil)))))))))),(.cons (JF 13 (.alloc [Jz 0,Jz 0])) (.cons (JF 100 (.bsl 3 1 [.t 99])) (.cons (JFc 101 40 [.t 94,.t 98,.t 100]) (.cons (JFm 89 101) (.cons (JFe 102 89 0) (.cons (JFe 103 89 1) (.cons (JFe 104 89 2) (.cons (JE (Js 2 13 102)) (.cons (JFm 14 103) (.cons (JSm 15 104) .nil))))))))))])))))))))))
abbrev Zr6:List Ins:=[JSf 105 0 13,JSl 106 105,JSf 107 0 7,JSf 108 1 107,JSl 109 108,JSf 110 1 13,JSl 111 110,JSb 112 .add 109 111,JS 113 (.bld [Jz 0,Jz 0] [(0,1,(.t 106)),(1,1,(.t 112))]),JSf 114 2 7,JSL 115 4 114,JSf 116 6 7,JSl 117 116,JSf 118 1 13,JSl 119 118,JSb 120 .add 117 119,JS 121 (.bld [Jz 0,Jz 0,Jz 0,Jz 0,Jz 0,Jz 0,Jz 0] [(0,2,(.t 113)),(2,4,(.t 115)),(6,1,(.t 120))]),JS 16 (.alloc [Jz 0,Jz 0,Jz 0,Jz 0,Jz 0,Jz 0,Jz 0]),JUs 7 16 121]
abbrev Zto:VC:=(.seq (.seq (.dops [JFm 81 12,JFf 82 2 7,JF 83 (.iap 4 1 (.t 82) (.t 81)),JFl 84 83,JFm 85 12,JF 86 (.iap 4 1 (.t 3) (.t 85)),JFl 87 86,JSb 88 .eql 84 87]) (.cond (.t 88) (.exit 3) .skip)) (.seq (.drw Zs7) (.seq (.ops Zr6) (.seq (.ops [JSm 122 12,JSf 123 2 16,JS 124 (.iap 4 1 (.t 123) (.t 122)),JSl 125 124,JSk 126 .add 125 1,JSf 127 2 16,JS 128 (.iap 4 1 (.t 127) (.t 122)),JUs 1 128 126]) (.ops [JSm 129 8,JSm 130 12,JSL 131 7 16,JS 132 (.call (.t 129) [.t 130,.t 131])])))))
-- Zqf: changed and kept: [78]
abbrev Zqf:List Nat:=[0,3,5,6,7,8,77]
abbrev Zn5:VC:=(.seq (.ops [JSm 71 0,JS 72 (.nilc (.t 71)),JSf 73 0 72,JSf 74 0 73,JSf 75 2 74,JSl 76 75,JSn 77 76,JSi 78 0]) (.block 2 (.loop (.seq (.ops [JSb 79 .lss 78 77]) (.seq (.cond (.t 79) .skip (.exit 2)) (.seq (.block 3 (.seq (.ops [JSm 80 78,JSm 12 80]) Zto)) (.ops [JSk 133 .add 78 1,JSm 78 133])))))))
abbrev Ztp:VC:=(.seq (.ops [JSl 29 6,JS 30 (.slc 7 (.t 29) (some (.k (Jz 1))) none),JUs 1 6 30]) (.seq (.ops [JS 31 (.mkfn 151 [.t 3,.t 5,.t 7,.t 6]),JSm 8 31]) (.seq (.seq (.ops [JSf 32 0 7,JSf 33 1 32,JSl 34 33,JSk 35 .gtr 34 0,JSm 36 35,JTf 37 0 7 36,JTf 38 0 37 36,JTl 39 38 36,JTk 40 .gtr 39 0 36,JSp 41 36 40]) (.cond (.t 41) (.seq (.drw ZwT) (.ops Zr5)) .skip)) Zn5)))
-- Zqe: changed and kept: []
abbrev Zqe:List Nat:=[0,3,5,6]
abbrev Ztq:VC:=(.seq (.ops [JS 21 (.bld [Jz 0,Jz 0,Jz 0,Jz 0,Jz 0,Jz 0,Jz 0] []),JS 22 (.bsl 187 7 [.t 21]),JS 6 (.alloc [J0]),JUs 1 6 22]) (.seq (.block 0 (.loop (.seq (.seq (.ops [JSl 23 6,JSn 24 23,JSk 25 .gtr 24 0]) (.cond (.t 25) .skip (.exit 0))) (.block 1 (.seq (.ops [JSl 26 6,JS 27 (.ia 7 (.t 26) (.k (Jz 0))),JSL 28 7 27,JS 7 (.alloc [Jz 0,Jz 0,Jz 0,Jz 0,Jz 0,Jz 0,Jz 0]),JUs 7 7 28]) Ztp))))) (.seq (.ops [JSl 134 5,JSm 4 134]) .ret)))
def Zvc:FC:=⟨2,135,[.t 4],(.seq (.ops [JS 3 (.box 4 (.t 1)),JS 4 (.mv (.k (.c (.raw (.map none)))))]) (.seq (.ops Zv9) Ztq))⟩
theorem ZAA:Zao Tryz.prog [] 119=some Zvc:=by kernel_rfl
attribute [local go_sem] Nat.reduceEqDiff Nat.reduceAdd Nat.reduceMul reduceIte Nat.reduceLeDiff Nat.reduceLT Nat.reduceBEq reduceCtorEq
theorem ZsZ {w:Wh} (hwb:whB w=true) {pl:Int} (hp:0≤pl∧pl<w.ro):Zez w pl 1 [-1]=((0,0,1),0):=by
 have h1:Zf4 w pl 1 [-1]=true:=by
  simp only[Zf4,Zah,Zqq,ZhG,List.length_singleton,List.all_cons,List.all_nil,Bool.and_eq_true,decide_eq_true_eq];exact ⟨⟨by omega,by omega⟩,by omega,rfl,trivial⟩
 unfold Zez Zdd;rw[hwb,h1];rfl
theorem ZpQ {w:Wh} (hwb:whB w=true) {pl:Int} (hp:0≤pl∧pl<w.ro) {k:Nat} (hk:k<w.co.length):Zez w pl 0 [(k:Int)]=(((pl+w.co.getD k 0) % w.ro,plays w pl (w.co.getD k 0),0),0):=by
 have hne:(k:Int)≠-1:=by omega
 have h1:Zf4 w pl 0 [(k:Int)]=true:=by
  simp only[Zf4,Zah,Zqq,ZhG,List.length_singleton,List.all_cons,List.all_nil,Bool.and_eq_true,Bool.or_eq_true,decide_eq_true_eq,beq_iff_eq,Bool.and_true];exact ⟨⟨by omega,by omega⟩,by omega,.inr (by omega)⟩
 unfold Zez Zdd;rw[hwb,h1];simp only[if_true,Zi2,List.foldl_cons,List.foldl_nil,ZdK,Zgd,hne,if_false,false_and,Int.toNat_natCast,Int.add_zero,Int.zero_add]
theorem ZlW {C:Ctx} {v w:VC} {Q:Exit→St→Prop} {σ:St} {R:St→Prop} (h:∀σ',R σ'→WV C w Q σ') (h2:WV C v (Zaq R Q) σ):WV C v (Zaq (WV C w Q) Q) σ:=h2.mono fun e σ' hq=>by
 cases e
 ·exact h _ hq
 all_goals exact hq
def Zp2 (w:Wh) (A:Bag) (r:AV) (os:List Ob):Prop:=∃bm,r= .c (.raw (.map (some bm)))∧os=[gmap true true (gl (ZeA w A)) bm]
def ZqY (b:Bx):Nat→AV:=upd (upd (upd (upd (upd (upd e0 0 (.c (.pt b.cds))) 3 (.bp 3 0)) 5 (.bp 5 0)) 6 (.bp 6 0)) 7 (.bp 7 0)) 8 (.fn 151 [.bp 3 0,.bp 5 0,.bp 7 0,.bp 6 0])
def ZqZ (A:Bag) (bm:Nat) (x:Pt) (s:Seen×List Pt) (bv off cap:Nat):Nat→Ob:=upd (upd (upd (upd (upd (upd o0 3 (.box (ZaU A.l))) 5 (.box [.c (.raw (.map (some bm)))])) 7 (.box (ZaU x.l))) 17 (gmap true true (gl s.1) bm)) 22 (qO 187 7 (qls s.2) bv off cap)) 6 (.box [qv bv off s.2.length cap])
theorem Zus (x:Pt) {k:Nat} (hk:k<4):[AV.c (.int .i64 x.pl),.c (.int .i64 x.cr),.c (.int .i64 x.a),.c (.int .i64 x.b),.c (.int .i64 x.c),.c (.int .i64 x.d),.c (.int .i64 x.bo)].getD (2+k) .non= .c (.int .i64 (x.bag.at k)):=by
 have:k=0∨k=1∨k=2∨k=3:=by omega
 rcases this with rfl|rfl|rfl|rfl<;>rfl
theorem Zur (x:Bag) {k:Nat} (hk:k<4):[AV.c (.int .i64 x.a),.c (.int .i64 x.b),.c (.int .i64 x.c),.c (.int .i64 x.d)].getD k .non= .c (.int .i64 (x.at k)):=by
 have:k=0∨k=1∨k=2∨k=3:=by omega
 rcases this with rfl|rfl|rfl|rfl<;>rfl
theorem ZwM (x:Pt) {k:Nat} (hk:k<4) (pl cr bo:Int):[AV.c (.int .i64 pl),.c (.int .i64 cr),.c (.int .i64 x.a),.c (.int .i64 x.b),.c (.int .i64 x.c),.c (.int .i64 x.d),.c (.int .i64 bo)].set (2+k) (.c (.int .i64 (x.bag.at k+1)))=ZaU (x.with pl cr (x.bag.inc k) bo).l:=by
 have:k=0∨k=1∨k=2∨k=3:=by omega
 rcases this with rfl|rfl|rfl|rfl<;>rfl
theorem Zut (x:Pt) {k:Nat} (hk:k<4) (pl cr bo:Int):[AV.c (.int .i64 pl),.c (.int .i64 cr),.c (.int .i64 x.a),.c (.int .i64 x.b),.c (.int .i64 x.c),.c (.int .i64 x.d),.c (.int .i64 bo)].getD (2+k) .non= .c (.int .i64 (x.bag.at k)):=Zus ⟨pl,cr,x.a,x.b,x.c,x.d,bo⟩ hk
set_option maxHeartbeats 8000000 in
set_option maxRecDepth 20000 in
theorem kinds62 {C:Ctx} (hP:C.P=Tryz.prog) {b:Bx} (hwb:whB b.wh=true) {A:Bag} (hA:BagOk A) {bm:Nat} {x:Pt} (hx:PtIn b.wh.ro A x) {s0:Seen×List Pt} (hs0:SeenOk b.wh.ro A s0) {bv0 off0 cap0:Nat} {Q:Exit→St→Prop}
  (hQ:∀σ' bv off cap,Sub σ' ⟨ZqY b,ZqZ A bm x (Zbd A x (Zc7 b.wh A x b.wh.co.length) s0) bv off cap⟩→Q .normal σ'):WV C Zn5 Q ⟨ZqY b,ZqZ A bm x s0 bv0 off0 cap0⟩:=by
 have hw:=ZeQ hwb;have hro:=hw.ro;have hcl:=hw.cl;simp only[ZqY,ZqZ,ZaU,Bag.l,Pt.l,List.map_cons,List.map_nil];(repeat (refine vV ?_;(try simp only[go_sem,hP,Bx.cds,Zaj,List.length_map]);refine vQ ?_))
 refine Zax Zqf [17,22,6] (fun i:Nat×(Seen×List Pt)×Nat×Nat×Nat=>i.1≤b.wh.co.length∧i.2.1=Zbd A x (Zc7 b.wh A x i.1) s0) (fun i=>b.wh.co.length -i.1) (fun i=>[(78,iv i.1)])
  (fun i=>[(17,gmap true true (gl i.2.1.1) bm),(22,qO 187 7 (qls i.2.1.2) i.2.2.1 i.2.2.2.1 i.2.2.2.2),(6,.box [qv i.2.2.1 i.2.2.2.1 i.2.1.2.length i.2.2.2.2])]) (0,s0,bv0,off0,cap0) ⟨Nat.zero_le _,rfl⟩ ?_ ?_
 ·exact Zaz
 rintro ⟨k,s,bv,off,cap⟩ ⟨hk,hs⟩;simp only at hk hs;refine vR ?_;(refine vC ?_ ?_<;>intro h)
 ·have hi:k<b.wh.co.length:=by simpa using h
  clear h;have hok:SeenOk b.wh.ro A s:=by rw[hs];exact (Zc3 hA hs0 (Zh2 hw hA hx hk)).1
  have hlen:=hok.len hA hro.2;have hk4:k<4:=by omega
  have g1:=Zus x hk4;have g2:=Zur A hk4;have hsu:∀y:Int×Pt,Zg7 b.wh A x k=[y]→Zbd A x (Zc7 b.wh A x (k+1)) s0=Ze1 A y.1 x s y.2:=fun y hy=>by
   rw[Zfx,Zgp,←hs,hy];rfl
  have hsn:Zg7 b.wh A x k=[]→Zbd A x (Zc7 b.wh A x (k+1)) s0=s:=fun hy=>by
   rw[Zfx,Zgp,←hs,hy];rfl
  have w1:=w64 (n:=(k:Int)+1) (by omega) (by omega);(repeat (refine vV ?_;(try simp only[go_sem,hP,g1,g2,Int.toNat_natCast,Nat.mul_one]);refine vQ ?_))
  by_cases hne:x.bag.at k=A.at k
  ·have hsk:=hsn (by unfold Zg7;rw[if_pos hne]);(refine vC ?_ ?_<;>intro h)
   ·refine vW w1 ?_;refine ⟨(k+1,s,bv,off,cap),⟨hi,hsk.symm⟩,by simp only;omega,?_⟩;exact Zaz
   ·simp[hne] at h
  ·have hlt:=Bag.at_inc hA hx.1 hk4 hne;(refine vC ?_ ?_<;>intro h)
   ·simp at h;exact absurd h hne
   ·clear h;have hco:1≤b.wh.co.getD k 0∧b.wh.co.getD k 0≤100:=ZaZ hw.co hi;have hpb:=Zd5 hw (p:=x.pl) (c:=b.wh.co.getD k 0) (by omega);have hxa:=hx.1;have hx14:=hx.2;have hbo:=hxa.bo;have hmany:0≤x.bag.many∧x.bag.many≤14:=by
     obtain ⟨a1,a2,a3,a4,a5⟩:=hA;obtain ⟨_,_,h3,h4,h5,h6,_⟩:=hxa;simp only[Pt.bag,Bag.many];omega
    have hat:0≤x.bag.at k∧x.bag.at k≤14:=by
     obtain ⟨a1,a2,a3,a4,a5⟩:=hA;obtain ⟨_,_,h3,h4,h5,h6,_⟩:=hxa;have:k=0∨k=1∨k=2∨k=3:=by omega
     rcases this with rfl|rfl|rfl|rfl<;>simp only[Bag.at,Bag.l,Pt.bag,List.getD_cons_zero,List.getD_cons_succ]<;>omega
    have hrun:=run69 b.wh x.pl 0 [(k:Int)];rw[ZpQ hwb hxa.pl hi] at hrun;have hcn:Zg7 b.wh A x k=[((k:Int),x.with ((x.pl+b.wh.co.getD k 0) % b.wh.ro) (x.cr+plays b.wh x.pl (b.wh.co.getD k 0)) (x.bag.inc k) (x.bo+plays b.wh x.pl (b.wh.co.getD k 0)))]:=by unfold Zg7;rw[if_neg hne]
    have hsk:=hsu _ hcn;have hyo:=ZjX hw hA hx hi _ (by rw[hcn];exact List.mem_singleton.2 rfl);simp only at hsk hyo;have w2:=w64 (n:=x.cr+plays b.wh x.pl (b.wh.co.getD k 0)) (by have:=hxa.cr;omega) (by omega);have w3:=w64 (n:=x.bo+plays b.wh x.pl (b.wh.co.getD k 0)) (by omega) (by omega);have w4:=w64 (n:=x.bag.at k+1) (by omega) (by omega);have hset:=ZwM x hk4 ((x.pl+b.wh.co.getD k 0) % b.wh.ro) (x.cr+plays b.wh x.pl (b.wh.co.getD k 0)) (x.bo+plays b.wh x.pl (b.wh.co.getD k 0));have hgt:=Zut x hk4 ((x.pl+b.wh.co.getD k 0) % b.wh.ro) (x.cr+plays b.wh x.pl (b.wh.co.getD k 0)) (x.bo+plays b.wh x.pl (b.wh.co.getD k 0));generalize x.with ((x.pl+b.wh.co.getD k 0) % b.wh.ro) (x.cr+plays b.wh x.pl (b.wh.co.getD k 0)) (x.bag.inc k) (x.bo+plays b.wh x.pl (b.wh.co.getD k 0))=y at hset hsk hyo
    generalize (x.pl+b.wh.co.getD k 0) % b.wh.ro=np at*;generalize plays b.wh x.pl (b.wh.co.getD k 0)=gp at*;have hhl:s.2.length+1≤maxLen:=by have:maxLen=9223372036854775807:=rfl;omega
    have hadd:=add67 hA hro.2 (k:Int) hyo x (S:=s.1) (fun e he=>(hok.inn e he).1) (q:=s.2) bm bv off cap hhl (by omega);simp only[ZaU,Pt.l,List.map_cons,List.map_nil] at hset;clear hsu hsn hcn;refine vR ?_;(refine Zbx ?_;simp only[go_sem,hP,g1,g2,Int.toNat_natCast,Nat.mul_one];(repeat' (refine And.intro ?_ ?_)))
    all_goals (
     (refine Za0 (hrun) rfl rfl rfl rfl rfl ?_;simp only[go_sem,hP,Wh.av,Wh.avs,Zaj,w2,w3,w4,hgt,hset,Int.toNat_natCast,Nat.mul_one];refine vQ ?_;(repeat (refine vV ?_;(try simp only[go_sem,hP,Wh.av,Wh.avs,Zaj,w2,w3,w4,hgt,hset,Int.toNat_natCast,Nat.mul_one]);refine vQ ?_)))
     refine Zas [3,5,7,6,17,22] hadd rfl rfl rfl (by decide) rfl rfl ?_;rintro r l' ⟨rfl,bv',off',cap',rfl⟩;refine ⟨_,_,rfl,rfl,?_⟩;simp only[go_sem,hP,Zab,ZaU,Bag.l,Pt.l,List.map_cons,List.map_nil];refine vW w1 ?_;refine ⟨(k+1,Ze1 A k x s y,bv',off',cap'),⟨hi,hsk.symm⟩,by simp only;omega,?_⟩;exact Zaz)
 ·have hi:k=b.wh.co.length:=by simp at h;omega
  subst hi;subst hs;refine vR ?_;refine hQ _ bv off cap ?_;simp only[ZqY,ZqZ,ZaU,Bag.l,Pt.l,List.map_cons,List.map_nil,Bx.cds,Zaj];exact Zaz
set_option maxHeartbeats 8000000 in
set_option maxRecDepth 20000 in
theorem walk62 {b:Bx} (hwb:whB b.wh=true) {A:Bag} (hA:BagOk A):Za3 Tryz.prog 119 [.c (.pt b.cds),.agg (ZaU A.l)] (Zp2 b.wh A):=by
 have hw:=ZeQ hwb;have hro:=hw.ro;refine ZaK ZAA (Nat.le_refl _) (by decide) fun C hP hN hC hL=> ?_;rw[Zad]
 simp only[Zvc,Bx.cds,Zaj,ZaU,Bag.l,List.map_cons,List.map_nil];refine vR ?_;refine ZnD true true rfl ?_;intro bm;simp only[go_sem,hP];refine vR ?_;have hst:=Zf8 hw hA;have hk0:=(hst.inn (p00,-2,p00) (by simp)).1.key hA hro.2;refine Zfa (ka:=true) (va:=true) (n:=17) (b:=bm) (l:=gl []) (key:=p00.l) (val:=-2::p00.l) (k:=187) (e:=223) (x':=.t 17) (i':=.t 18) (v':=.t 19) (.inr rfl) (by kernel_rfl) Znu rfl rfl rfl rfl rfl rfl rfl rfl rfl rfl hk0 (ZfH hA hro.2 (S:=[]) (fun e he=>by cases he)) (fun p _ h=>Zdp h) ?_;rw[ZmE (by simp[sks])];simp only[go_sem,hP,List.nil_append];refine ZaG ?_;(refine ZdS 1 ?_;simp only[List.take_succ_cons,List.take_zero,List.take_nil,List.drop_succ_cons,List.drop_zero,List.drop_nil];simp only[go_sem,hP];refine vQ ?_)
 refine ZlQ rfl ?_;refine ZpJ (xs:=[p00.l]) rfl rfl rfl (ql1 p00) ?_;intro bq;simp only[go_sem,hP];(refine Zdn ?_;simp only[go_sem,hP];refine vQ ?_)
 refine ZaG (Zcs ?_);refine Zax Zqe [17,22,6] (fun i:Seen×List Pt×Nat×Nat×Nat=>SeenOk b.wh.ro A (i.1,i.2.1)∧∃n,left (i.1,i.2.1)≤n∧bfs b.wh A n (i.1,i.2.1)=ZeA b.wh A) (fun i=>left (i.1,i.2.1)) (fun _=>[])
  (fun i=>[(17,gmap true true (gl i.1) bm),(22,qO 187 7 (qls i.2.1) i.2.2.1 i.2.2.2.1 i.2.2.2.2),(6,.box [qv i.2.2.1 i.2.2.2.1 i.2.1.length i.2.2.2.2])]) ([(p00,-2,p00)],[p00],bq,0,1) ⟨hst,476583750002,by simp[left],by rw[ZeA]⟩ ?_ ?_
 ·exact Zaz
 rintro ⟨S,q,bv,off,cap⟩ ⟨hok,n,hn,hbfs⟩;simp only at hok hn hbfs;refine vR ?_;(refine vC ?_ ?_<;>intro h)
 ·cases q with
  |nil=>simp at h
  |cons x q=>
  clear h;have hlen:=hok.len hA hro.2;have hx:=hok.of_mem (hok.sub x (by simp));refine vR ?_;refine ZwF (b:=bv) (off:=off) (n:=(x::q).length) (cap:=cap) rfl rfl rfl rfl (Int.le_refl 0) (by simp) ?_;simp only[go_sem,hP];refine ZsT (n:=22) (b:=bv) (off:=off) (cap:=cap) (i:=0) (e:=187) (xs:=qls (x::q)) (r:=x.l) rfl rfl rfl rfl ?_;simp only[go_sem,hP,Pt.l,List.map_cons,List.map_nil];refine vR ?_;refine ZpK (n:=22) (b:=bv) (off:=off) (cap:=cap) (l:=1) (m:=(x::q).length) (e:=187) (xs:=qls (x::q)) rfl rfl rfl (List.length_map ..) rfl rfl (by simp) ?_;intro off1;have e1:(qls (x::q)).drop 1=qls q:=rfl;have e2:(x::q).length -1=q.length:=rfl;rw[e1,e2];simp only[go_sem,hP];refine vR ?_;have hexp:=ZdY hw hA hok;have hlft:=Zjw hw hA hok;have ht:=hok.tail;have hsel:=ZnT hw hx;have hs1:=Zc3 hA (x:=x) ht hsel;have hl1:=hs1.1.len hA hro.2;refine ZlW (R:=fun σ'=>∃bv1 off2 cap1,Sub σ' ⟨ZqY b,ZqZ A bm x (Zbd A x (Zkx x) (S,q)) bv1 off2 cap1⟩) ?_ ?_
  ·rintro σ' ⟨bv1,off2,cap1,hsub⟩;refine ZaL hsub (kinds62 hP hwb hA hx hs1.1 fun σ2 bv3 off3 cap3 hsub2=> ?_);obtain ⟨m,rfl⟩:∃m,n=m+1:=⟨n -1,by omega⟩;refine ⟨((Zcv b.wh A x (S,q)).1,(Zcv b.wh A x (S,q)).2,bv3,off3,cap3),⟨hexp.1,m,(show left (Zcv b.wh A x (S,q))≤m by omega),hbfs⟩,hlft,?_⟩;refine hsub2.trans ?_;rw[show Zbd A x (Zc7 b.wh A x b.wh.co.length) (Zbd A x (Zkx x) (S,q))=Zcv b.wh A x (S,q) from rfl];generalize Zcv b.wh A x (S,q)=s2;simp only[ZqY,ZqZ,ZaU,Bag.l,Pt.l,List.map_cons,List.map_nil,Bx.cds,Zaj];exact Zaz
  ·have hxa:=hx.1;by_cases hse:0<x.cr∧0<x.pl
   ·have hsl:Zkx x=[(-1,x.with 0 (x.cr -1) x.bag x.bo)]:=by unfold Zkx;rw[if_pos hse]
    have hsy:Zbd A x (Zkx x) (S,q)=Ze1 A (-1) x (S,q) (x.with 0 (x.cr -1) x.bag x.bo):=by rw[hsl];rfl
    have hyo:=hsel _ (by rw[hsl];exact List.mem_singleton.2 rfl);simp only at hyo;have hrun:=run69 b.wh x.pl 1 [-1];rw[ZsZ hwb hxa.pl] at hrun;have w2:=w64 (n:=x.cr -1) (by have:=hxa.cr;omega) (by have:=hxa.cr;omega);have hhl:q.length+1≤maxLen:=by have:maxLen=9223372036854775807:=rfl;simp only[List.length_cons] at hlen;omega
    have hadd:=add67 hA hro.2 (-1) hyo x (S:=S) (fun e he=>(hok.inn e he).1) (q:=q) bm bv off1 (cap -1) hhl (by simp only[List.length_cons] at hlen;omega);rw[hsy];(refine vC ?_ ?_<;>intro h)
    ·refine vR ?_;(refine Zbx ?_;simp only[go_sem,hP];(repeat' (refine And.intro ?_ ?_)))
     all_goals (
      (refine Za0 (hrun) rfl rfl rfl rfl rfl ?_;simp only[go_sem,hP,Wh.av,Wh.avs,Zaj,w2];refine vQ ?_;(repeat (refine vV ?_;(try simp only[go_sem,hP,Wh.av,Wh.avs,Zaj,w2]);refine vQ ?_)))
      refine Zas [3,5,7,6,17,22] hadd rfl rfl rfl (by decide) rfl rfl ?_;rintro r l' ⟨rfl,bv',off',cap',rfl⟩;refine ⟨_,_,rfl,rfl,?_⟩;generalize Ze1 A (-1) x (S,q) (x.with 0 (x.cr -1) x.bag x.bo)=s2;simp only[go_sem,hP,Zab,ZaU,Bag.l,Pt.l,List.map_cons,List.map_nil];refine ⟨bv',off',cap',?_⟩;simp only[ZqY,ZqZ,ZaU,Bag.l,Pt.l,List.map_cons,List.map_nil,Bx.cds,Zaj];exact Zaz)
    ·exfalso;simp[hse.1,hse.2] at h
   ·have hsl:Zkx x=[]:=by unfold Zkx;rw[if_neg hse]
    have hsy:Zbd A x (Zkx x) (S,q)=(S,q):=by rw[hsl];rfl
    rw[hsy];(refine vC ?_ ?_<;>intro h)
    ·exfalso;apply hse;simpa using h
    ·refine vR ?_;refine ⟨bv,off1,cap -1,?_⟩;simp only[ZqY,ZqZ,ZaU,Bag.l,Pt.l,List.map_cons,List.map_nil,Bx.cds,Zaj];exact Zaz
 ·cases q with
  |cons x q=>simp at h
  |nil=>
  rw[Zrj] at hbfs;subst hbfs;refine vR ?_;(refine Zak ?_;simp only[Zaq,inQ,Zbe,ZaP,Zae,ZaI];simp only[go_sem,ZaH])
  refine ⟨[17],_,_,_,by simp,by simp,rfl,AVle.refl _,rfl,bm,rfl,rfl⟩
abbrev Zv8:List Ins:=[JSf 23 2 6,JSL 24 4 23,JSL 25 4 3,JS 26 (.raw (.binOp .eql 185 (.tmp 24) (.tmp 25) 185)),JSm 27 26,JTm 28 8 27,JG 29 (.un .not (.t 28)) 27 true,JTm 30 29 27,JNf 31 0 6 30,JNf 32 0 31 30,JNl 33 32 30,JNf 34 0 7 30,JNf 35 0 34 30,JNl 36 35 30,JNb 37 .lss 33 36 30,JTo 38 30 37 27,JTm 39 38 27,JNf 40 0 6 39,JNf 41 0 40 39,JNl 42 41 39,JNf 43 0 7 39,JNf 44 0 43 39,JNl 45 44 39,JNb 46 .eql 42 45 39,JNm 47 46 39,JTf 48 0 6 47,JTf 49 1 48 47,JTl 50 49 47,JTf 51 0 7 47,JTf 52 1 51 47,JTl 53 52 47,JTb 54 .lss 50 53 47,JNp 55 47 54 39,JTo 56 39 55 27,JSp 57 27 56]
abbrev Ztn:VC:=(.seq (.ops [JS 14 (.raw (.entry (.tmp 11))),JSe 15 14 0,JS 6 (.alloc [Jz 0,Jz 0,Jz 0,Jz 0,Jz 0,Jz 0,Jz 0]),JUs 7 6 15]) (.seq (.ops [JSm 17 5,JSf 18 6 6,JSl 19 18,JS 20 (.raw (.lookup 183 (.tmp 17) (.tmp 19) true)),JSm 16 20,JSe 21 16 0,JSe 22 16 1,JS 7 (.alloc [Jz 0,Jz 0,Jz 0,Jz 0,Jz 0,Jz 0,Jz 0]),JUs 7 7 21,JSm 8 22]) (.seq (.ops Zv8) (.cond (.t 57) (.ops [JSm 58 5,JSf 59 6 6,JSl 60 59,JSL 61 7 6,JN (.raw (.mapUpdate 183 (.tmp 58) (.tmp 60) (.tmp 61)))]) .skip))))
-- K118_1: changed and kept: []
def Zvb:FC:=⟨2,63,[.t 4],(.seq (.ops [JS 3 (.box 4 (.t 1)),JS 4 (.mv (.k (.c (.raw (.map none)))))]) (.seq (.ops [JS 9 (.raw (.makeMap 183 none)),JSm 5 9]) (.seq (.seq (.ops [JSm 10 0,JS 11 (.raw (.range 189 (.tmp 10)))]) (.block 0 (.loop (.seq (.ops [JS 12 (.raw (.next (.tmp 11) false)),JSe 13 12 0]) (.seq (.cond (.t 13) .skip (.exit 0)) (.block 1 Ztn)))))) (.seq (.ops [JSm 62 5,JSm 4 62]) .ret))))⟩
theorem ZAz:Zao Tryz.prog [] 118=some Zvb:=by kernel_rfl
abbrev Ends:=List (Int×Pt)
def gl2 (D:Ends):GL:=D.map fun e=>([e.1],e.2.l)
def Zel (D:Ends) (n:Int):Option Pt:=(D.find? fun e=>e.1=n).map (·.2)
def ZoQ (D:Ends) (n:Int) (p:Pt):Ends:=if (Zel D n).isSome=true then D.map (fun e=>if e.1=n then (n,p) else e) else D++[(n,p)]
theorem ZfI (D:Ends) (n:Int):Zb0 (gl2 D) [n]=(Zel D n).map Pt.l:=by
 unfold Zb0 gl2 Zel;rw[List.find?_map,Option.map_map,Option.map_map];have:((fun q:List Int×List Int=>q.1==[n])∘fun e:Int×Pt=>([e.1],e.2.l))=fun e=>decide (e.1=n):=by
  funext e;simp only[Function.comp_apply];rw[Bool.eq_iff_iff];simp
 rw[this];rfl
theorem Zj9 (D:Ends) (n:Int) (p:Pt):Zoh (gl2 D) [n] p.l=gl2 (ZoQ D n p):=by
 unfold Zoh ZoQ;rw[ZfI,Option.isSome_map];split
 ·simp only[gl2,List.map_map];refine List.map_congr_left fun e _=> ?_
  simp only[Function.comp_apply];by_cases h:e.1=n
  ·simp[h]
  ·simp[h]
 ·simp[gl2]
def ZuO (D:Ends) (x:Pt):Bool:=match Zel D x.bo with|none=>true|some o=>decide (x.pl<o.pl)||(x.pl==o.pl&&decide (x.cr<o.cr))
def ZdX (A:Bag) (D:Ends) (e:Pt×Int×Pt):Ends:=if (decide (e.1.bag=A)&&ZuO D e.1)=true then ZoQ D e.1.bo e.1 else D
theorem Zrh (x A:Bag):(x.a==A.a&&(x.b==A.b&&(x.c==A.c&&x.d==A.d)))=decide (x=A):=by
 rw[Bool.eq_iff_iff];cases x;cases A;simp
theorem Zo2 {R:Seen} {pre post:GL} {k v:List Int} (h:gl R=pre++(k,v)::post):∃A e B,R=A++e::B∧pre=gl A∧post=gl B∧k=e.1.l∧v=e.2.1::e.2.2.l:=by
 unfold gl at h;obtain ⟨A,r2,rfl,h1,h2⟩:=List.map_eq_append_iff.1 h;obtain ⟨e,B,rfl,h3,h4⟩:=List.map_eq_cons_iff.1 h2;simp only[Prod.mk.injEq] at h3;exact ⟨A,e,B,rfl,h1.symm,h4.symm,h3.1.symm,h3.2.symm⟩
def EndsOf (S:Seen) (A:Bag) (D:Ends):Prop:=∃ord:Seen,ord.Perm S∧D=ord.foldl (ZdX A) []
theorem Zkh:KLaw Tryz.prog 3 (fun v=>∃n,v= .int .i64 n):=KLaw.int (by kernel_rfl)
theorem Ze2 (D:Ends):∀p∈gl2 D,∃n,Za2 false p.1= .int .i64 n:=fun p hp=>by
 obtain ⟨e,_,rfl⟩:=List.mem_map.1 hp;exact ⟨_,rfl⟩
theorem Zhh (D:Ends) (n:Int):∀p∈gl2 D,Za2 false p.1=Za2 false [n]→p.1=[n]:=fun p hp h=>by
 obtain ⟨e,_,rfl⟩:=List.mem_map.1 hp;simp only[Za2,Bool.false_eq_true,if_false,List.headD_cons,Value.int.injEq,true_and] at h;simp[h]
set_option maxHeartbeats 8000000 in
set_option maxRecDepth 20000 in
theorem ends63 {S:Seen} {A:Bag} (bm:Nat):ZaE Tryz.prog 118 [.c (.raw (.map (some bm))),.agg (ZaU A.l)] [gmap true true (gl S) bm,empO] [] (fun r l'=>∃be D,r= .c (.raw (.map (some be)))∧l'=[gmap true true (gl S) bm,gmap false true (gl2 D) be]∧EndsOf S A D):=by
 refine ZcD ZAz (by first|simp|exact Nat.le_of_ble_eq_true rfl) (Nat.le_refl _) (by decide) (by decide) fun C hP hN hC hpin hL=> ?_;rw[Zap,Zaw (by first|simp|exact Nat.le_of_ble_eq_true rfl)];simp only[Zvb,Zco,Za1,List.map_nil,List.map_cons,Nat.reduceAdd,]
 simp only[ZaU,Bag.l,List.map_cons,List.map_nil];refine vR ?_;refine ZnD false true rfl ?_;intro be;simp only[go_sem,hP];refine ZaG (Zos 1000 (ka:=true) (va:=true) (l:=gl S) (b:=bm) rfl ?_);intro es clock hst hes;simp only[go_sem];refine vR ?_;refine Zls (n:=1000) (b:=bm) (clock:=clock) (es:=es) (k:=187) (e:=223) (x':=.t 10) (by kernel_rfl) rfl rfl rfl rfl rfl ?_;intro r;simp only[go_sem,hP];refine vR ?_;refine Zax [3,5,11] [11,9] (fun i:Array Nat×Seen×Seen=>(i.2.2++i.2.1).Perm S∧Zd7 true true es i.1 (gl i.2.1)) (fun i=>i.2.1.length) (fun _=>[]) (fun i=>[(11,iterE r bm clock i.1 clock),(9,gmap false true (gl2 (i.2.2.foldl (ZdX A) [])) be)]) (#[],S,[]) ⟨by simp,Zlv hes⟩ ?_ ?_
 ·exact Zaz
 rintro ⟨seen,R,done⟩ ⟨hp,hr⟩;simp only at hp hr;refine vR ?_;refine ZnF (n:=1000) (m:=11) (b:=bm) (r:=r) (clock:=clock) (es:=es) (ka:=true) (va:=true) (l:=gl S) (rest:=gl R) (x':=.t 11) rfl rfl rfl rfl rfl hst rfl rfl hes hr (fun h0=> ?_) fun e pre k v post hsp hem hek hev hr2=> ?_
 ·have hR:R=[]:=List.map_eq_nil_iff.1 h0;subst hR;rw[List.append_nil] at hp;simp only[go_sem,hP];refine vR ?_;(refine vC ?_ ?_<;>intro h)
  ·cases h
  ·refine vR ?_;refine ZlT 1000 true true (gl S) (es:=es) (clock:=clock) rfl hst hes ?_;refine Zc1 [4] ?_;simp only[go_sem];refine ZlU 1001 ?_;refine ZjQ 9 1001 (by decide) (fun hq=>by have h2:false=true:=hpin 1001 hq;cases h2) rfl ?_;unfold rnO;simp only[go_sem,rnP_upd,rnE_upd,rnE_e0,rnP_o0,AV.rn,AV.rnL,Ob.rn];(refine Zak ?_;simp only[Zaq,inQ,ZaB,Zar,Zae,ZaI];simp only[go_sem,ZaH,AV.keepP,AV.keepPL];refine ⟨_,[gmap true true (gl S) bm,gmap false true (gl2 (List.foldl (ZdX A) [] done)) be],rfl,Zag rfl rfl ?_ ?_ rfl,?_⟩)
   ·simp only[go_sem,Zal,Ob.keepP,AV.keepP,AV.keepPL]
   ·trivial
   ·exact ⟨_,_,rfl,rfl,done,hp,rfl⟩
 ·obtain ⟨B1,en,B2,rfl,rfl,rfl,rfl,rfl⟩:=Zo2 hsp;have hgl:gl B1++gl B2=gl (B1++B2):=by simp[gl]
  rw[hgl] at hr2;have hp2:((done++[en])++(B1++B2)).Perm S:=by
   refine List.Perm.trans ?_ hp;rw[List.append_assoc];refine List.Perm.append_left done ?_;exact (List.perm_middle (a:=en) (l₁:=B1) (l₂:=B2)).symm
  have hfo:(done++[en]).foldl (ZdX A) []=ZdX A (done.foldl (ZdX A) []) en:=by rw[List.foldl_append];rfl
  have hlen:(B1++B2).length<B1.length+(B2.length+1):=by simp
  generalize done.foldl (ZdX A) []=D at*;obtain ⟨x,act,from_⟩:=en;simp only at hek hev;simp only[go_sem,hP,kav,if_true,Pt.l,List.map_cons,List.map_nil];refine vR ?_;(refine vC ?_ ?_<;>intro h)
  ·refine vR ?_;refine Zlr (n:=1000) (m:=11) (b:=bm) (r:=r) (clock:=clock) (since:=clock) (es:=es) (e:=e) (ka:=true) (va:=true) (k:=x.l) (v:=act::from_.l) (x':=.t 11) rfl rfl rfl rfl rfl hst hem hek hev ?_;simp only[go_sem,hP,kav,if_true,Pt.l,List.map_cons,List.map_nil];refine vR ?_;have hzl:∃y0 y1 y2 y3 y4 y5 y6:Int,(Zb0 (gl2 D) [x.bo]).getD [0,0,0,0,0,0,0]=[y0,y1,y2,y3,y4,y5,y6]∧ZuO D x=(!(Zb0 (gl2 D) [x.bo]).isSome||(decide (x.pl<y0)||(x.pl==y0&&decide (x.cr<y1)))):=by
    rw[ZfI];unfold ZuO;cases Zel D x.bo with
    |none=>exact ⟨_,_,_,_,_,_,_,rfl,rfl⟩
    |some o=>exact ⟨_,_,_,_,_,_,_,rfl,rfl⟩
   obtain ⟨y0,y1,y2,y3,y4,y5,y6,hz1,hz2⟩:=hzl;refine ZiF (ka:=false) (va:=true) (n:=9) (b:=be) (l:=gl2 D) (key:=[x.bo]) (zs:=[0,0,0,0,0,0,0]) (k:=3) (e:=187) (x':=.t 17) (i':=.t 19) (by kernel_rfl) Zkh (by kernel_rfl) rfl rfl rfl rfl rfl rfl rfl ⟨_,rfl⟩ (Ze2 D) (Zhh D _) ?_;rw[hz1];generalize (Zb0 (gl2 D) [x.bo]).isSome=is at*;simp only[go_sem,hP,kav,if_true,List.map_cons,List.map_nil];refine vR ?_;refine ZsQ (e:=3) (k:=.i64) (x':=.t 24) (y':=.t 25) (by kernel_rfl) (by kernel_rfl) (by kernel_rfl) (by kernel_rfl) (by kernel_rfl) rfl rfl rfl rfl rfl rfl ?_;have hbe:(x.a==A.a&&(x.b==A.b&&(x.c==A.c&&x.d==A.d)))=decide (x.bag=A):=Zrh x.bag A;rw[hbe];have hend:ZdX A D (x,act,from_)=if (decide (x.bag=A)&&ZuO D x)=true then ZoQ D x.bo x else D:=rfl
   rw[hz2] at hend;generalize decide (x.bag=A)=eq at hend;cases eq with
   |false=>
    simp only[Bool.false_and,Bool.false_eq_true,if_false] at hend;simp only[go_sem,hP];refine vR ?_;(refine vC ?_ ?_<;>intro h)
    ·cases h
    ·refine vR ?_;refine ⟨(seen.push e.born,B1++B2,done++[(x,act,from_)]),⟨hp2,hr2⟩,hlen,?_⟩;rw[hfo,hend];exact Zaz
   |true=>
    simp only[Bool.true_and] at hend;cases is with
    |false=>
     simp only[Bool.not_false,Bool.true_or,if_true] at hend;simp only[go_sem,hP];refine vR ?_;(refine vC ?_ ?_<;>intro h)
     ·refine vR ?_;refine Zfa (ka:=false) (va:=true) (n:=9) (b:=be) (l:=gl2 D) (key:=[x.bo]) (val:=x.l) (k:=3) (e:=187) (x':=.t 58) (i':=.t 60) (v':=.t 61) (.inl rfl) (by kernel_rfl) Zkh rfl rfl rfl rfl rfl rfl rfl rfl rfl rfl ⟨_,rfl⟩ (Ze2 D) (Zhh D _) ?_;rw[Zj9];simp only[go_sem,hP];refine ⟨(seen.push e.born,B1++B2,done++[(x,act,from_)]),⟨hp2,hr2⟩,hlen,?_⟩;rw[hfo,hend];exact Zaz
     ·cases h
    |true=>
     simp only[Bool.not_true,Bool.false_or] at hend;simp only[go_sem,hP];refine vR ?_;refine ⟨fun h1=>⟨h1,fun h2=>⟨h1,h2⟩⟩,fun h1=>by rw[h1];rfl,?_⟩;by_cases hc:(decide (x.pl<y0)||(x.pl==y0&&decide (x.cr<y1)))=true
     ·rw[if_pos hc] at hend;(refine vC ?_ ?_<;>intro h)
      ·refine vR ?_;refine Zfa (ka:=false) (va:=true) (n:=9) (b:=be) (l:=gl2 D) (key:=[x.bo]) (val:=x.l) (k:=3) (e:=187) (x':=.t 58) (i':=.t 60) (v':=.t 61) (.inl rfl) (by kernel_rfl) Zkh rfl rfl rfl rfl rfl rfl rfl rfl rfl rfl ⟨_,rfl⟩ (Ze2 D) (Zhh D _) ?_;rw[Zj9];simp only[go_sem,hP];refine ⟨(seen.push e.born,B1++B2,done++[(x,act,from_)]),⟨hp2,hr2⟩,hlen,?_⟩;rw[hfo,hend];exact Zaz
      ·exfalso;simp at h hc;omega
     ·rw[if_neg hc] at hend;(refine vC ?_ ?_<;>intro h)
      ·exfalso;simp at h hc;omega
      ·refine vR ?_;refine ⟨(seen.push e.born,B1++B2,done++[(x,act,from_)]),⟨hp2,hr2⟩,hlen,?_⟩;rw[hfo,hend];exact Zaz
  ·cases h
def Zva:FC:=⟨1,4,[.t 2],(.seq (.ops [JS 1 (.box 1 (.t 0)),JS 2 (.mv (.k (.c (.raw .nilFunc))))]) (.seq (.ops [JS 3 (.mkfn 150 [.t 1]),JSm 2 3]) .ret))⟩
theorem ZAy:Zao Tryz.prog [] 117=some Zva:=by kernel_rfl
def keysD (D:Ends):List Int:=D.map (·.1)
structure EndsOk (S:Seen) (A:Bag) (D:Ends):Prop where
 nd:(keysD D).Nodup
 src:∀e∈D,e.1=e.2.bo∧e.2.bag=A∧e.2∈sks S
theorem ZcJ {D:Ends} {n:Int} {p:Pt} (h:Zel D n=some p):(n,p)∈D:=by
 unfold Zel at h;rw[Option.map_eq_some_iff] at h;obtain ⟨e,he,rfl⟩:=h;have h1:=List.find?_some he;simp only[decide_eq_true_eq] at h1;subst h1;exact List.mem_of_find?_eq_some he
theorem Zha {D:Ends} {n:Int} (h:n∈keysD D):∃p,Zel D n=some p:=by
 unfold keysD at h;obtain ⟨e,he,rfl⟩:=List.mem_map.1 h;cases hd:Zel D e.1 with
 |some p=>exact ⟨p,rfl⟩
 |none=>
  unfold Zel at hd;rw[Option.map_eq_none_iff,List.find?_eq_none] at hd;have:=hd e he;simp at this
theorem ZfA {D:Ends} {n:Int} {p:Pt}:keysD (ZoQ D n p)=if n∈keysD D then keysD D else keysD D++[n]:=by
 unfold ZoQ;by_cases h:n∈keysD D
 ·obtain ⟨q,hq⟩:=Zha h;rw[if_pos h,hq];simp only[Option.isSome_some,if_true,keysD,List.map_map];refine List.map_congr_left fun e _=> ?_
  simp only[Function.comp_apply];split
  ·rename_i h2;exact h2.symm
  ·rfl
 ·have:Zel D n=none:=by
   cases hd:Zel D n with
   |none=>rfl
   |some q=>exact absurd (List.mem_map.2 ⟨_,ZcJ hd,rfl⟩) h
  rw[if_neg h,this];simp[keysD]
theorem EndsOk.nil {S:Seen} {A:Bag}:EndsOk S A []:=⟨List.nodup_nil,fun e h=>by cases h⟩
theorem EndsOk.put {S:Seen} {A:Bag} {D:Ends} (h:EndsOk S A D) {x:Pt} (hx:x.bag=A) (hs:x∈sks S):EndsOk S A (ZoQ D x.bo x):=by
 refine ⟨?_,fun e he=> ?_⟩
 ·rw[ZfA];split
  ·exact h.nd
  ·rename_i h2;rw[List.nodup_append];exact ⟨h.nd,by simp,fun a ha b hb=>by simp only[List.mem_singleton] at hb;subst hb;intro hab;subst hab;exact h2 ha⟩
 ·unfold ZoQ at he;split at he
  ·obtain ⟨e',he',rfl⟩:=List.mem_map.1 he;split
   ·exact ⟨rfl,hx,hs⟩
   ·exact h.src e' he'
  ·rcases List.mem_append.1 he with h1|h1
   ·exact h.src e h1
   ·simp only[List.mem_singleton] at h1;subst h1;exact ⟨rfl,hx,hs⟩
theorem EndsOf.ok {S:Seen} {A:Bag} {D:Ends} (h:EndsOf S A D):EndsOk S A D:=by
 obtain ⟨ord,hp,rfl⟩:=h;have key:∀(l:Seen) (D:Ends),(∀e∈l,e∈S)→EndsOk S A D→EndsOk S A (l.foldl (ZdX A) D):=by
  intro l;induction l with
  |nil=>intro D _ h;exact h
  |cons e l ih=>
   intro D hl h;rw[List.foldl_cons];refine ih _ (fun y hy=>hl y (by simp[hy])) ?_;unfold ZdX;split
   ·rename_i hc;simp only[Bool.and_eq_true,decide_eq_true_eq] at hc;exact h.put hc.1 (List.mem_map.2 ⟨e,hl e (by simp),rfl⟩)
   ·exact h
 exact key ord [] (fun e he=>hp.subset he) .nil
theorem EndsOk.len {S:Seen} {A:Bag} {D:Ends} (h:EndsOk S A D) (hb:∀e∈S,0≤e.1.bo∧e.1.bo≤2000):D.length≤2001∧∀e∈D,0≤e.1∧e.1≤2000:=by
 have hr:∀e∈D,0≤e.1∧e.1≤2000:=fun e he=>by
  obtain ⟨h1,_,h3⟩:=h.src e he;obtain ⟨y,hy,hye⟩:=List.mem_map.1 h3;have:=hb y hy;rw[h1,←hye];exact this
 refine ⟨?_,hr⟩;have:=Zhn 2001 ((keysD D).map Int.toNat) ?_ ?_
 ·simpa [keysD] using this
 ·rw[List.nodup_iff_pairwise_ne,List.pairwise_map];refine (List.nodup_iff_pairwise_ne.1 h.nd).imp_of_mem fun {a b} ha hb' hne e=>hne ?_
  obtain ⟨x,hx,rfl⟩:=List.mem_map.1 ha;obtain ⟨y,hy,rfl⟩:=List.mem_map.1 hb';have:=hr x hx;have:=hr y hy;omega
 ·intro x hx;obtain ⟨y,hy,rfl⟩:=List.mem_map.1 hx;obtain ⟨z,hz,rfl⟩:=List.mem_map.1 hy;have:=hr z hz;omega
theorem ZqH (be:Nat):Za3 Tryz.prog 117 [.c (.raw (.map (some be)))] (fun r os=>r= .fn 150 [.bp 1000 0]∧os=[.box [.c (.raw (.map (some be)))]]):=by
 refine ZaK ZAy (Nat.le_refl _) (by decide) fun C hP hN hC hL=> ?_;rw[Zad]
 simp only[Zva];refine vR ?_;refine Zc1 [1,2] ?_;simp only[go_sem];(refine Zak ?_;simp only[Zaq,inQ,Zbe,ZaP,Zae,ZaI];simp only[go_sem,ZaH])
 exact ⟨[1],_,_,_,by simp,by simp,rfl,AVle.refl _,rfl,rfl,rfl⟩
end Go.Proofs.YtcggfogkfhlmlaaGreatDoor
namespace Go.Proofs.YtcggfogkfhlmlaaGreatDoor
open Go Go.V Go.RowKit Go.Maps Go.Sort Go.Shelf Go.WideElems
def Zyb:FC:=⟨1,9,[.t 2],(.seq (.ops [JS 2 (.mv (.k J0))]) (.seq (.ops [JSm 4 0,JSc 5 148 [.t 4],JSm 3 5]) (.seq (.ops [JSm 6 3,JSc 7 149 [.t 6]]) (.seq (.ops [JSm 8 3,JSm 2 8]) .ret))))⟩
theorem ZAx:Zao Tryz.prog [] 116=some Zyb:=by kernel_rfl
def ZAc:Ren:=⟨fun|7=>117|10=>150|n=>n,fun|23=>183|26=>3|3=>187|28=>181|27=>180|33=>84|n=>n,fun x=>x⟩
def ZAd:Ren:=⟨fun|6=>116|8=>148|9=>149|11=>171|13=>173|12=>172|23=>211|24=>212|14=>202|15=>203|16=>204|17=>205|18=>206|19=>207|20=>208|21=>209|22=>210|25=>228|26=>229|27=>230|28=>231|29=>232|30=>233|31=>253|n=>n,
 fun|26=>3|28=>181|24=>22|3=>3|37=>245|48=>270|50=>272|40=>264|39=>263|45=>82|51=>282|55=>286|57=>307|58=>107|33=>84|n=>n,fun x=>x⟩
def ZBn:Ren:=⟨fun|5=>149|8=>173|7=>172|19=>211|20=>212|10=>202|11=>203|12=>204|13=>205|14=>206|15=>207|16=>208|17=>209|18=>210|30=>228|31=>229|32=>230|33=>231|34=>232|35=>233|40=>253|n=>n,
 fun|23=>22|25=>3|32=>245|22=>22|44=>270|46=>272|36=>264|35=>263|41=>82|53=>282|57=>286|63=>307|64=>107|n=>n,fun x=>x⟩
theorem Zg3 {P:Program} {f:Nat} {B:Func} (h:(P.funcs[f]?).map (fun g => { g with name := "" }) = some { B with name := "" }) (hn:(P.funcs[f]?).map (fun g => g.name == "runtime.NumGoroutine") = some false):Bears P f B:=by
 cases hg:P.funcs[f]? with
 |none=>rw[hg] at h;cases h
 |some g=>
  rw[hg,Option.map_some,Option.some.injEq] at h hn;refine ⟨g.name,hn,?_⟩;rw[hg];have h2:=congrArg (fun x:Func=> {x with name:=g.name}) h;exact congrArg some h2
theorem Zz7:SlLaysZI.n7 Tryz.prog ZAc:=by
 constructor<;>first|exact Zg3 (by kernel_rfl) (by kernel_rfl)|kernel_rfl|(intro w;kernel_rfl)
theorem ZBf:SlLaysZI.n6 Tryz.prog ZAd:=by
 constructor<;>first|exact Zg3 (by kernel_rfl) (by kernel_rfl)|kernel_rfl|(intro w;kernel_rfl)
theorem Zyh:SlLaysM.n5 Tryz.prog ZBn:=by
 constructor<;>first|exact Zg3 (by kernel_rfl) (by kernel_rfl)|kernel_rfl|(intro w;kernel_rfl)
theorem ZwP (m:Nat):AnyZI.SortsIn Tryz.prog ZAd Fence.wide m:=
 ⟨fun blk off cap ss W hH hblk hsz=>callsIn_wide.2 (AnyM.slices_Sort_int Zyh blk off cap ss W hH hblk hsz),fun p cap W=>callsIn_wide.2 (AnyM.slices_Sort_int_none Zyh p cap W)⟩
def srt (l:List Int):List Int:=l.mergeSort fun x y=>decide (x≤y)
theorem ZhB {l:List Int} {n:Int}:n∈srt l↔n∈l:=by unfold srt;rw[List.mem_mergeSort]
theorem Zkz {l l':List Int} (h:l.Perm l'):srt l=srt l':=mergeSort_of_perm_i h
def ZwD (_:Value):Option (DataW Unit×List MemPlace):=some (.nil,[])
theorem Zh6:∀l:List Int,(l.map fun n=>[CD.int .i64 n]).flatten.map AV.c=l.map fun n=>AV.c (.int .i64 n)
 |[]=>rfl
 |x::l=>by simp only[List.map_cons,List.flatten_cons,List.map_append,Zh6 l];rfl
theorem Zo9 {w:World} {M:Cells} {loc:Nat→Value} {l:List Int} {v:Value} {B:Nat} {e:TypeId} (h:w.ownsRow B e 1 v l.length (l.map encZ)) (hM:∀b o,M b o→b<B):RepA w M loc (.c (Zaj l)) v:=by
 obtain ⟨_,h|⟨g,cap,cur,rfl,hB,hb,h1,h2,h3,h4⟩⟩:=h
 ·obtain ⟨rfl,h0⟩:=h;have:l=[]:=List.eq_nil_of_length_eq_zero h0;subst this;simp only[RepA,RepC,Zaj];exact ⟨none,0,rfl,Nat.le_refl _,Nat.zero_le _,.inl rfl⟩
 ·simp only[RepA,RepC,Zaj,List.length_map];refine ⟨_,cap,rfl,h1,h2,.inr ⟨_,rfl,?_⟩⟩;refine Zhw _ (l.map encZ) 0 (fun e he=> ?_) ?_ (fun j u hj=> ?_) (fun j hj hm=> ?_)
  ·obtain ⟨n,_,rfl⟩:=List.mem_map.1 he;rfl
  ·have:=(ZbN (w:=w) (M:=M) (loc:=fun _=>undef) l (l.map encZ)).2 rfl;rw[Zh6 l];exact this
  ·rw[cell_of_row w g _ cur e (0,0) hb,Nat.zero_add,←Array.getElem?_toList];rw[←h4,List.getElem?_take] at hj;split at hj
   ·exact hj
   ·cases hj
  ·have:=hM _ _ hm;omega
theorem ZoU {D:Ends} {es:Array MapEntry} {clock:Nat} (hst:MapKept.Stamped es clock) (hes:es.toList.map (fun e=>(e.key,e.val))=ZbB false true (gl2 D)) (hl:D.length≤2001) (hr:∀e∈D,0≤e.1∧e.1≤2000):
  Fit Tryz.prog 3 ZwD es clock∧(es.toList.map (rg Tryz.prog 3 ZwD)).map (fun p=>Go.intOf p.1)=keysD D:=by
 have hk:∀n:Int,0≤n∧n≤2000→keyOf Tryz.prog 3 (.int .i64 n)=some (.int .i64 n):=fun n hn=>by
  have hu:Tryz.prog.underlying 3=some (.int .i64):=by kernel_rfl
  have hw:(Lit.int .i64 n).wf=true:=WalkArith.wf_i64 ⟨by omega,by omega⟩;simp[keyOf,hu,mapKey,hw]
 have hlen:es.size=D.length:=by
  have:=congrArg List.length hes;simpa [ZbB,gl2] using this
 have hkey:es.toList.map (fun e=>e.key)=D.map fun e=>Value.int .i64 e.1:=by
  have:=congrArg (List.map Prod.fst) hes;simpa [ZbB,gl2,Za2,Function.comp_def] using this
 refine ⟨⟨by rw[hlen];simp only[maxLen];omega,hst,fun x hx=> ?_⟩,?_⟩
 ·have:x.key∈es.toList.map fun e=>e.key:=List.mem_map.2 ⟨x,hx,rfl⟩
  rw[hkey] at this;obtain ⟨e,he,hxe⟩:=List.mem_map.1 this;unfold WideElems.rd;rw[←hxe,hk _ (hr e he)];exact ⟨_,rfl⟩
 ·have h2:∀(l:List MapEntry) (D:Ends),(∀e∈D,0≤e.1∧e.1≤2000)→l.map (fun e=>e.key)=D.map (fun e=>Value.int .i64 e.1)→(l.map (rg Tryz.prog 3 ZwD)).map (fun p=>Go.intOf p.1)=keysD D:=by
   intro l;induction l with
   |nil=>intro D _ h;cases D with
    |nil=>rfl
    |cons=>cases h
   |cons x l ih=>
    intro D hD h;cases D with
    |nil=>cases h
    |cons e D=>
     simp only[List.map_cons,List.cons.injEq] at h;have:=ih D (fun y hy=>hD y (by simp[hy])) h.2;simp only[List.map_cons,keysD,List.cons.injEq];refine ⟨?_,this⟩;unfold rg WideElems.rd;rw[h.1,hk _ (hD e (by simp))];rfl
  exact h2 _ _ hr hkey
set_option maxHeartbeats 1000000 in
theorem sorted64 {D:Ends} (hl:D.length≤2001) (hr:∀e∈D,0≤e.1∧e.1≤2000) (be:Nat):ZaE Tryz.prog 116 [.fn 150 [.bp 1000 0]] [.box [.c (.raw (.map (some be)))],gmap false true (gl2 D) be] [] (fun r l'=>r= .c (Zaj (srt (keysD D)))∧l'=[.box [.c (.raw (.map (some be)))],gmap false true (gl2 D) be]):=by
 refine Zfg (Zcf ZAx).1 (Nat.le_of_ble_eq_true rfl) fun w M loc vs hLO hrep=> ?_
 have h0:ObOk Tryz.prog (fun _=>True) w (AddM M _ loc) loc (loc 1000) (.box [.c (.raw (.map (some be)))]):=hLO.objs 1000;have h1:ObOk Tryz.prog (fun _=>True) w (AddM M _ loc) loc (loc 1001) (gmap false true (gl2 D) be):=hLO.objs 1001;obtain ⟨b,l,e,hb1,_,hb2,hb3⟩:=h0;obtain ⟨_,L,_,⟨_,_,es,clock,hm,hst,hes⟩,_⟩:=h1;simp only[RepAs,RepA,RepC] at hb3 hrep;obtain ⟨x,xs,hl1,⟨hx,_⟩,hxs⟩:=hb3;subst hxs;subst hx;subst hl1;obtain ⟨fv,_,rfl,⟨caps,rfl,y,ys,rfl,⟨b',hb',rfl⟩,rfl⟩,rfl⟩:=hrep;obtain rfl:b'=b:=by rw[hb1] at hb';simpa using hb'.symm
 obtain ⟨F,hkeys⟩:=ZoU hst hes hl hr;obtain ⟨D0,hD0⟩:∃D0,D0=(DataW.map ((es.toList.map (rg Tryz.prog 3 ZwD)).foldr DataW.insert []):DataW Unit):=⟨_,rfl⟩;have hown:w.ownsMap Tryz.prog 3 ZwD be es.size D0:=⟨es,clock,hm,F,Nat.le_refl _,hD0⟩;have hsize:Maps.size D0≤2001:=by
  rw[hD0,Maps.size_eq,length_sorted,List.length_map];have:=congrArg List.length hes;simp[ZbB,gl2] at this;simp;omega
 have hperm:(intKeys D0).Perm (keysD D):=by
  rw[←hkeys,hD0];exact (WideShapes.sorted_perm _).map _
 have hcell:w.cell? ⟨b',0,none⟩=some (.map (some be)):=by rw[cell_of_row w b' _ _ _ _ hb2.1];rfl
 have hlt:b'<w.heap.size:=Zbg (p:=⟨b',0,none⟩) (by rw[hcell];rfl);have hseq:SeqGives Fence.wide 2 Tryz.prog 150 #[.pointer (some ⟨b',0,none⟩)] encZ (fun ss=>ss.Perm (intKeys D0)) (Maps.size D0) w:=
  AnyZI.keys_gives (ρ:=ZAc) {Zz7 with} Fence.wide _ trivial rfl (by omega) b' be es.size D0 w hlt hcell hown
 have cS:=AnyZI.sorted_in ZBf Fence.wide 5 trivial trivial trivial trivial rfl (by omega) (ZwP _) (show Enters Tryz.prog 149 from Zyh.f5.enters rfl) 150 #[.pointer (some ⟨b',0,none⟩)] trivial (show Enters Tryz.prog 150 from Zz7.f10.enters rfl) _ _ (by simp only[maxLen];omega) (by omega) _ hseq;have cT:Calls Tryz.prog 116 _ _ _:=(callsIn_wide (n:=5)).1 cS;refine cT.mono ?_;rintro e w' ⟨v,ss,rfl,hS,hrow,_,hb⟩;refine ⟨v,_,rfl,rfl,hb,fun M' hM'=> ?_⟩;have h5:srt ss=srt (keysD D):=Zkz (hS.trans hperm);rw[←h5];have h6:(srt ss).length=ss.length:=List.length_mergeSort _;rw[←h6] at hrow;exact Zo9 hrow hM'
end Go.Proofs.YtcggfogkfhlmlaaGreatDoor
namespace Go.Proofs.YtcggfogkfhlmlaaGreatDoor
open Go Go.V Go.RowKit Go.Maps Go.Sort Go.Shelf
abbrev Zxb:VC:=(.seq (.seq (.ops [JSm 7 2,JSm 8 3,JSb 9 .lss 7 8]) (.cond (.t 9) .skip (.exit 0))) (.seq (.block 1 (.dops [JFm 14 0,JFm 15 2,JFm 16 0,JFm 17 3,JFm 18 0,JFm 19 3,JFa 20 1 18 19,JFl 21 20,JFm 22 0,JFm 23 2,JFa 24 1 22 23,JFl 25 24,JFa 26 1 14 15,JE (Js 1 26 21),JSa 27 1 16 17,JUs 1 27 25])) (.ops [JSm 10 2,JSk 11 .add 10 1,JSm 12 3,JSk 13 .sub 12 1,JSm 2 11,JSm 3 13])))
-- K174_1: changed and kept: [2,3]
def ZvA:FC:=⟨1,28,[],(.seq (.ops [JSm 4 0,JSn 5 4,JSk 6 .sub 5 1,JSi 2 0,JSm 3 6]) (.block 0 (.loop Zxb)))⟩
theorem Zzi:Zao Tryz.prog [] 174=some ZvA:=by kernel_rfl
def ZBm:Ren:=⟨fun|112=>174|n=>n,fun|28=>22|n=>n,fun x=>x⟩
theorem Zz8:Lays.n112 Tryz.prog ZBm:=by
 constructor<;>first|kernel_rfl|(intro w;kernel_rfl)
def cI (zs:List Int) (j:Nat):List AV:=(zs.map fun n=>AV.c (.int .i64 n))++List.replicate j .non
theorem Zux (zs:List Int) (j:Nat):(cI zs j).length=zs.length+j:=by simp[cI]
theorem Zdq {w:World} {M:Cells} {loc:Nat→Value}:∀{j:Nat} {l:List Value},RepAs w M loc (List.replicate j .non) l↔l.length=j
 |0,l=>by simp[RepAs]
 |j+1,l=>by
  simp only[List.replicate_succ,RepAs,RepA];constructor
  ·rintro ⟨v,vs,rfl,_,h⟩;rw[List.length_cons,Zdq.1 h]
  ·intro h;cases l with
   |nil=>cases h
   |cons v vs=>exact ⟨v,vs,rfl,trivial,Zdq.2 (by simpa using h)⟩
theorem Zqv {w:World} {M:Cells} {loc:Nat→Value} {zs:List Int} {j:Nat} {l:List Value}:RepAs w M loc (cI zs j) l↔∃rest,l=zs.map encZ++rest∧rest.length=j:=by
 constructor
 ·intro h;obtain ⟨l1,l2,rfl,h1,h2⟩:=RepAs.split h;rw[ZbN] at h1;exact ⟨l2,by rw[h1],Zdq.1 h2⟩
 ·rintro ⟨rest,rfl,h⟩;exact RepAs.append ((ZbN _ _).2 rfl) (Zdq.2 h)
theorem ZnA {zs ts:List Int} (h:ts.length=zs.length) (rest:List Value):(putCells encZ 0 ts.toArray (zs.map encZ++rest).toArray).toList=ts.map encZ++rest:=by
 apply List.ext_getElem?;intro j;by_cases hj:j<ts.length
 ·rw[List.getElem?_append_left (by simpa using hj),Array.getElem?_toList];have hj2:j<(zs.map encZ++rest).length:=by simp;omega
  simp only[putCells,Array.getElem?_mapIdx,List.getElem?_toArray,List.size_toArray,Nat.zero_le,true_and,Nat.zero_add,hj,if_true,List.getElem?_eq_getElem hj2,Option.map_some];simp[hj]
 ·rw[List.getElem?_append_right (by simpa using hj),Array.getElem?_toList];simp only[putCells,Array.getElem?_mapIdx,List.getElem?_toArray,List.size_toArray,Nat.zero_le,true_and,Nat.zero_add,hj,if_false,List.length_map];rw[List.getElem?_append_right (by simp;omega),List.length_map,h];cases rest[j -zs.length]? <;>rfl
theorem ZnJ (zs:List Int) (j cap:Nat):ZaE Tryz.prog 174 [.vw 1 1000 0 zs.length cap] [.box (cI zs j)] [] (fun r l'=>r= .tup []∧l'=[.box (cI zs.reverse j)]):=by
 refine ⟨(Zcf Zzi).1,Nat.le_of_ble_eq_true rfl,fun w M loc vs hM hLO hrep=> ?_⟩;have h0:ObOk Tryz.prog (fun _=>True) w (AddM M _ loc) loc (loc 1000) (.box (cI zs j)):=hLO.objs 1000;obtain ⟨b,l,e,hb1,_,hb2,hb3⟩:=h0;obtain ⟨rest,rfl,hj⟩:=Zqv.1 hb3;simp only[RepAs,RepA] at hrep;obtain ⟨v,_,rfl,⟨b',o,hb1',rfl,ho,hle,hcm⟩,rfl⟩:=hrep;obtain rfl:b'=b:=by rw[hb1] at hb1';simpa using hb1'.symm
 by_cases hz:zs=[]
 ·subst hz;refine (Any.slices_Reverse_int_empty Zz8 (some ⟨b',o,none⟩) cap w).mono ?_;rintro e' w' ⟨rfl,rfl⟩;exact ⟨_,.tup [],_,loc,rfl,⟨rfl,rfl⟩,rfl,⟨rfl,rfl,rfl,Nat.le_refl _,fun _ _ _=>rfl⟩,Keeps.refl _ _,hLO,fun n b h=> .inl ⟨n,h⟩,fun n h=>⟨h,rfl⟩,by simp only[RepA];exact ⟨[],rfl,by simp[RepAs]⟩⟩
 have hlen:0<zs.length:=List.length_pos_iff.2 hz;obtain rfl:o=0:=ho (by omega);have hlt:=hb2.lt;have hH:Holds encZ w b' 0 zs.toArray:=fun k hk=>by
  have hk':k<zs.length:=by simpa using hk
  refine ⟨?_,?_⟩
  ·rw[cell_of_row w b' _ _ _ _ hb2.1];simp[hk',List.getElem?_append_left]
  ·rw[Nat.zero_add];exact hb2.free (by simp;omega)
 refine (Any.slices_Reverse_int Zz8 b' 0 cap zs w hH (by have:maxLen=9223372036854775807:=rfl;omega)).mono ?_;rintro e' w' ⟨rfl,n,hw'⟩;obtain ⟨os,hos⟩:∃os:Array Obj,os= #[]:=⟨_,rfl⟩;have hgw:w'=grow (putRow encZ (Sort.ahead w n) b' 0 zs.reverse.toArray) os:=by rw[hw',hos];unfold grow;rw[Array.append_empty]
 have hgb:=grownBy_sortedI (w:=w) (g:=b') (n:=n) (os:=os) zs.reverse.toArray;have hhp:=heap_sortedI (n:=n) (os:=os) zs.reverse.toArray hb2.1;rw[←hgw] at hgb hhp;have hput:=ZnA (zs:=zs) (ts:=zs.reverse) (by simp) rest;have hat:AtC w' b' (zs.reverse.map encZ++rest) e:=⟨by rw[hhp,←hput],by have:=hb2.2;simpa using this⟩;have hblk:∀k,k<w.heap.size→k≠b'→w'.heap[k]? =w.heap[k]?:=fun k hk hne=>hgb.block k hk (fun h=>hne (Option.some.inj h))
 have hmut:∀o,AddM M (ZaV [.box (cI zs j)] []) loc b' o:=fun o=> .inr ⟨1000,by show (Ob.box _).mut (loc 1000) b' o;rw[hb1];rfl⟩
 have hown:∀n,n≠1000→ZaV [.box (cI zs.reverse j)] [] n=ZaV [.box (cI zs j)] [] n:=by
  intro n hn;simp only[ZaV,Zbv];split
  ·rfl
  ·split
   ·rw[show n -1000=(n -1001)+1 by omega];rfl
   ·rfl
 have hhas:∀n b,(ZaV [.box (cI zs.reverse j)] [] n).has (loc n) b↔(ZaV [.box (cI zs j)] [] n).has (loc n) b:=by
  intro n b;by_cases hn:n=1000
  ·subst hn;show (Ob.box _).has (loc 1000) b↔(Ob.box _).has (loc 1000) b;rw[hb1];exact Iff.rfl
  ·rw[hown n hn]
 have hmm:∀b o,AddM M (ZaV [.box (cI zs.reverse j)] []) loc b o→AddM M (ZaV [.box (cI zs j)] []) loc b o:=by
  rintro b o (h|⟨n,h⟩)
  ·exact .inl h
  ·refine .inr ⟨n,?_⟩;by_cases hn:n=1000
   ·subst hn;have h':(Ob.box (cI zs.reverse j)).mut (loc 1000) b o:=h;show (Ob.box _).mut (loc 1000) b o;rw[hb1] at h'⊢;exact h'
   ·rwa [hown n hn] at h
 have hk:Keeps w w' (AddM M (ZaV [.box (cI zs j)] []) loc) (AddM M (ZaV [.box (cI zs.reverse j)] []) loc):=
  ⟨fun p hp hm=>World.cell?_of_block (hblk _ (Zbg hp) fun hpb=>hm (hpb▸hmut p.off)),fun p hp hm h=>hm (hmm _ _ h)⟩
 have hno:∀n b,n≠1000→(ZaV [.box (cI zs j)] [] n).has (loc n) b→b≠b':=fun n b hn h hb=>by
  subst hb;exact hLO.disj n 1000 b hn h (by show (Ob.box _).has (loc 1000) b;rw[hb1];rfl)
 refine ⟨_,.tup [],_,loc,rfl,⟨rfl,rfl⟩,rfl,⟨hgb.os,hgb.tape,hgb.output,hgb.size,fun k hk hf=>hblk k hk fun hkb=>hf ⟨1000,by show (Ob.box _).has (loc 1000) k;rw[hb1];exact hkb.symm⟩⟩,hk,⟨fun n=> ?_,fun n m b hnm h1 h2=>hLO.disj n m b hnm ((hhas n b).1 h1) ((hhas m b).1 h2)⟩,fun n b h=> ?_,fun n h=> ?_,by simp only[RepA];exact ⟨[],rfl,by simp[RepAs]⟩⟩
 ·by_cases hn:n=1000
  ·subst hn;exact ⟨b',_,e,hb1,trivial,hat,Zqv.2 ⟨rest,rfl,hj⟩⟩
  ·rw[hown n hn];exact ObOk.keep' hk hgb.size (fun b hb=>hblk b ((hLO.objs n).lt hb) (hno n b hn hb)) (hLO.objs n)
 ·have h2:(ZaV [.box (cI zs j)] [] n).has (loc n) b:=(hhas n b).1 (by
   simp only[ZaV];split
   ·rename_i h3;simp only[Zbv] at h;rw[if_pos (by omega),show n -1000=(n -1001)+1 by omega] at h;exact h.elim
   ·exact h)
  refine .inl ⟨n,?_⟩;simp only[ZaV] at h2;split at h2
  ·exact h2.elim
  ·exact h2
 ·by_cases hn:n=1000
  ·subst hn;exact ⟨rfl,rfl⟩
  ·rw[hown n hn];exact ⟨h,rfl⟩
end Go.Proofs.YtcggfogkfhlmlaaGreatDoor
/-
 What led to a point:plain.
-/
namespace Go.Proofs.YtcggfogkfhlmlaaGreatDoor
open Go Go.V
def Bk (S:Seen):Prop:=∀pre e post,S=pre++e::post→e.2.1= -2∨e.2.2∈sks pre
theorem Bk.snoc {S:Seen} (h:Bk S) {p x:Pt} {act:Int} (hx:x∈sks S):Bk (S++[(p,act,x)]):=by
 intro pre e post he;rcases List.eq_nil_or_concat post with rfl|⟨post',y,rfl⟩
 ·obtain ⟨rfl,h2⟩:=List.append_inj' he rfl;simp only[List.cons.injEq,and_true] at h2;subst h2;exact .inr hx
 ·rw[List.concat_eq_append,←List.cons_append,←List.append_assoc] at he;exact h pre e post' (List.append_inj' he rfl).1
theorem Zow {A:Bag} {act:Int} {x y z:Pt} {s:Seen×List Pt} (h:z∈sks s.1):z∈sks (Ze1 A act x s y).1:=by
 unfold Ze1;split
 ·exact h
 ·simp only[sks,List.map_append,List.mem_append];exact .inl h
theorem Zfo {A:Bag} {x:Pt}:∀{l:List (Int×Pt)} {s:Seen×List Pt},Bk s.1→x∈sks s.1→Bk (Zbd A x l s).1∧x∈sks (Zbd A x l s).1
 |[],s,h,hx=>⟨h,hx⟩
 |e::l,s,h,hx=>by
  have h1:Bk (Ze1 A e.1 x s e.2).1:=by
   unfold Ze1;split
   ·exact h
   ·exact h.snoc hx
  exact Zfo (l:=l) h1 (Zow hx)
theorem Zmv {w:Wh} {A:Bag} {x:Pt} {s:Seen×List Pt} (h:Bk s.1) (hx:x∈sks s.1):Bk (Zcv w A x s).1:=by
 have h1:=Zfo (A:=A) (x:=x) (l:=Zkx x) h hx;exact (Zfo h1.1 h1.2).1
theorem Zqs {w:Wh} (hw:WhOk w) {A:Bag} (hA:BagOk A):∀(n:Nat) (s:Seen×List Pt),SeenOk w.ro A s→Bk s.1→Bk (bfs w A n s)∧(∀e∈bfs w A n s,PtIn w.ro A e.1)
 |0,s,h,hb=>⟨hb,h.inn⟩
 |n+1,(S,[]),h,hb=>⟨hb,h.inn⟩
 |n+1,(S,x::q),h,hb=>Zqs hw hA n _ (ZdY hw hA h).1 (Zmv (s:=(S,q)) hb (h.sub x (by simp)))
theorem Zl7 {w:Wh} (hw:WhOk w) {A:Bag} (hA:BagOk A):∀(n:Nat) (s:Seen×List Pt),SeenOk w.ro A s→(bfs w A n s).length≤238291875000
 |0,s,h=>(h.len hA hw.ro.2).1
 |n+1,(S,[]),h=>(h.len hA hw.ro.2).1
 |n+1,(S,x::q),h=>Zl7 hw hA n _ (ZdY hw hA h).1
theorem Zof {w:Wh} (hw:WhOk w) {A:Bag} (hA:BagOk A):Bk (ZeA w A)∧(∀e∈ZeA w A,PtIn w.ro A e.1)∧(ZeA w A).length≤238291875000:=by
 have h0:Bk [(p00,(-2:Int),p00)]:=by
  intro pre e post he;cases pre with
  |nil=>simp only[List.nil_append,List.cons.injEq] at he;rw[←he.1];exact .inl rfl
  |cons y pre=>simp at he
 have h1:=Zqs hw hA 476583750002 _ (Zf8 hw hA) h0;exact ⟨h1.1,h1.2,Zl7 hw hA _ _ (Zf8 hw hA)⟩
theorem Zpj {S pre post:Seen} {e:Pt×Int×Pt} (hS:S=pre++e::post) {p:Pt} (hp:p∈sks pre):∃pre' e' post',S=pre'++e'::post'∧pre'.length<pre.length∧Zb0 (gl S) p.l=some (e'.2.1::e'.2.2.l):=by
 obtain ⟨y,hy,hyp⟩:=List.mem_map.1 hp;cases hf:pre.find? (fun e=>e.1=p) with
 |none=>
  rw[List.find?_eq_none] at hf;have:=hf y hy;simp[hyp] at this
 |some e'=>
  obtain ⟨h1,A,B,rfl,h2⟩:=List.find?_eq_some_iff_append.1 hf;refine ⟨A,e',B++e::post,by rw[hS];simp,by simp,?_⟩;rw[Ze3,hS];rw[List.find?_append,hf];rfl
theorem Zpi {S:Seen} {p:Pt} (hp:p∈sks S):∃pre e post,S=pre++e::post∧Zb0 (gl S) p.l=some (e.2.1::e.2.2.l):=by
 obtain ⟨y,hy,hyp⟩:=List.mem_map.1 hp;cases hf:S.find? (fun e=>e.1=p) with
 |none=>
  rw[List.find?_eq_none] at hf;have:=hf y hy;simp[hyp] at this
 |some e=>
  obtain ⟨h1,A,B,hS,h2⟩:=List.find?_eq_some_iff_append.1 hf;refine ⟨A,e,B,hS,?_⟩;rw[Ze3,hf];rfl
def ZmF (b:Bx) (A:Bag):Bool:=(ZeA b.wh A).any fun e=>decide (e.1.bag=A)&&Zah e.1.bo b.pl (b.pl+b.sk)
theorem ZoR {D:Ends} {n:Int} {p:Pt}:n∈keysD (ZoQ D n p):=by
 rw[ZfA];split
 ·assumption
 ·simp
theorem ZfM {S:Seen} {A:Bag} {D:Ends} (h:EndsOf S A D) (n:Int):n∈keysD D↔∃e∈S,e.1.bag=A∧e.1.bo=n:=by
 constructor
 ·intro hn;obtain ⟨e,he,rfl⟩:=List.mem_map.1 hn;obtain ⟨h1,h2,h3⟩:=h.ok.src e he;obtain ⟨y,hy,hye⟩:=List.mem_map.1 h3;exact ⟨y,hy,by rw[hye];exact h2,by rw[hye];exact h1.symm⟩
 ·rintro ⟨e,he,hA,rfl⟩;obtain ⟨ord,hp,rfl⟩:=h;have mono:∀(l:Seen) (D:Ends) (n:Int),n∈keysD D→n∈keysD (l.foldl (ZdX A) D):=by
   intro l;induction l with
   |nil=>intro D n h;exact h
   |cons x l ih=>
    intro D n h;rw[List.foldl_cons];refine ih _ n ?_;unfold ZdX;split
    ·rw[ZfA];split
     ·exact h
     ·simp[h]
    ·exact h
  obtain ⟨l1,l2,rfl⟩:=List.append_of_mem (hp.symm.subset he);rw[List.foldl_append,List.foldl_cons];refine mono l2 _ _ ?_;generalize l1.foldl (ZdX A) []=D1;unfold ZdX;split
  ·exact ZoR
  ·rename_i hc;simp only[hA,decide_true,Bool.true_and] at hc;unfold ZuO at hc;split at hc
   ·exact absurd rfl hc
   ·rename_i o ho;have:=ZcJ ho;exact List.mem_map.2 ⟨_,this,rfl⟩
theorem ZrJ {b:Bx} {A:Bag} {D:Ends} (h:EndsOf (ZeA b.wh A) A D):ZmF b A=(srt (keysD D)).any fun n=>Zah n b.pl (b.pl+b.sk):=by
 rw[Bool.eq_iff_iff,List.any_eq_true];simp only[ZmF,List.any_eq_true,Bool.and_eq_true,decide_eq_true_eq];constructor
 ·rintro ⟨e,he,h1,h2⟩;exact ⟨e.1.bo,ZhB.2 ((ZfM h _).2 ⟨e,he,h1,rfl⟩),h2⟩
 ·rintro ⟨n,hn,h2⟩;obtain ⟨e,he,h1,rfl⟩:=(ZfM h _).1 (ZhB.1 hn);exact ⟨e,he,h1,h2⟩
def pur (b:Bx) (p:List Int):Bag:=⟨(ZbC b).getD 0 0+p.getD 0 0,(ZbC b).getD 1 0+p.getD 1 0,(ZbC b).getD 2 0+p.getD 2 0,(ZbC b).getD 3 0+p.getD 3 0⟩
structure PurOk (b:Bx) (p:List Int):Prop where
 len:p.length≤b.wh.co.length
 nn:∀n∈p,0≤n
 sum:p.sum≤2
theorem Zhf {p:List Int} (h:∀n∈p,0≤n) (k:Nat):0≤p.getD k 0:=by
 rw[List.getD_eq_getElem?_getD];cases hk:p[k]? with
 |none=>simp
 |some n=>exact h n (List.mem_of_getElem? hk)
theorem ZAe:∀{p:List Int},p.length≤4→p.sum=p.getD 0 0+p.getD 1 0+p.getD 2 0+p.getD 3 0
 |[],_=>rfl
 |[a],_=>by simp
 |[a,b],_=>by simp
 |[a,b,c],_=>by simp;omega
 |[a,b,c,d],_=>by simp;omega
 |a::b::c::d::e::l,h=>by simp at h
theorem ZlZ:∀{a b:List Int} (_:a.length=b.length) (k:Nat),(ZeD a b).getD k 0=if k<a.length then a.getD k 0+b.getD k 0 else 0
 |[],[],_,k=>by simp[ZeD]
 |x::a,y::b,h,0=>by simp[ZeD]
 |x::a,y::b,h,k+1=>by
  have:=ZlZ (a:=a) (b:=b) (by simpa using h) k;unfold ZeD at this⊢;rw[List.zipWith_cons_cons,List.getD_cons_succ,this,List.getD_cons_succ,List.getD_cons_succ];simp
theorem ZnB {b:Bx} (hb:BxOk b):(∀k,0≤(ZbC b).getD k 0)∧(ZbC b).getD 0 0+(ZbC b).getD 1 0+(ZbC b).getD 2 0+(ZbC b).getD 3 0≤12:=by
 have hl:=hb.fl.trans hb.sl.symm;have hcl:=hb.wh.cl;have hfl:=hb.fl;have hs:=hb.sum;have g1:=fun k=>Zhf (fun n hn=>(hb.fo n hn).1) k
 have g2:=fun k=>Zhf (fun n hn=>(hb.sn n hn).1) k
 have g:∀k,(ZbC b).getD k 0=if k<b.fo.length then b.fo.getD k 0+b.sl.getD k 0 else 0:=ZlZ hl
 refine ⟨fun k=> ?_,?_⟩
 ·rw[g k];have:=g1 k;have:=g2 k;split<;>omega
 ·rw[g 0,g 1,g 2,g 3];have h4:b.fo.length=0∨b.fo.length=1∨b.fo.length=2∨b.fo.length=3∨b.fo.length=4:=by omega
  rcases h4 with h|h|h|h|h<;>rw[h] at hs⊢<;>simp only[sumK] at hs<;>simp only[Nat.reduceLT,Nat.lt_irrefl,if_true,if_false]<;>omega
theorem ZqR {b:Bx} (hb:BxOk b) {p:List Int} (hp:PurOk b p):BagOk (pur b p):=by
 obtain ⟨h1,h2⟩:=ZnB hb;have hcl:=hb.wh.cl;have hs:=ZAe (p:=p) (by have:=hp.len;omega);have h3:=hp.sum;have g:=Zhf hp.nn;have a0:=h1 0;have a1:=h1 1;have a2:=h1 2;have a3:=h1 3;have b0:=g 0;have b1:=g 1;have b2:=g 2;have b3:=g 3;unfold pur;constructor<;>simp only<;>omega
end Go.Proofs.YtcggfogkfhlmlaaGreatDoor
namespace Go.Proofs.YtcggfogkfhlmlaaGreatDoor
open Go Go.V
-- Zql: changed and kept: [19]
abbrev Zql:List Nat:=[0,6,17,18]
abbrev Zr7:List Ins:=[JFm 45 12,JFm 46 0,JF 47 (.nilc (.t 46)),JFf 48 0 47,JFf 49 6 48,JFl 50 49,JFm 51 0,JF 52 (.nilc (.t 51)),JFf 53 0 52,JFf 54 6 53,JFl 55 54,JFm 56 0,JF 57 (.nilc (.t 56)),JFf 58 0 57,JFf 59 7 58,JFl 60 59,JFb 61 .add 55 60,JSc 62 146 [.t 45,.t 50,.t 61],JS 63 (.un .not (.t 62))]
abbrev Zr8:List Ins:=[JSm 64 9,JSm 65 10,JSm 66 12,JS 67 (.raw (.lookup 183 (.tmp 65) (.tmp 66) false)),JS 68 (.raw (.lookup 189 (.tmp 64) (.tmp 67) false)),JS 14 (.alloc [Jz 0,Jz 0,Jz 0,Jz 0,Jz 0,Jz 0,Jz 0,Jz 0]),JUs 8 14 68]
abbrev ZtE:VC:=(.seq (.seq (.ops [JSf 69 0 14,JSl 70 69,JSk 71 .neq 70 (-2)]) (.cond (.t 71) .skip (.exit 4))) (.seq (.block 5 (.ops [JSm 76 13,JSf 77 0 14,JSl 78 77,JS 79 (.bsl 3 1 [.t 78]),JS 80 (.appv 3 1 8 (.t 76) (.t 79)),JSm 13 80])) (.seq (.seq (.ops [JSL 81 8 14]) (.ops [JS 14 (.alloc [Jz 0,Jz 0,Jz 0,Jz 0,Jz 0,Jz 0,Jz 0,Jz 0]),JUs 8 14 81])) (.ops [JSm 72 9,JSf 73 1 14,JSL 74 7 73,JS 75 (.raw (.lookup 189 (.tmp 72) (.tmp 74) false)),JUs 8 14 75]))))
-- Zqn: changed and kept: [14,13]
abbrev Zqn:List Nat:=[9]
abbrev ZtF:VC:=(.seq (.cond (.t 42) .skip (.exit 2)) (.seq (.block 3 (.seq (.ops [JSa 43 1 39 41,JSl 44 43,JSm 12 44]) (.seq (.seq (.dops Zr7) (.cond (.t 63) (.exit 3) .skip)) (.seq (.ops [JS 13 (.mv (.k J0))]) (.seq (.seq (.ops Zr8) (.block 4 (.loop ZtE))) (.seq (.ops [JSm 82 13,JSc 83 174 [.t 82]]) (.seq (.ops [JSm 84 13,JSm 4 84,JSB 5 true]) .ret))))))) (.ops [JSk 85 .add 41 1,JSm 41 85])))
-- Zqm: changed and kept: [41]
abbrev Zqm:List Nat:=[0,9,10,39,40]
abbrev ZtG:VC:=(.seq (.seq (.ops [JSm 17 1,JSn 18 17,JSi 19 0]) (.block 0 (.loop (.seq (.ops [JSb 20 .lss 19 18]) (.seq (.cond (.t 20) .skip (.exit 0)) (.seq (.block 1 (.seq (.ops [JSm 21 19,JSa 22 1 17 19,JSl 23 22,JSm 7 21,JSm 8 23]) (.ops [JSm 24 7,JS 25 (.iap 4 1 (.t 6) (.t 24)),JSl 26 25,JSm 27 8,JSb 28 .add 26 27,JS 29 (.iap 4 1 (.t 6) (.t 24)),JUs 1 29 28]))) (.ops [JSk 30 .add 19 1,JSm 19 30]))))))) (.seq (.ops [JSm 31 0,JSL 32 4 6,JSc 33 119 [.t 31,.t 32],JSm 9 33]) (.seq (.ops [JSm 34 9,JSL 35 4 6,JSc 36 118 [.t 34,.t 35],JSm 10 36]) (.seq (.seq (.ops [JSm 37 10,JSc 38 117 [.t 37],JSc 39 116 [.t 38],JSn 40 39,JSi 41 0]) (.block 2 (.loop (.seq (.ops [JSb 42 .lss 41 40]) ZtF)))) (.seq (.ops [JS 4 (.mv (.k J0)),JSB 5 false]) .ret)))))
def Zvv:FC:=⟨2,86,[.t 4,.t 5],(.seq (.ops [JS 4 (.mv (.k J0)),JSB 5 false]) (.seq (.ops [JSm 15 0,JSc 16 120 [.t 15],JS 6 (.alloc [Jz 0,Jz 0,Jz 0,Jz 0]),JUs 4 6 16]) ZtG))⟩
theorem ZAT:Zao Tryz.prog [100080] 155=some Zvv:=by kernel_rfl
attribute [local go_sem] Nat.reduceEqDiff Nat.reduceAdd Nat.reduceMul reduceIte Nat.reduceLeDiff Nat.reduceLT Nat.reduceBEq reduceCtorEq
def ZgL (b:Bx) (p:List Int) (k:Nat):List Int:=[(ZbC b).getD 0 0+(p.take k).getD 0 0,(ZbC b).getD 1 0+(p.take k).getD 1 0,(ZbC b).getD 2 0+(p.take k).getD 2 0,(ZbC b).getD 3 0+(p.take k).getD 3 0]
theorem Ziy (b:Bx) (p:List Int):ZgL b p 0=ZeS (ZbC b):=by simp[ZgL,ZeS]
theorem Zks (b:Bx) (p:List Int):ZgL b p p.length=(pur b p).l:=by simp[ZgL,pur,Bag.l]
theorem Zn0 {p:List Int} {k i:Nat}:(p.take k).getD i 0=if i<k then p.getD i 0 else 0:=by
 rw[List.getD_eq_getElem?_getD,List.getD_eq_getElem?_getD,List.getElem?_take];split<;>rfl
theorem Znv (b:Bx) (p:List Int) {k:Nat} (hk:k<4):(ZaU (ZgL b p k)).set k (iv ((ZgL b p k).getD k 0+p.getD k 0))=ZaU (ZgL b p (k+1)):=by
 have:k=0∨k=1∨k=2∨k=3:=by omega
 rcases this with rfl|rfl|rfl|rfl<;>simp[ZgL,ZaU,Zn0,List.getD_eq_getElem?_getD,List.getElem?_take]
theorem ZoB (b:Bx) (p:List Int) {k j:Nat} (hk:j<4):(ZaU (ZgL b p k)).getD j .non=iv ((ZgL b p k).getD j 0):=by
 have:j=0∨j=1∨j=2∨j=3:=by omega
 rcases this with rfl|rfl|rfl|rfl<;>simp[ZgL,ZaU]
theorem Zwy {b:Bx} (hb:BxOk b) {p:List Int} (hp:PurOk b p) {k:Nat} (hk:k<4):0≤(ZgL b p k).getD k 0∧(ZgL b p k).getD k 0≤14∧0≤p.getD k 0∧p.getD k 0≤2:=by
 obtain ⟨h1,h2⟩:=ZnB hb;have hcl:=hb.wh.cl;have hs:=ZAe (p:=p) (by have:=hp.len;omega);have h3:=hp.sum;have g:=Zhf hp.nn;have a0:=h1 0;have a1:=h1 1;have a2:=h1 2;have a3:=h1 3;have b0:=g 0;have b1:=g 1;have b2:=g 2;have b3:=g 3;have:k=0∨k=1∨k=2∨k=3:=by omega
 rcases this with rfl|rfl|rfl|rfl<;>simp only[ZgL,Zn0,List.getD_cons_zero,List.getD_cons_succ,Nat.lt_irrefl,if_false]<;>omega
theorem Zkl {S:Seen} {q:Pt} (h:q∈sks S):(q,((S.find? fun e=>e.1=q).map (·.2)).getD (0,p00))∈S:=by
 obtain ⟨y,hy,hyp⟩:=List.mem_map.1 h;cases hf:S.find? (fun e=>e.1=q) with
 |none=>
  rw[List.find?_eq_none] at hf;have:=hf y hy;simp[hyp] at this
 |some e=>
  have h1:=List.find?_some hf;simp only[decide_eq_true_eq] at h1;have h2:=List.mem_of_find?_eq_some hf;simp only[Option.map_some,Option.getD_some];rw[←h1];exact h2
def Zrc (acts:List Int) (cap:Nat):AV:=if acts=[] then .c (.raw (.slice none 0 0)) else .vw 1 80 0 acts.length cap
def Zrb (acts:List Int) (j:Nat):Ob:=if acts=[] then .none else .box (cI acts j)
def ZeP (e:Pt×Int×Pt):List AV:=[iv e.2.1,iv e.2.2.pl,iv e.2.2.cr,iv e.2.2.a,iv e.2.2.b,iv e.2.2.c,iv e.2.2.d,iv e.2.2.bo]
theorem Zgt (d:Nat):∀(zs:List Int) (j:Nat),AV.prgL d (cI zs j)=cI zs j
 |[],0=>rfl
 |[],j+1=>by
  have:=Zgt d [] j;simp only[cI,List.map_nil,List.nil_append,List.replicate_succ,AV.prgL,AV.prg] at this⊢;rw[this]
 |z::zs,j=>by
  have:=Zgt d zs j;simp only[cI,List.map_cons,List.cons_append,AV.prgL,AV.prg] at this⊢;rw[this]
theorem Zji (L:List Nat) (own:Nat→Ob):∀(zs:List Int) (j:Nat),AV.lendL 1000 L own (cI zs j)=some (cI zs j)
 |[],0=>rfl
 |[],j+1=>by
  have:=Zji L own [] j;simp only[cI,List.map_nil,List.nil_append,List.replicate_succ,AV.lendL,AV.lend] at this⊢;rw[this]
 |z::zs,j=>by
  have:=Zji L own zs j;simp only[cI,List.map_cons,List.cons_append,AV.lendL,AV.lend] at this⊢;rw[this]
theorem Zjg (L:List Nat):∀(zs:List Int) (j:Nat),AV.backL L (cI zs j)=some (cI zs j)
 |[],0=>rfl
 |[],j+1=>by
  have:=Zjg L [] j;simp only[cI,List.map_nil,List.nil_append,List.replicate_succ,AV.backL,AV.back] at this⊢;rw[this]
 |z::zs,j=>by
  have:=Zjg L zs j;simp only[cI,List.map_cons,List.cons_append,AV.backL,AV.back] at this⊢;rw[this]
theorem ZBc (zs:List Int) (j:Nat):cI zs j=(zs.map (CD.int .i64)).map .c++List.replicate j .non:=by simp[cI,Function.comp_def]
theorem Zzj {α:Type}:∀l:List α,grp 1 l.length l=l.map fun x=>[x]
 |[]=>rfl
 |a::l=>by simp[grp,Zzj l]
theorem ZBd (n:Nat) (zs:List Int) (h:zs.length=n):(if n*1≤zs.length then AV.c (CD.sl 1 (grp 1 n (List.take (n*1) (zs.map (CD.int .i64))))) else AV.non)= .c (Zaj zs):=by
 subst h;rw[if_pos (by omega),Nat.mul_one,List.take_of_length_le (by simp)];have:=Zzj (zs.map (CD.int .i64));rw[List.length_map] at this;rw[this,List.map_map];rfl
theorem Zyk:FSpec Tryz.prog 174 [.c (.raw (.slice none 0 0))] (.tup []):=by
 refine Zac Zzi (Nat.le_refl _) (by decide) fun C hP hN hC hL=> ?_;rw[Zad]
 simp only[ZvA];refine vR ?_;refine Zax [] [] (fun k:Unit=>True) (fun _=>0) (fun k=>[(2,iv 0),(3,iv (-1))]) (fun _=>[]) () trivial ?_ ?_
 ·exact Zaz
 ·intro _ _;refine vR ?_;(refine vC ?_ ?_<;>intro h)
  ·simp at h
  ·refine vR ?_;simp only[Zaq,inQ,ZgY,ZcN,Zae,ZaI];simp only[go_sem,ZaH,AV.port,AV.portL,exists_eq_left'];exact AVle.of rfl
set_option maxHeartbeats 8000000 in
set_option maxRecDepth 20000 in
theorem explain59 {b:Bx} (hwb:whB b.wh=true) (hb:BxOk b) {p:List Int} (hp:PurOk b p):Za3 Tryz.prog 155 [.c (.pt b.cds),.c (Zaj p)] (fun r os=>os=[]∧∃acts,r= .tup [.c (Zaj acts),.c (.bool (ZmF b (pur b p)))]):=by
  have hA:=ZqR hb hp;have hcl:=hb.wh.cl;have hpl:=hp.len;refine ZaK ZAT (Nat.le_refl _) (by decide) fun C hP hN hC hL=> ?_;rw[Zad]
  simp only[Zvv,Zaj];refine vR ?_;(refine Zau (put61 hb) ?_;simp only[go_sem,hP,ZaU,ZeS,List.map_cons,List.map_nil,List.length_map];refine vQ ?_;(repeat (refine vV ?_;(try simp only[go_sem,hP,ZaU,ZeS,List.map_cons,List.map_nil,List.length_map]);refine vQ ?_)))
  refine Zax Zql [6] (fun k:Nat=>k≤p.length) (fun k=>p.length -k) (fun k=>[(19,iv k)]) (fun k=>[(6,.box (ZaU (ZgL b p k)))]) 0 (by omega) ?_ ?_
  · rw[Ziy]
    (refine Zai (by simp only[go_sem];((repeat' (first|exact ZaW _ _|refine ZaJ ?_ ?_))<;>((try simp only[ZaT,ZbG,ZbH,Nat.reduceEqDiff,reduceIte]);first|exact AWk.refl _ _|exact AWk.int (by omega)|exact AWk.int (by rw[w64 (by omega) (by omega)];omega)|exact AWk.grow rfl|exact AWk.nil _|exact AWk.of (by simp[ZaU,ZeS])))) (by simp only[go_sem];exact Zaa))
  · intro k hk
    refine vR ?_;(refine vC ?_ ?_<;>intro h)
    · have hi:k<p.length:=by simpa using h
      have g1:=ZaD hi;have hsu:=Znv b p (k:=k) (by omega);have hat:=ZoB b p (k:=k) (j:=k) (by omega);have hb1:0≤(ZgL b p k).getD k 0∧(ZgL b p k).getD k 0≤14∧0≤p.getD k 0∧p.getD k 0≤2:=Zwy hb hp (by omega);have hlen:(ZaU (ZgL b p k)).length=4:=rfl;generalize (ZgL b p k).getD k 0=x at hsu hat hb1;generalize p.getD k 0=y at g1 hsu hb1;generalize ZaU (ZgL b p k)=B at hsu hat hlen;have w1:=w64 (n:=(k:Int)+1) (by omega) (by omega);have w2:=w64 (n:=x+y) (by omega) (by omega);have hk4:(k:Int)<4:=by omega
      have hk5:k<B.length:=by omega
      (repeat (refine vV ?_;(try simp only[go_sem,hP,g1,List.length_map,Int.toNat_natCast,Int.ofNat_lt,hi,Int.natCast_nonneg,w1,w2,hk4,hk5,Nat.mul_one,hat]);refine vQ ?_))
      refine ⟨k+1,by omega,by omega,?_⟩;rw[hsu];exact Zaz
    · have hi:k=p.length:=by simp at h;omega
      subst hi;rw[Zks];clear h hk;have htk:List.take 4 (ZaU (pur b p).l)=ZaU (pur b p).l:=rfl;have hln:(ZaU (pur b p).l).length=4:=rfl;have hpg:∀n,AV.prgL n (ZaU (pur b p).l)=ZaU (pur b p).l:=fun n=>rfl
      (repeat (refine vV ?_;(try simp only[go_sem,hP,htk,hln]);refine vQ ?_))
      refine ZaR (walk62 hwb hA) rfl rfl rfl rfl ?_;rintro _ _ ⟨bm,rfl,rfl⟩;refine ⟨[33],_,_,by simp,rfl,rfl,rfl,rfl,?_⟩;simp only[go_sem,hP,Zab,hpg];refine Zc1 [0,6,9] ?_;simp only[go_sem];refine Ze0 36 (by decide) rfl ?_;simp only[go_sem,hpg];(repeat (refine vV ?_;(try simp only[go_sem,hP,htk,hln]);refine vQ ?_))
      refine Zas [33,36] (ends63 bm) rfl rfl rfl (by decide) rfl rfl ?_;rintro r l' ⟨be,D,rfl,rfl,hD⟩;refine ⟨_,_,rfl,rfl,?_⟩;have hin:=Zof hb.wh hA;have hdl:=hD.ok.len (fun e he=>by have:=(hin.2.1 e he).1.bo;have h5:=hA.m;have h6:=(hin.2.1 e he).1;have h7:=h6.a;have h8:=h6.b;have h9:=h6.c;have h10:=h6.d;simp only[Pt.bag,Bag.many] at this;omega);have hlook:=fun n=>Zha (D:=D) (n:=n)
      have hok:=hD.ok;simp only[go_sem,hP,Zab];refine vR ?_;refine ZaR (ZqH be) rfl rfl rfl rfl ?_;rintro _ _ ⟨rfl,rfl⟩;refine ⟨[38],_,_,by simp,rfl,rfl,rfl,rfl,?_⟩;simp only[go_sem,hP,Zab];refine Zas [38,36] (sorted64 hdl.1 hdl.2 be) rfl rfl rfl (by decide) rfl rfl ?_;rintro r l' ⟨rfl,rfl⟩;refine ⟨_,_,rfl,rfl,?_⟩;have hsr:∀n∈srt (keysD D),(0≤n∧n≤2000)∧∃q,Zel D n=some q∧q∈sks (ZeA b.wh (pur b p)):=fun n hn=>by
        have hn2:=ZhB.1 hn;obtain ⟨q,hq⟩:=hlook n hn2;have h3:=hok.src _ (ZcJ hq);refine ⟨?_,q,hq,h3.2.2⟩;exact hdl.2 _ (ZcJ hq)
      have hhit:=ZrJ hD;have hlk:(srt (keysD D)).length≤2001:=by unfold srt;rw[List.length_mergeSort];simpa [keysD] using hdl.1
      generalize srt (keysD D)=Ls at hsr hhit hlk;generalize hS:ZeA b.wh (pur b p)=S at*;simp only[go_sem,hP,Zab,Zaj,List.length_map];(repeat (refine vV ?_;(try simp only[go_sem,hP,Zaj,List.length_map]);refine vQ ?_))
      refine Zax Zqm [6,33,36,38] (fun k:Nat=>k≤Ls.length∧∀n∈Ls.take k,Zah n b.pl (b.pl+b.sk)=false) (fun k=>Ls.length -k) (fun k=>[(41,iv k)]) (fun _=>[(33,gmap true true (gl S) bm),(36,gmap false true (gl2 D) be)]) 0 ⟨by omega,by simp⟩ ?_ ?_
      · exact Zaz
      rintro k ⟨hk,hno⟩;refine vR ?_;(refine vC ?_ ?_<;>intro h)
      · have hi:k<Ls.length:=by simpa using h
        have g1:=ZaD hi;obtain ⟨n,hn⟩:∃n,n=Ls.getD k 0:=⟨_,rfl⟩;rw[←hn] at g1;have hnm:n∈Ls:=by rw[hn,List.getD_eq_getElem?_getD,List.getElem?_eq_getElem hi];exact List.getElem_mem _
        obtain ⟨hnb,q,hq,hqs⟩:=hsr n hnm;have hpl:=hb.pl;have hsk:=hb.sk;have w1:=w64 (n:=(k:Int)+1) (by omega) (by omega);have w2:=w64 (n:=b.pl+b.sk) (by omega) (by omega);have e6:List.drop 6 b.cds=[.int .i64 b.pl,.int .i64 b.sk]:=rfl;have e7:List.drop 7 b.cds=[.int .i64 b.sk]:=rfl;have e8:b.cds.length=8:=rfl;(repeat (refine vV ?_;(try simp only[go_sem,hP,g1,List.length_map,Int.toNat_natCast,Int.ofNat_lt,hi,Int.natCast_nonneg,e6,e7,e8,w2]);refine vQ ?_))
        (refine Zau (Zfc n b.pl (b.pl+b.sk)) ?_;simp only[go_sem,hP,w2];refine vQ ?_;(repeat (refine vV ?_;(try simp only[go_sem,hP,w2]);refine vQ ?_)))
        cases hwn:Zah n b.pl (b.pl+b.sk) with
        |false=>
          (refine vC ?_ ?_<;>intro h)
          · (repeat (refine vV ?_;(try simp only[go_sem,hP,w1]);refine vQ ?_))
            refine ⟨k+1,⟨by omega,fun m hm=> ?_⟩,by omega,?_⟩
            · rw[List.take_succ_eq_append_getElem hi,List.mem_append,List.mem_singleton] at hm
              rcases hm with hm|hm
              · exact hno m hm
              · have:n=Ls[k]:=by rw[hn,List.getD_eq_getElem?_getD,List.getElem?_eq_getElem hi];rfl
                rw[hm,←this];exact hwn
            · exact Zaz
          · simp at h
        |true=>
          have hflag:ZmF b (pur b p)=true:=by rw[hhit,List.any_eq_true];exact ⟨n,hnm,hwn⟩
          (refine vC ?_ ?_<;>intro h)
          · simp at h
          · refine Zc1 [9,10,12] ?_
            simp only[go_sem];refine vR ?_;have hqp:=hin.2.1 _ (Zkl hqs);refine Zf3 (n:=36) (b:=be) (ka:=false) (va:=true) (l:=gl2 D) (key:=[n]) (zs:=[0,0,0,0,0,0,0]) (k:=3) (e:=187) (by kernel_rfl) Zkh (by kernel_rfl) rfl rfl rfl rfl rfl rfl rfl ⟨_,rfl⟩ (Ze2 D) (Zhh D _) ?_;rw[ZfI,hq,Option.map_some,Option.getD_some];simp only[go_sem,hP];refine Zf3 (n:=33) (b:=bm) (ka:=true) (va:=true) (l:=gl S) (key:=q.l) (zs:=[0,0,0,0,0,0,0,0]) (k:=187) (e:=223) (by kernel_rfl) Znu (by kernel_rfl) rfl rfl rfl rfl rfl rfl rfl (hqp.1.key hA hb.wh.ro.2) (ZfH hA hb.wh.ro.2 fun e he=>(hin.2.1 e he).1) (fun p _ h=>Zdp h) ?_;obtain ⟨pre,e,post,hpre,hgl⟩:=Zpi hqs;rw[hgl,Option.getD_some];simp only[go_sem,hP,kav,if_true,Pt.l,List.map_cons,List.map_nil];refine vR ?_;refine Zax Zqn [14,80] (fun i:List Int×Nat×Nat×Seen×(Pt×Int×Pt)×Seen=>S=i.2.2.2.1++i.2.2.2.2.1::i.2.2.2.2.2∧i.1.length+i.2.2.2.1.length≤S.length∧(i.1≠[]→i.1.length≤i.2.1∧i.2.1≤maxLen∧i.2.1≤i.1.length+i.2.2.1)) (fun i=>i.2.2.2.1.length)
              (fun i=>[(14,.bp 14 0),(13,Zrc i.1 i.2.1)]) (fun i=>[(14,.box (ZeP i.2.2.2.2.1)),(80,Zrb i.1 i.2.2.1)]) ([],0,0,pre,e,post) ⟨hpre,by rw[hpre];simp,by simp⟩ ?_ ?_
            · (refine Zai (by simp only[go_sem];((repeat' (first|exact ZaW _ _|refine ZaJ ?_ ?_))<;>((try simp only[ZaT,ZbG,ZbH,Nat.reduceEqDiff,reduceIte]);first|exact AWk.refl _ _|exact AWk.int (by omega)|exact AWk.int (by rw[w64 (by omega) (by omega)];omega)|exact AWk.grow rfl|exact AWk.nil _|exact AWk.of (by simp[Zrc,Zrb,ZeP])))) (by simp only[go_sem];exact Zaa))
            rintro ⟨acts,cap,j,pre1,⟨e1,act,x⟩,post1⟩ ⟨hs1,hlen,hcap⟩;simp only at hs1 hlen hcap;simp only[ZeP];refine vR ?_;(refine vC ?_ ?_<;>intro h)
            · have hne:act≠-2:=by simpa using h
              have hx:x∈sks pre1:=by
                rcases hin.1 pre1 _ post1 hs1 with h5|h5
                · exact absurd h5 hne
                · exact h5
              have hln1 : acts.length + 1 ≤ 238291875000 := by have := hin.2.2; have h6 : 0 < pre1.length := by cases pre1 with | nil => cases hx | cons a l => simp
                                                               omega
              (refine Zcb ?_;simp only[go_sem])
              refine ZaG (ZlW (R:=fun σ'=>∃cap' j',(acts.length+1≤cap'∧cap'≤maxLen∧cap'≤acts.length+1+j')∧Sub σ' ⟨upd (upd (upd e0 9 (.c (.raw (.map (some bm))))) 14 (.bp 14 0)) 13 (.vw 1 80 0 (acts.length+1) cap'),upd (upd (upd (upd o0 33 (gmap true true (gl S) bm)) 36 (gmap false true (gl2 D) be)) 14 (.box (ZeP (e1,act,x)))) 80 (.box (cI (acts++[act]) j'))⟩) ?_ (Zcs ?_))
              · rintro σ' ⟨cap',j',hcp,hsub⟩
                refine ZaL hsub ?_;simp only[ZeP];refine ZaG (ZaG ?_);(refine ZcH ?_;simp only[go_sem,hP];refine vQ ?_)
                refine ZlU 14 ?_;refine vR ?_;obtain ⟨pre2,e2,post2,hs2,hlt2,hgl2⟩:=Zpj hs1 hx;have hxp:=hin.2.1 _ (Zkl (by rw[hs1];simp only[sks,List.map_append,List.mem_append];exact .inl hx));refine Zf3 (n:=33) (b:=bm) (ka:=true) (va:=true) (l:=gl S) (key:=x.l) (zs:=[0,0,0,0,0,0,0,0]) (k:=187) (e:=223) (by kernel_rfl) Znu (by kernel_rfl) rfl rfl rfl rfl rfl rfl rfl (hxp.1.key hA hb.wh.ro.2) (ZfH hA hb.wh.ro.2 fun e he=>(hin.2.1 e he).1) (fun p _ h=>Zdp h) ?_;rw[hgl2,Option.getD_some];simp only[go_sem,hP,kav,if_true,Pt.l,List.map_cons,List.map_nil];refine vR ?_;have hne2:acts++[act]≠[]:=by simp
                refine ⟨(acts++[act],cap',j',pre2,e2,post2),⟨hs2,by simp only[List.length_append,List.length_cons,List.length_nil];omega,fun _=>by simpa using hcp⟩,hlt2,?_⟩;simp only[Zrc,Zrb,if_neg hne2,ZeP,List.length_append,List.length_cons,List.length_nil,Nat.zero_add];rw[Zgt];exact Zaz
              · by_cases hnil:acts=[]
                · subst hnil
                  simp only[Zrc,Zrb,if_true,List.nil_append,List.length_nil,Nat.zero_add];(refine ZdS 4 ?_;simp only[List.take_succ_cons,List.take_zero,List.take_nil,List.drop_succ_cons,List.drop_zero,List.drop_nil];simp only[go_sem,hP];refine vQ ?_)
                  (refine Zdn ?_;simp only[go_sem,hP];refine vQ ?_)
                  refine ⟨by decide,fun cap' j' q1 q2 q3=>⟨cap',j',⟨q1,q2,by omega⟩,?_⟩⟩;rw[show AV.prgL 80 (List.map AV.c [[CD.int .i64 act]].flatten++List.replicate j' .non)=cI [act] j' from Zgt 80 [act] j'];(refine Zai (by simp only[go_sem];((repeat' (first|exact ZaW _ _|refine ZaJ ?_ ?_))<;>((try simp only[ZaT,ZbG,ZbH,Nat.reduceEqDiff,reduceIte]);first|exact AWk.refl _ _|exact AWk.int (by omega)|exact AWk.int (by rw[w64 (by omega) (by omega)];omega)|exact AWk.grow rfl|exact AWk.nil _|exact AWk.of (by simp[ZeP])))) (by simp only[go_sem];exact Zaa))
                · simp only[Zrc,Zrb,if_neg hnil]
                  have hl1:=Zux acts j;have htk1:(cI acts j).take (acts.length*1)=acts.map fun n=> .c (.int .i64 n):=by unfold cI;rw[Nat.mul_one,List.take_left' (by simp)]
                  have hpg2:=fun d=>Zgt d acts j
                  obtain ⟨c1,c2,c3⟩:=hcap hnil;(refine ZdS 4 ?_;simp only[List.take_succ_cons,List.take_zero,List.take_nil,List.drop_succ_cons,List.drop_zero,List.drop_nil];simp only[go_sem,hP];refine vQ ?_)
                  (refine Zdn ?_;simp only[go_sem,hP,hl1,htk1,hpg2];refine vQ ?_)
                  have hmax:maxLen=9223372036854775807:=rfl;refine ⟨by omega,by omega,fun cap' j' q1 q2 q3=>⟨cap',j',⟨q1,q2,by omega⟩,?_⟩⟩;have hcI:(acts.map fun n=>AV.c (.int .i64 n))++List.map AV.c [[CD.int .i64 act]].flatten++List.replicate j' .non=cI (acts++[act]) j':=by simp[cI]
                  rw[hcI,Zgt];(refine Zai (by simp only[go_sem];((repeat' (first|exact ZaW _ _|refine ZaJ ?_ ?_))<;>((try simp only[ZaT,ZbG,ZbH,Nat.reduceEqDiff,reduceIte]);first|exact AWk.refl _ _|exact AWk.int (by omega)|exact AWk.int (by rw[w64 (by omega) (by omega)];omega)|exact AWk.grow rfl|exact AWk.nil _|exact AWk.of (by simp[ZeP])))) (by simp only[go_sem];exact Zaa))
            · rw[hflag]
              by_cases hnil:acts=[]
              · simp only[Zrc,Zrb,if_pos hnil]
                refine vR ?_;(refine Zau (Zyk) ?_;simp only[go_sem,hP];refine vQ ?_;refine vR ?_)
                (refine Zak ?_;simp only[Zaq,inQ,Zbe,ZaP,Zae,ZaI];simp only[go_sem,ZaH])
                refine ⟨[],_,.tup [.c (Zaj []),.c (.bool true)],[],by simp,by simp,rfl,AVle.tup ?_,rfl,rfl,[],rfl⟩;exact ⟨_,_,rfl,AVle.nil 1,_,_,rfl,AVle.refl _,rfl⟩
              · simp only[Zrc,Zrb,if_neg hnil]
                have hle:=fun L own=>Zji L own acts j
                have hba:=fun L=>Zjg L acts.reverse j
                refine vR ?_;refine Zas [80] (ZnJ acts j cap) rfl rfl rfl (by decide) rfl (by simp only[go_sem,ZaA,Ob.lend,hle]) ?_;rintro r l' ⟨rfl,rfl⟩;refine ⟨_,_,rfl,(by simp only[Zay,Ob.back,hba];rfl),?_⟩;simp only[go_sem,hP,Zab];refine Zef 80 (ds:=acts.reverse.map (CD.int .i64)) (junk:=List.replicate j .non) (show Ob.box (cI acts.reverse j)=_ by rw[ZBc]) ?_;simp only[go_sem,hP];rw[ZBd acts.length acts.reverse (List.length_reverse ..)];refine vR ?_;(refine Zak ?_;simp only[Zaq,inQ,Zbe,ZaP,Zae,ZaI];simp only[go_sem,ZaH])
                refine ⟨[],_,_,[],by simp,by simp,rfl,AVle.refl _,rfl,rfl,acts.reverse,rfl⟩
      · have hi:k=Ls.length:=by simp at h;omega
        subst hi;have hflag:ZmF b (pur b p)=false:=by
          rw[hhit,List.any_eq_false];intro n hn;rw[hno n (by rw[List.take_length];exact hn)];simp
        rw[hflag];refine vR ?_;(refine Zak ?_;simp only[Zaq,inQ,Zbe,ZaP,Zae,ZaI];simp only[go_sem,ZaH])
        refine ⟨[],_,.tup [.c (Zaj []),.c (.bool false)],[],by simp,by simp,rfl,AVle.tup ?_,rfl,rfl,[],rfl⟩;exact ⟨_,_,rfl,AVle.nil 1,_,_,rfl,AVle.refl _,rfl⟩
abbrev Zwe:List Ins:=[JSl 6 1,JSn 7 6,JSk 8 .gtr 7 0,JSm 9 8,JH 10 (Jl 2) 9 true,JH 11 (Jm 0) 9 true,JH 12 (Jc 78 [.t 10,.t 11]) 9 true,JH 13 (Jl 2) 9 true,JH 14 (Jl 1) 9 true,JH 15 (.ia 2 (.t 14) (.k (Jz 0))) 9 true,JH 16 (Jf 0 15) 9 true,JH 17 (Jl 16) 9 true,JTc 18 78 [.t 13,.t 17] 9,JTb 19 .gtr 12 18 9,JSp 20 9 19]
abbrev Zwf:List Ins:=[JSl 29 1,JSn 30 29,JSk 31 .gtr 30 0,JSm 32 31,JH 33 (Jl 2) 32 true,JH 34 (Jm 0) 32 true,JH 35 (Jc 78 [.t 33,.t 34]) 32 true,JH 36 (Jl 2) 32 true,JH 37 (Jl 1) 32 true,JH 38 (.ia 2 (.t 37) (.k (Jz 0))) 32 true,JH 39 (Jf 0 38) 32 true,JH 40 (Jl 39) 32 true,JTc 41 78 [.t 36,.t 40] 32,JTb 42 .lss 35 41 32,JSp 43 32 42]
abbrev Zm3:List Ins:=[JSl 44 1,JSm 45 0,JSm 46 4,JS 47 (.bld [J0,J0] [(0,1,(.t 45)),(1,1,(.t 46))]),JS 48 (.bsl 141 2 [.t 47]),JS 49 (.app 141 2 48 (.t 44) (.t 48)),JUs 1 1 49]
def Zvu:FC:=⟨3,50,[],(.seq (.seq (.dops Zwe) (.cond (.t 20) .ret .skip)) (.seq (.ops [JSl 22 2,JSm 23 0,JSc 24 155 [.t 22,.t 23],JSm 21 24,JSe 25 21 0,JSe 26 21 1,JSm 4 25,JSm 5 26]) (.seq (.seq (.ops [JSm 27 5,JS 28 (.un .not (.t 27))]) (.cond (.t 28) .ret .skip)) (.seq (.seq (.dops Zwf) (.cond (.t 43) (.ops [JN (.st 1 (.t 1) (.k J0))]) .skip)) (.ops Zm3)))))⟩
theorem ZAS:Zao Tryz.prog [] 154=some Zvu:=by kernel_rfl
abbrev Gaps:=List (List Int×List Int)
def Zx7 (g:List Int×List Int):List CD:=[Zaj g.1,Zaj g.2]
def gapsC (G:Gaps):List (List CD):=G.map Zx7
theorem Zc9 (G:Gaps):(gapsC G).length=G.length:=List.length_map _
theorem ZfG (G:Gaps):((gapsC G).all fun e=>e.length==2)=true:=by
 rw[List.all_eq_true];intro e he;obtain ⟨n,_,rfl⟩:=List.mem_map.1 he;rfl
theorem Zk9 (G:Gaps) (g:List Int×List Int):gapsC (G++[g])=gapsC G++[[Zaj g.1,Zaj g.2]]:=by simp[gapsC,Zx7]
def Zge (b:Bx) (F:List (List Int)) (p:List Int):List (List Int):=
 if decide (0<F.length)&&decide (Zbq b.wh (F.getD 0 [])<Zbq b.wh p) then F
 else if ZmF b (pur b p) then (if decide (0<F.length)&&decide (Zbq b.wh p<Zbq b.wh (F.getD 0 [])) then [p] else F++[p]) else F
def gpur (G:Gaps):List (List Int):=G.map (·.1)
theorem ZmD (G:Gaps) (g:List Int×List Int):gpur (G++[g])=gpur G++[g.1]:=by simp[gpur]
theorem ZsG {b:Bx} {p:List Int} (hp:PurOk b p):∀n∈p,0≤n∧n≤14:=fun n hn=>by
 have h1:=hp.nn n hn;have h2:n≤p.sum:=by
  have key:∀l:List Int,(∀x∈l,0≤x)→∀n∈l,n≤l.sum∧0≤l.sum:=by
   intro l;induction l with
   |nil=>intro _ n hn;cases hn
   |cons a l ih=>
    intro h n hn;have h0:0≤l.sum:=by
     cases l with
     |nil=>simp
     |cons c l=>exact (ih (fun x hx=>h x (by simp[hx])) c (by simp)).2
    have ha:=h a (by simp);simp only[List.sum_cons];rcases List.mem_cons.1 hn with rfl|hn
    ·omega
    ·have:=(ih (fun x hx=>h x (by simp[hx])) n hn).1;omega
  exact (key p hp.nn n hn).1
 have:=hp.sum;omega
structure GapsOk (b:Bx) (G:Gaps):Prop where
 ok:∀g∈G,PurOk b g.1
 len:G.length≤100000
theorem ZoS {env:Nat→AV} {own:Nat→Ob} (n:Nat):Sub ⟨env,own⟩ ⟨env,upd own n .none⟩:=Zai (fun s=>AWk.refl _ _) (fun m=>by
 show upd own n .none m=own m∨upd own n .none m= .none;rw[ZaT];split
 ·exact .inr rfl
 ·exact .inl rfl)
set_option maxHeartbeats 8000000 in
set_option maxRecDepth 20000 in
theorem found58 {b:Bx} (hwb:whB b.wh=true) (hb:BxOk b) {p:List Int} (hp:PurOk b p) {G:Gaps} (hG:GapsOk b G):ZaE Tryz.prog 154 [.c (Zaj p),.bp 1000 0,.bp 1001 0] [.box [.gr 1002],.box [.c (.pt b.cds)],.grow 141 2 (gapsC G)] []
  (fun r l'=>r= .tup []∧∃G',gpur G'=Zge b (gpur G) p∧l'=[.box [.gr 1002],.box [.c (.pt b.cds)],.grow 141 2 (gapsC G')]):=by
 have hmax:maxLen=9223372036854775807:=rfl;have hGl:=hG.len;have hwp:=worth25 hb.wh hp.len (ZsG hp);have hex:=explain59 hwb hb hp;obtain ⟨Post,hPost⟩:∃Post:AV→List Ob→Prop,Post=fun r l'=>r= .tup []∧∃G',gpur G'=Zge b (gpur G) p∧l'=[.box [.gr 1002],.box [.c (.pt b.cds)],.grow 141 2 (gapsC G')]:=⟨_,rfl⟩
 rw[←hPost];have hfn:∀G',gpur G'=Zge b (gpur G) p→Post (.tup []) [.box [.gr 1002],.box [.c (.pt b.cds)],.grow 141 2 (gapsC G')]:=fun G' h=>by rw[hPost];exact ⟨rfl,G',h,rfl⟩
 clear hPost;refine ZcD ZAS (by first|simp|exact Nat.le_of_ble_eq_true rfl) (Nat.le_refl _) (by decide) (by decide) fun C hP hN hC hpin hL=> ?_;rw[Zap,Zaw (by first|simp|exact Nat.le_of_ble_eq_true rfl)];simp only[Zvu,Zco,Za1,List.map_nil,List.map_cons,Nat.reduceAdd,]
 -- one gap more
 have app:∀acts,gpur (G++[(p,acts)])=Zge b (gpur G) p→WV C (.ops Zm3) (ZaB [] [.box [.gr 1002],.box [.c (.pt b.cds)],.grow 141 2 (gapsC G)] [] Post) ⟨upd (upd (upd e0 4 (.c (Zaj acts))) 1 (.bp 1000 0)) 0 (.c (Zaj p)),upd (upd (upd o0 1000 (.box [.gr 1002])) 1001 (.box [.c (.pt b.cds)])) 1002 (.grow 141 2 (gapsC G))⟩:=fun acts hg=>by
  have n1:=Zc9 G;have n2:=ZfG G;have n3:=Zk9 G (p,acts);have hpa:=hfn _ hg;refine Zg0 ?_;(repeat (refine vV ?_;(try simp only[go_sem,hP,n1,n2]);refine vQ ?_))
  refine ⟨_,fun a w hg=>ZdP (d:=49) (n:=1002) (by decide) (fun hq=>by have h2:false=true:=hpin 1002 hq;cases h2) rfl hg,?_⟩;unfold rnO;simp only[go_sem,rnP_upd,rnE_upd,rnE_e0,rnP_o0,AV.rn,AV.rnL,Ob.rn];rw[←n3];((try simp only[Zaq,inQ,ZaB,Zar,Zae,ZaI]);(try simp only[go_sem,ZaH,AV.keepP,AV.keepPL]);refine ⟨_,[.box [.gr 1002],.box [.c (.pt b.cds)],.grow 141 2 (gapsC (G++[(p,acts)]))],rfl,Zag rfl rfl ?_ ?_ rfl,?_⟩)
  ·simp only[go_sem,Zal,Ob.keepP,AV.keepP,AV.keepPL]
  ·trivial
  ·exact hpa
 have one:∀acts,gpur [(p,acts)]=Zge b (gpur G) p→WV C (.ops Zm3) (ZaB [] [.box [.gr 1002],.box [.c (.pt b.cds)],.grow 141 2 (gapsC G)] [] Post) ⟨upd (upd (upd e0 4 (.c (Zaj acts))) 1 (.bp 1000 0)) 0 (.c (Zaj p)),upd (upd (upd o0 1000 (.box [.c (.raw (.slice none 0 0))])) 1001 (.box [.c (.pt b.cds)])) 1002 (.grow 141 2 (gapsC G))⟩:=fun acts hg=>by
  have hpa:=hfn _ hg;refine Zg0 ?_;refine vR ?_;refine ⟨_,fun a w hg=>ZdP (d:=49) (n:=1002) (by decide) (fun hq=>by have h2:false=true:=hpin 1002 hq;cases h2) rfl (ZoS 1002 C a w hg),?_⟩;unfold rnO;simp only[go_sem,rnP_upd,rnE_upd,rnE_e0,rnP_o0,AV.rn,AV.rnL,Ob.rn];((try simp only[Zaq,inQ,ZaB,Zar,Zae,ZaI]);(try simp only[go_sem,ZaH,AV.keepP,AV.keepPL]);refine ⟨_,[.box [.gr 1002],.box [.c (.pt b.cds)],.grow 141 2 (gapsC [(p,acts)])],rfl,Zag rfl rfl ?_ ?_ rfl,?_⟩)
  ·simp only[go_sem,Zal,Ob.keepP,AV.keepP,AV.keepPL,gapsC,Zx7,List.map_cons,List.map_nil]
  ·trivial
  ·exact hpa
 cases G with
 |nil=>
  have e0:gapsC []=[]:=rfl;have d0:decide ((0:Int)<((0:Nat):Int))=false:=rfl;have hfn1:∀a,ZmF b (pur b p)=true→gpur ([]++[(p,a)])=Zge b (gpur []) p:=fun a h=>by simp[gpur,Zge,h]
  have hfn0:ZmF b (pur b p)=false→gpur []=Zge b (gpur []) p:=fun h=>by simp[gpur,Zge,h]
  rw[e0] at app⊢;refine vW d0 ?_;refine Zfe (iv 0) rfl ?_;simp only[go_sem,hP,d0];refine vW d0 ?_;(refine ZaC ?_;simp only[go_sem,hP,d0];refine vQ ?_;refine vW d0 ?_)
  refine Zc1 [0,1,2,20] ?_;simp only[go_sem];(refine vC ?_ ?_<;>intro h)
  ·simp at h
  refine vW d0 ?_;refine ZaR hex rfl rfl rfl rfl ?_;rintro _ _ ⟨rfl,acts,rfl⟩;refine ⟨[],_,_,by simp,rfl,rfl,rfl,rfl,?_⟩;simp only[go_sem,hP,Zab];have hap:=app acts;generalize ZmF b (pur b p)=hit at hfn1 hfn0;cases hit with
  |false=>
   have h0:=hfn [] (hfn0 rfl);refine vW d0 ?_;(refine vC ?_ ?_<;>intro h)
   ·(refine Zak ?_;simp only[Zaq,inQ,ZaB,Zar,Zae,ZaI];simp only[go_sem,ZaH,AV.keepP,AV.keepPL];refine ⟨_,[.box [.gr 1002],.box [.c (.pt b.cds)],.grow 141 2 []],rfl,Zag rfl rfl ?_ ?_ rfl,?_⟩)
    ·simp only[go_sem,Zal,Ob.keepP,AV.keepP,AV.keepPL]
    ·trivial
    ·exact h0
   ·simp at h
  |true=>
   have h0:=app acts (hfn1 acts rfl);refine vW d0 ?_;(refine vC ?_ ?_<;>intro h)
   ·simp at h
   refine vW d0 ?_;refine Zfe (iv 0) rfl ?_;simp only[go_sem,hP,d0];refine vW d0 ?_;(refine ZaC ?_;simp only[go_sem,hP,d0];refine vQ ?_;refine vW d0 ?_)
   (refine vC ?_ ?_<;>intro h)
   ·simp at h
   ·refine Zcb ?_;simp only[go_sem,d0];exact Zc1 [0,1,4] h0
 |cons g0 G0=>
  obtain ⟨p0,a0,hp0,hg0,hgp,hl0⟩:∃p0 a0,PurOk b p0∧(gapsC (g0::G0)).getD 0 []=[Zaj p0,Zaj a0]∧(gpur (g0::G0)).getD 0 []=p0∧0<(gpur (g0::G0)).length:=⟨g0.1,g0.2,hG.ok _ (by simp),rfl,rfl,by simp[gpur]⟩;have d1:decide ((0:Int)<(((g0::G0).length:Nat):Int))=true:=by simp
  generalize g0::G0=G at*;have n1:=Zc9 G;have n2:=ZfG G;have hnp:0<G.length:=by simpa [gpur] using hl0
  have hf:Zge b (gpur G) p=if decide (Zbq b.wh p0<Zbq b.wh p) then gpur G else if ZmF b (pur b p) then (if decide (Zbq b.wh p<Zbq b.wh p0) then [p] else gpur G++[p]) else gpur G:=by
   unfold Zge;rw[hgp,decide_eq_true hl0,Bool.true_and,Bool.true_and]
  have hw0:=worth25 hb.wh hp0.len (ZsG hp0);rw[hf] at hfn app one;(repeat (refine vV ?_;(try simp only[go_sem,hP,n1,d1]);refine vQ ?_))
  (refine ZhI (fun hG=>hwp) rfl (fun hG=>by simp only[go_sem,hG]) rfl rfl rfl ?_;simp only[go_sem,hP,n1,n2,d1,hg0,Int.toNat_zero,hnp];refine vQ ?_;(repeat (refine vV ?_;(try simp only[go_sem,hP,n1,n2,d1,hg0,Int.toNat_zero,hnp]);refine vQ ?_)))
  (refine Za9 (fun hG=>hw0) ?_;simp only[go_sem,hP,n1,n2,d1];refine vQ ?_;(repeat (refine vV ?_;(try simp only[go_sem,hP,n1,n2,d1]);refine vQ ?_)))
  refine Zc1 [0,1,2,20] ?_;simp only[go_sem];by_cases hgt:Zbq b.wh p0<Zbq b.wh p
  ·have h0:=hfn G (by rw[decide_eq_true hgt,if_pos rfl]);(refine vC ?_ ?_<;>intro h)
   ·(refine Zak ?_;simp only[Zaq,inQ,ZaB,Zar,Zae,ZaI];simp only[go_sem,ZaH,AV.keepP,AV.keepPL];refine ⟨_,[.box [.gr 1002],.box [.c (.pt b.cds)],.grow 141 2 (gapsC G)],rfl,Zag rfl rfl ?_ ?_ rfl,?_⟩)
    ·simp only[go_sem,Zal,Ob.keepP,AV.keepP,AV.keepPL]
    ·trivial
    ·exact h0
   ·simp[hgt] at h
  rw[decide_eq_false hgt,if_neg (by decide)] at hfn app one;(refine vC ?_ ?_<;>intro h)
  ·simp[hgt] at h
  (repeat (refine vV ?_;(try simp only[go_sem,hP,n1,d1]);refine vQ ?_))
  refine ZaR hex rfl rfl rfl rfl ?_;rintro _ _ ⟨rfl,acts,rfl⟩;refine ⟨[],_,_,by simp,rfl,rfl,rfl,rfl,?_⟩;simp only[go_sem,hP,Zab];have hap:=app acts;have hon:=one acts;generalize ZmF b (pur b p)=hit at hfn hap hon;cases hit with
  |false=>
   have h0:=hfn G rfl;(repeat (refine vV ?_;(try simp only[go_sem,hP,n1,d1]);refine vQ ?_))
   (refine vC ?_ ?_<;>intro h)
   ·(refine Zak ?_;simp only[Zaq,inQ,ZaB,Zar,Zae,ZaI];simp only[go_sem,ZaH,AV.keepP,AV.keepPL];refine ⟨_,[.box [.gr 1002],.box [.c (.pt b.cds)],.grow 141 2 (gapsC G)],rfl,Zag rfl rfl ?_ ?_ rfl,?_⟩)
    ·simp only[go_sem,Zal,Ob.keepP,AV.keepP,AV.keepPL]
    ·trivial
    ·exact h0
   ·simp at h
  |true=>
   rw[if_pos rfl] at hap hon;(repeat (refine vV ?_;(try simp only[go_sem,hP,n1,d1]);refine vQ ?_))
   (refine vC ?_ ?_<;>intro h)
   ·simp at h
   (repeat (refine vV ?_;(try simp only[go_sem,hP,n1,d1]);refine vQ ?_))
   (refine ZhI (fun hG=>hwp) rfl (fun hG=>by simp only[go_sem,hG]) rfl rfl rfl ?_;simp only[go_sem,hP,n1,n2,d1,hg0,Int.toNat_zero,hnp];refine vQ ?_;(repeat (refine vV ?_;(try simp only[go_sem,hP,n1,n2,d1,hg0,Int.toNat_zero,hnp]);refine vQ ?_)))
   (refine Za9 (fun hG=>hw0) ?_;simp only[go_sem,hP,n1,n2,d1];refine vQ ?_;(repeat (refine vV ?_;(try simp only[go_sem,hP,n1,n2,d1]);refine vQ ?_)))
   by_cases hlt:Zbq b.wh p<Zbq b.wh p0
   ·rw[decide_eq_true hlt,if_pos rfl] at hon;(refine vC ?_ ?_<;>intro h)
    ·(refine ZcH ?_;simp only[go_sem,hP];refine vQ ?_)
     refine ZaL ?_ (hon rfl);exact Zaz
    ·simp[hlt] at h
   ·rw[decide_eq_false hlt,if_neg (by decide)] at hap;(refine vC ?_ ?_<;>intro h)
    ·simp[hlt] at h
    ·refine Zcb ?_;simp only[go_sem,n1];exact Zc1 [0,1,4] (hap (ZmD G (p,acts)))
end Go.Proofs.YtcggfogkfhlmlaaGreatDoor
namespace Go.Proofs.YtcggfogkfhlmlaaGreatDoor
open Go Go.V
namespace E9
abbrev Zil:List Ins:=[JS 2 (.mv (.k J0))]
abbrev Zim:List Ins:=[JSm 3 0,JS 4 (.nils false (.t 3))]
abbrev Zin:List Ins:=[JS 2 (.mv (.k J0))]
abbrev ZiU:VC:=(.seq (.ops Zin) .ret)
abbrev ZiV:VC:=(.cond (.t 4) ZiU .skip)
abbrev Zio:List Ins:=[JS 5 (.bsl 3 1 []),JSm 6 0,JS 7 (.app 3 1 8 (.t 5) (.t 6)),JSm 2 7]
abbrev ZiW:VC:=(.seq (.ops Zio) .ret)
abbrev ZiX:VC:=(.seq (.seq (.ops Zim) ZiV) ZiW)
def ir124:FC:=⟨1,8,[.t 2],(.seq (.ops Zil) ZiX)⟩
theorem c124:Zao Tryz.prog [] 124=some ir124:=by kernel_rfl
attribute [local go_sem] Nat.reduceEqDiff Nat.reduceAdd Nat.reduceMul reduceIte Nat.reduceLeDiff Nat.reduceLT Nat.reduceBEq reduceCtorEq
end E9
end Go.Proofs.YtcggfogkfhlmlaaGreatDoor
namespace Go.Proofs.YtcggfogkfhlmlaaGreatDoor
open Go Go.V E9
-- Zqk: changed and kept: [24]
abbrev Zqk:List Nat:=[0,1,2,3,23]
abbrev ZtD:VC:=(.loop (.seq (.ops [JSb 25 .lss 24 23]) (.seq (.cond (.t 25) .skip (.exit 0)) (.seq (.block 1 (.seq (.ops [JSm 26 24,JSm 8 26]) (.ops [JSm 27 0,JSm 28 1,JSc 29 124 [.t 28],JSm 30 8,JS 31 (.bsl 3 1 [.t 30]),JS 32 (.app 3 1 8 (.t 29) (.t 31)),JSm 33 2,JSm 34 8,JSb 35 .sub 33 34,JSm 36 3,JSc 37 153 [.t 27,.t 32,.t 35,.t 36]]))) (.ops [JSk 38 .add 24 1,JSm 24 38])))))
def ZrQ:FC:=⟨4,39,[],(.seq (.seq (.ops [JSm 9 1,JSn 10 9,JSm 11 0,JS 12 (.nilc (.t 11)),JSf 13 0 12,JSf 14 0 13,JSf 15 2 14,JSl 16 15,JSn 17 16,JSb 18 .eql 10 17]) (.cond (.t 18) (.seq (.ops [JSm 19 3,JSm 20 1,JS 21 (.call (.t 19) [.t 20])]) .ret) .skip)) (.seq (.ops [JSm 22 2,JSk 23 .add 22 1,JSi 24 0]) (.block 0 ZtD)))⟩
theorem Zzg:Zao Tryz.prog [] 153=some ZrQ:=by kernel_rfl
attribute [local go_sem] Nat.reduceEqDiff Nat.reduceAdd Nat.reduceMul reduceIte Nat.reduceLeDiff Nat.reduceLT Nat.reduceBEq reduceCtorEq
def ZdI:Nat→List Int→Nat→List (List Int)
 |0,p,_=>[p]
 |m+1,p,lf=>(List.range (lf+1)).flatMap fun (n:Nat)=>ZdI m (p++[(n:Int)]) (lf -n)
theorem ZoV (b:Bx) (F:List (List Int)) (p:List Int):(Zge b F p).length≤F.length+1:=by
 unfold Zge;split
 ·omega
 ·split
  ·split<;>simp
  ·omega
theorem ZoW {b:Bx} {F:List (List Int)} {p q:List Int} (h:q∈Zge b F p):q∈F∨q=p:=by
 unfold Zge at h;split at h
 ·exact .inl h
 ·split at h
  ·split at h
   ·exact .inr (by simpa using h)
   ·rcases List.mem_append.1 h with h|h
    ·exact .inl h
    ·exact .inr (by simpa using h)
  ·exact .inl h
theorem Zj4 (b:Bx):∀(l:List (List Int)) (F:List (List Int)),(l.foldl (Zge b) F).length≤F.length+l.length
 |[],F=>Nat.le_refl _
 |p::l,F=>by
  have h1:=Zj4 b l (Zge b F p);have h2:=ZoV b F p;simp only[List.foldl_cons,List.length_cons];omega
theorem Zhe {b:Bx}:∀{l:List (List Int)} {F:List (List Int)} {q:List Int},q∈l.foldl (Zge b) F→q∈F∨q∈l
 |[],F,q,h=> .inl h
 |p::l,F,q,h=>by
  rcases Zhe (l:=l) h with h|h
  ·rcases ZoW h with h|rfl
   ·exact .inl h
   ·exact .inr (by simp)
  ·exact .inr (by simp[h])
theorem Zhq {b:Bx}:∀(m:Nat) (p:List Int) (lf:Nat),p.length+m=b.wh.co.length→(∀n∈p,0≤n)→p.sum+lf≤2→∀q∈ZdI m p lf,PurOk b q
 |0,p,lf,h1,h2,h3,q,hq=>by
  simp only[ZdI,List.mem_singleton] at hq;subst hq;exact ⟨by omega,h2,by omega⟩
 |m+1,p,lf,h1,h2,h3,q,hq=>by
  simp only[ZdI,List.mem_flatMap,List.mem_range] at hq;obtain ⟨n,hn,hq⟩:=hq;refine Zhq m _ _ (by simp;omega) (fun x hx=> ?_) ?_ q hq
  ·rcases List.mem_append.1 hx with h|h
   ·exact h2 x h
   ·simp only[List.mem_singleton] at h;omega
  ·simp;omega
def ZeZ (m:Nat) (p:List Int) (lf k:Nat):List (List Int):=(List.range k).flatMap fun (n:Nat)=>ZdI m (p++[(n:Int)]) (lf -n)
theorem Zdt (m:Nat) (p:List Int) (lf k:Nat):ZeZ m p lf (k+1)=ZeZ m p lf k++ZdI m (p++[(k:Int)]) (lf -k):=by simp[ZeZ,List.range_succ]
theorem Zku (m:Nat) (p:List Int) (lf:Nat):∀k j:Nat,(ZeZ m p lf k).length≤(ZeZ m p lf (k+j)).length
 |k,0=>Nat.le_refl _
 |k,j+1=>by
  have:=Zku m p lf k j;rw[←Nat.add_assoc,Zdt,List.length_append];omega
theorem ZuC (p:List Int) (hlen:p.length≤1000):Za3 Tryz.prog 124 [.c (Zaj p)] (fun r os=>r= .gr 1000∧os=[.grow 3 1 (i1s p)]):=by
 have hmax:maxLen=9223372036854775807:=rfl;refine ZaK c124 (Nat.le_refl _) (by decide) fun C hP hN hC hL=> ?_;rw[Zad]
 simp only[ir124,Zaj];cases p with
 |nil=>
  refine vR ?_;intro b;refine vR ?_;(refine vC ?_ ?_<;>intro h)
  ·refine ZaG ?_;(refine ZcH ?_;simp only[go_sem,hP];refine vQ ?_)
   refine Zby 2 7 3 1 (by decide) (by decide) rfl rfl ?_;simp only[go_sem];(refine Zak ?_;simp only[Zaq,inQ,Zbe,ZaP,Zae,ZaI];simp only[go_sem,ZaH])
   exact ⟨[7],_,_,_,by simp,by simp,rfl,AVle.refl _,rfl,rfl,rfl⟩
  ·refine vR ?_;(refine Zak ?_;simp only[Zaq,inQ,Zbe,ZaP,Zae,ZaI];simp only[go_sem,ZaH])
   exact ⟨[7],_,_,_,by simp,by simp,rfl,AVle.refl _,rfl,rfl,rfl⟩
 |cons a l=>
  simp only[List.length_cons] at hlen;refine vR ?_;(refine vC ?_ ?_<;>intro h)
  ·cases h
  ·refine vR ?_;(refine Zak ?_;simp only[Zaq,inQ,Zbe,ZaP,Zae,ZaI];simp only[go_sem,ZaH])
   exact ⟨[7],_,_,_,by simp,by simp,rfl,AVle.refl _,rfl,rfl,rfl⟩
def ZqE (b:Bx) (G:Gaps):List Ob:=[.box [.gr 1002],.box [.c (.pt b.cds)],.grow 141 2 (gapsC G)]
set_option maxHeartbeats 8000000 in
set_option maxRecDepth 20000 in
theorem gaps57 {b:Bx} (hwb:whB b.wh=true) (hb:BxOk b):∀(m:Nat) (p:List Int) (lf:Nat) (G:Gaps),p.length+m=b.wh.co.length→(∀n∈p,0≤n)→p.sum+lf≤2→(∀q∈gpur G,PurOk b q)→G.length+(ZdI m p lf).length≤100000→
  ZaE Tryz.prog 153 [.c (.pt b.cds),.c (Zaj p),iv lf,.fn 154 [.bp 1000 0,.bp 1001 0]] (ZqE b G) [] (fun r l'=>r= .tup []∧∃G',gpur G'=(ZdI m p lf).foldl (Zge b) (gpur G)∧l'=ZqE b G'):=by
 intro m;induction m with
 |zero=>
  intro p lf G hm hn hs hG hc;have hcl:=hb.wh.cl;have hok:GapsOk b G:=⟨fun g hg=>hG _ (List.mem_map.2 ⟨g,hg,rfl⟩),by simp[ZdI] at hc;omega⟩;have hfo:=found58 hwb hb (p:=p) ⟨by omega,hn,by omega⟩ hok;have e2:List.drop 2 b.cds=[Zaj b.wh.co,Zaj b.fo,Zaj b.ma,Zaj b.sl,.int .i64 b.pl,.int .i64 b.sk]:=rfl;have e8:b.cds.length=8:=rfl;have hl1:((Zaj p:CD))= .sl 1 (p.map fun n=>[.int .i64 n]):=rfl;have hleq:(p.length:Int)=(b.wh.co.length:Int):=by omega
  unfold ZqE;refine Zat Zzg (by first|simp|exact Nat.le_of_ble_eq_true rfl) (Nat.le_refl _) (by decide) (by decide) fun C hP hN hC hL=> ?_;rw[Zap,Zaw (by first|simp|exact Nat.le_of_ble_eq_true rfl)];simp only[ZrQ,Zco,Za1,List.map_nil,List.map_cons,Nat.reduceAdd,]
  rw[hl1];(repeat (refine vV ?_;(try simp only[go_sem,hP,e2,e8,Zaj,List.length_map,hleq]);refine vQ ?_))
  (refine vC ?_ ?_<;>intro h)
  ·refine vR ?_;refine Zas [1000,1001,1002] hfo rfl rfl rfl (by decide) rfl rfl ?_;rintro r l' ⟨rfl,G',hG',rfl⟩;refine ⟨_,_,rfl,rfl,?_⟩;simp only[go_sem,hP,Zab];refine vR ?_;(refine Zak ?_;simp only[Zaq,inQ,ZaB,Zar,Zae,ZaI];simp only[go_sem,ZaH,AV.keepP,AV.keepPL];refine ⟨_,ZqE b G',rfl,Zag rfl rfl ?_ ?_ rfl,?_⟩)
   ·simp only[go_sem,Zal,Ob.keepP,AV.keepP,AV.keepPL,ZqE]
   ·trivial
   ·exact ⟨rfl,G',hG',rfl⟩
  ·simp at h
 |succ m ih=>
  intro p lf G hm hn hs hG hc;have hmax:maxLen=9223372036854775807:=rfl;have hcl:=hb.wh.cl;have e2:List.drop 2 b.cds=[Zaj b.wh.co,Zaj b.fo,Zaj b.ma,Zaj b.sl,.int .i64 b.pl,.int .i64 b.sk]:=rfl;have e8:b.cds.length=8:=rfl;have hl1:((Zaj p:CD))= .sl 1 (p.map fun n=>[.int .i64 n]):=rfl;have hsum:0≤p.sum:=by
   have key:∀l:List Int,(∀x∈l,0≤x)→0≤l.sum:=by
    intro l;induction l with
    |nil=>intro _;simp
    |cons a l ih=>intro h;have:=ih fun x hx=>h x (by simp[hx]);have:=h a (by simp);simp only[List.sum_cons];omega
   exact key p hn
  have hne:(p.length:Int)≠(b.wh.co.length:Int):=by omega
  have w0:=w64 (n:=(lf:Int)+1) (by omega) (by omega);have hcp:=ZuC p (by omega);rw[hl1] at hcp;unfold ZqE;refine Zat Zzg (by first|simp|exact Nat.le_of_ble_eq_true rfl) (Nat.le_refl _) (by decide) (by decide) fun C hP hN hC hL=> ?_;rw[Zap,Zaw (by first|simp|exact Nat.le_of_ble_eq_true rfl)];simp only[ZrQ,Zco,Za1,List.map_nil,List.map_cons,Nat.reduceAdd,]
  rw[hl1];(repeat (refine vV ?_;(try simp only[go_sem,hP,e2,e8,Zaj,List.length_map]);refine vQ ?_))
  (refine vC ?_ ?_<;>intro h)
  ·exact absurd (by simpa using h) hne
  refine vW w0 ?_;refine Zax Zqk [1002] (fun i:Nat×Gaps=>i.1≤lf+1∧gpur i.2=(ZeZ m p lf i.1).foldl (Zge b) (gpur G)) (fun i=>lf+1 -i.1) (fun i=>[(24,iv i.1)]) (fun i=>[(1002,.grow 141 2 (gapsC i.2))]) (0,G) ⟨by omega,rfl⟩ ?_ ?_
  ·exact Zaz
  rintro ⟨k,H⟩ ⟨hk,hH⟩;simp only at hk hH;refine vR ?_;(refine vC ?_ ?_<;>intro h)
  ·have hi:k<lf+1:=by simp at h;omega
   have w1:=w64 (n:=(k:Int)+1) (by omega) (by omega);have w2:IntKind.i64.wrap ((lf:Int) -(k:Int))=((lf -k:Nat):Int):=by rw[w64 (by omega) (by omega)];omega
   have hsn:i1s p++[[CD.int .i64 (k:Int)]]=(p++[(k:Int)]).map fun n=>[CD.int .i64 n]:=by simp[i1s]
   have hln:(i1s p).length=p.length:=List.length_map _;have hon:((i1s p).all fun e=>e.length==1)=true:=by rw[List.all_eq_true];intro e he;obtain ⟨n,_,rfl⟩:=List.mem_map.1 he;rfl
   have hih:=ih (p ++ [(k:Int)]) (lf - k) H (by simp; omega) (fun x hx => by
    rcases List.mem_append.1 hx with h|h
    ·exact hn x h
    ·simp only[List.mem_singleton] at h;omega) (by simp;omega) (fun q hq=>by
    rw[hH] at hq;rcases Zhe hq with h|h
    ·exact hG q h
    ·refine Zhq (m+1) p lf hm hn hs q ?_;simp only[ZeZ,List.mem_flatMap,List.mem_range] at h;simp only[ZdI,List.mem_flatMap,List.mem_range];obtain ⟨n,h1,h2⟩:=h;exact ⟨n,by omega,h2⟩) (by
    have h1:H.length=(gpur H).length:=by simp[gpur]
    have h2:=Zj4 b (ZeZ m p lf k) (gpur G);have h3:=Zku m p lf (k+1) (lf -k);rw[show k+1+(lf -k)=lf+1 by omega,Zdt,List.length_append] at h3;have h4:ZdI (m+1) p lf=ZeZ m p lf (lf+1):=rfl;have h5:(gpur G).length=G.length:=by simp[gpur]
    rw[h4] at hc;rw[hH] at h1;omega)
   refine vW w1 ?_;refine ZaR hcp rfl rfl rfl rfl ?_;rintro _ _ ⟨rfl,rfl⟩;refine ⟨[29],_,_,by simp,rfl,rfl,rfl,rfl,?_⟩;simp only[go_sem,hP,Zab];(repeat (refine vV ?_;(try simp only[go_sem,hP,w1,w2,hln,hon]);refine vQ ?_))
   refine ⟨⟨by omega,by omega⟩,?_⟩;refine Zas [1000,1001,1002] hih rfl rfl rfl (by decide) (by simp only[go_sem,AV.lendL,AV.lend,hsn,w2,Zaj]) rfl ?_;rintro r l' ⟨rfl,H',hH',rfl⟩;refine ⟨_,_,rfl,rfl,?_⟩;simp only[go_sem,hP,Zab];refine vW w1 ?_;refine ⟨(k+1,H'),⟨by omega,?_⟩,by omega,?_⟩
   ·simp only;rw[hH',hH,Zdt,List.foldl_append]
   ·exact Zaz
  ·have hi:k=lf+1:=by simp at h;omega
   subst hi;refine vR ?_;((try simp only[Zaq,inQ,ZaB,Zar,Zae,ZaI]);(try simp only[go_sem,ZaH,AV.keepP,AV.keepPL]);refine ⟨_,ZqE b H,rfl,Zag rfl rfl ?_ ?_ rfl,?_⟩)
   ·simp only[go_sem,Zal,Ob.keepP,AV.keepP,AV.keepPL,ZqE]
   ·trivial
   ·exact ⟨rfl,H,hH,rfl⟩
def Zve:FC:=⟨1,8,[.t 2],(.seq (.ops [JS 1 (.box 1 (.t 0)),JS 2 (.mv (.k J0))]) (.seq (.ops [JS 3 (.alloc [J0])]) (.seq (.ops [JSl 4 1,JS 5 (.mkfn 154 [.t 3,.t 1]),JSc 6 153 [.t 4,(.k J0),(.k (Jz 2)),.t 5]]) (.seq (.ops [JSl 7 3,JSm 2 7]) .ret))))⟩
abbrev ZxH:VC:=(.seq (.seq (.ops [JSm 13 6,JSk 14 .neq 13 0]) (.cond (.t 14) (.seq (.ops [JSm 15 6,JS 2 (.mv (.k (.c (.raw (.pointer none))))),JS 3 (.mv (.k J0)),JSm 4 15]) .ret) .skip)) (.seq (.ops [JSm 16 5,JSc 17 121 [.t 16],JSm 7 17]) (.seq (.seq (.ops [JSm 18 7,JSn 19 18,JSk 20 .eql 19 0]) (.cond (.t 20) (.seq (.ops [JS 2 (.mv (.k (.c (.raw (.pointer none))))),JS 3 (.mv (.k J0)),JSi 4 3]) .ret) .skip)) (.seq (.ops [JSm 21 5,JSm 22 7,JSm 2 21,JSm 3 22,JSi 4 0]) .ret))))
def ZzY:FC:=⟨1,23,[.t 2,.t 3,.t 4],(.seq (.ops [JS 1 (.box 8 (.t 0)),JS 2 (.mv (.k (.c (.raw (.pointer none))))),JS 3 (.mv (.k J0)),JSi 4 0]) (.seq (.ops [JSL 9 8 1,JSc 10 77 [.t 9],JSm 8 10,JSe 11 8 0,JSe 12 8 1,JSm 5 11,JSm 6 12]) ZxH))⟩
abbrev Zy6:VC:=(.seq (.ops [JSL 8 8 1,JSc 9 80 [.t 8],JSm 7 9,JSe 10 7 0,JSe 11 7 1,JSe 12 7 2,JSm 4 10,JSm 5 11,JSm 6 12]) (.seq (.seq (.ops [JSm 13 6,JSk 14 .neq 13 0]) (.cond (.t 14) (.seq (.ops [JSm 15 6,JSi 2 0,JSm 3 15]) .ret) .skip)) (.seq (.ops [JSm 16 4,JSm 17 5,JS 18 (.ia 2 (.t 17) (.k (Jz 0))),JSf 19 0 18,JSl 20 19,JSc 21 78 [.t 16,.t 20],JSm 2 21,JSi 3 0]) .ret)))
def Zzw:FC:=⟨1,22,[.t 2,.t 3],(.seq (.ops [JS 1 (.box 8 (.t 0)),JSi 2 0,JSi 3 0]) Zy6)⟩
theorem ZAC:Zao Tryz.prog [] 121=some Zve:=by kernel_rfl
theorem c80:Zao Tryz.prog [] 80=some ZzY:=by kernel_rfl
theorem c32:Zao Tryz.prog [] 32=some Zzw:=by kernel_rfl
theorem Zi6 {P:Program} {f:FuncId} {args args':List AV} {l:List Ob} {wl:List (List AV)} {Post:AV→List Ob→Prop} (ha:∀w M loc vs,RepAs w M loc args' vs→RepAs w M loc args vs) (h:ZaE P f args l wl Post):ZaE P f args' l wl Post:=
 ⟨h.1,h.2.1,fun w M loc vs h1 h2 h3=>h.2.2 w M loc vs h1 h2 (ha _ _ _ _ h3)⟩
def fndAll (b:Bx):List (List Int):=(ZdI b.wh.co.length [] 2).foldl (Zge b) []
theorem ZiA:∀(m:Nat) (p:List Int) (lf:Nat),lf≤2→(ZdI m p lf).length≤3^m
 |0,p,lf,_=>by simp[ZdI]
 |m+1,p,lf,h=>by
  have key:∀k,k≤lf+1→(ZeZ m p lf k).length≤k*3^m:=by
   intro k;induction k with
   |zero=>intro _;simp[ZeZ]
   |succ k ih=>
    intro hk;have h1:=ih (by omega);have h2:=ZiA m (p++[(k:Int)]) (lf -k) (by omega);rw[Zdt,List.length_append,Nat.add_mul];omega
  have h1:=key (lf+1) (Nat.le_refl _);have h2:(lf+1)*3^m≤3*3^m:=Nat.mul_le_mul_right _ (by omega);have h3:(ZdI (m+1) p lf).length=(ZeZ m p lf (lf+1)).length:=rfl;rw[h3,Nat.pow_succ];omega
theorem ZmY {b:Bx} (hwb:whB b.wh=true) (hb:BxOk b):Za3 Tryz.prog 121 [.c (.pt b.cds)] (fun r os=>os=[]∧∃G,gpur G=fndAll b∧r= .c (.sl 2 (gapsC G))):=by
 have hcl:=hb.wh.cl;have hlen:=ZiA b.wh.co.length [] 2 (Nat.le_refl _);have h81:3^b.wh.co.length≤81:=Nat.pow_le_pow_right (n:=3) (by omega) hcl;have hgp:=Zi6 (args':=[.c (.pt b.cds),.c (.raw (.slice none 0 0)),iv 2,.fn 154 [.bp 1000 0,.bp 1001 0]]) (fun w M loc vs h => by
  simp only[RepAs,RepA,RepC] at h⊢;obtain ⟨v,vs,rfl,h1,v2,vs2,rfl,⟨rfl,_⟩,h3⟩:=h;exact ⟨v,_,rfl,h1,_,vs2,rfl,⟨none,0,rfl,Nat.le_refl _,Nat.zero_le _,.inl rfl⟩,h3⟩) (gaps57 hwb hb b.wh.co.length [] 2 [] (by simp) (by simp) (by simp) (by simp[gpur]) (by simp only[List.length_nil];omega))
 refine ZaK ZAC (Nat.le_refl _) (by decide) fun C hP hN hC hL=> ?_;rw[Zad]
 simp only[Zve];refine ZaG ?_;(refine ZcH ?_;simp only[go_sem,hP];refine vQ ?_)
 refine ZaG ?_;(refine ZcH ?_;simp only[go_sem,hP];refine vQ ?_)
 refine Zc2 3 0 603 141 2 (by decide) (by decide) (by decide) rfl rfl rfl ?_;simp only[go_sem];refine vR ?_;refine Zas [3,1,603] hgp rfl rfl rfl (by decide) rfl rfl ?_;rintro r l' ⟨rfl,G,hG,rfl⟩;refine ⟨_,_,rfl,rfl,?_⟩;have n1:=Zc9 G;have n2:=ZfG G;simp only[go_sem,hP,Zab];(repeat (refine vV ?_;(try simp only[go_sem,hP,n1,n2]);refine vQ ?_))
 (refine Zak ?_;simp only[Zaq,inQ,Zbe,ZaP,Zae,ZaI];simp only[go_sem,ZaH])
 exact ⟨[],_,_,[],by simp,by simp,rfl,AVle.refl _,rfl,rfl,G,hG,rfl⟩
def nilP:AV:=.c (.raw (.pointer none))
def nilS:AV:=.c (.raw (.slice none 0 0))
inductive Settled (b:Bx):AV→Prop
 |bad (h:bxB b=false):Settled b (.tup [nilP,nilS,iv (bxE b)])
 |none (h:bxB b=true) (h2:fndAll b=[]):Settled b (.tup [nilP,nilS,iv 3])
 |some (h:bxB b=true) (G:Gaps) (hG:gpur G=fndAll b) (h2:fndAll b≠[]):Settled b (.tup [.c (.pt b.cds),.c (.sl 2 (gapsC G)),iv 0])
theorem ZpR (b:Bx):Za3 Tryz.prog 80 [b.av] (fun r os=>os=[]∧Settled b r):=by
 refine ZaK c80 (Nat.le_refl _) (by decide) fun C hP hN hC hL=> ?_;rw[Zad]
 simp only[ZzY,Bx.av,Bx.avs,Zaj];have ho:=Zm4 b;by_cases h1:bxB b=true
 ·have hb:=ZeF h1;have hwb:whB b.wh=true:=by
   simp only[bxB,Bool.and_eq_true] at h1;exact h1.1.1.1.1.1.1.1
  rw[Zma h1,Zje h1] at ho;refine vR ?_;(refine Zau (ho) ?_;simp only[go_sem,hP,Bx.av,Bx.avs,Zaj];refine vQ ?_;(repeat (refine vV ?_;(try simp only[go_sem,hP,Bx.av,Bx.avs,Zaj]);refine vQ ?_)))
  (refine vC ?_ ?_<;>intro h)
  ·simp at h
  refine vR ?_;refine ZaR (ZmY hwb hb) rfl rfl rfl rfl ?_;rintro _ _ ⟨rfl,G,hG,rfl⟩;refine ⟨[],_,_,by simp,rfl,rfl,rfl,rfl,?_⟩;have n1:=Zc9 G;simp only[go_sem,hP,Zab];(repeat (refine vV ?_;(try simp only[go_sem,hP,n1]);refine vQ ?_))
  have hgl:(fndAll b).length=G.length:=by rw[←hG];simp[gpur]
  (refine vC ?_ ?_<;>intro h)
  ·have hz:fndAll b=[]:=List.eq_nil_of_length_eq_zero (by simp at h;rw[hgl,h];rfl);refine vR ?_;(refine Zak ?_;simp only[Zaq,inQ,Zbe,ZaP,Zae,ZaI];simp only[go_sem,ZaH])
   exact ⟨[],_,_,[],by simp,by simp,rfl,AVle.refl _,rfl,rfl,.none h1 hz⟩
  ·have hz:fndAll b≠[]:=fun e=>by rw[e] at hgl;simp at h;exact h (List.eq_nil_of_length_eq_zero hgl.symm)
   refine vR ?_;(refine Zak ?_;simp only[Zaq,inQ,Zbe,ZaP,Zae,ZaI];simp only[go_sem,ZaH])
   exact ⟨[],_,_,[],by simp,by simp,rfl,AVle.refl _,rfl,rfl,.some h1 G hG hz⟩
 ·have h1:bxB b=false:=by simpa using h1
  have hne:bxE b≠0:=by rw[Zqu h1];decide
  rw[Zrn h1] at ho;refine vR ?_;(refine Zau (ho) ?_;simp only[go_sem,hP,Bx.av,Bx.avs,Zaj];refine vQ ?_;(repeat (refine vV ?_;(try simp only[go_sem,hP,Bx.av,Bx.avs,Zaj]);refine vQ ?_)))
  (refine vC ?_ ?_<;>intro h)
  ·refine vR ?_;(refine Zak ?_;simp only[Zaq,inQ,Zbe,ZaP,Zae,ZaI];simp only[go_sem,ZaH])
   exact ⟨[],_,_,[],by simp,by simp,rfl,AVle.refl _,rfl,rfl,.bad h1⟩
  ·simp at h;exact absurd h hne
def ZfP (b:Bx):Int×Int:=if bxB b then (if fndAll b=[] then (0,3) else (Zbq b.wh ((fndAll b).getD 0 []),0)) else (0,bxE b)
theorem ZmA {b:Bx}:∀q∈fndAll b,PurOk b q:=fun q hq=>by
 rcases Zhe hq with h|h
 ·cases h
 ·exact Zhq b.wh.co.length [] 2 (by simp) (by simp) (by simp) q h
theorem ZmX (b:Bx):FSpec Tryz.prog 32 [b.av] (.tup [iv (ZfP b).1,iv (ZfP b).2]):=by
 refine Zac c32 (Nat.le_refl _) (by decide) fun C hP hN hC hL=> ?_;rw[Zad]
 simp only[Zzw,Bx.av,Bx.avs,Zaj];refine vR ?_;refine ZaR (ZpR b) rfl rfl rfl (by simp only[Bx.av,Bx.avs,Zaj];rfl) ?_;rintro r os ⟨rfl,hr⟩;cases hr with
 |bad h1=>
  have hne:bxE b≠0:=by rw[Zqu h1];decide
  have hm:ZfP b=(0,bxE b):=by unfold ZfP;rw[h1];rfl
  rw[hm];refine ⟨[],_,_,by simp,rfl,rfl,rfl,rfl,?_⟩;simp only[go_sem,hP,Zab];refine vR ?_;(refine vC ?_ ?_<;>intro h)
  ·refine vR ?_;(refine vT ?_;try exact trivial)
  ·simp at h;exact absurd h hne
 |none h1 h2=>
  have hm:ZfP b=(0,3):=by unfold ZfP;rw[if_pos h1,if_pos h2]
  rw[hm];refine ⟨[],_,_,by simp,rfl,rfl,rfl,rfl,?_⟩;simp only[go_sem,hP,Zab];refine vR ?_;(refine vC ?_ ?_<;>intro h)
  ·refine vR ?_;(refine vT ?_;try exact trivial)
  ·simp at h
 |some h1 G hG h2=>
  have hb:=ZeF h1;have hm:ZfP b=(Zbq b.wh ((fndAll b).getD 0 []),0):=by unfold ZfP;rw[if_pos h1,if_neg h2]
  rw[hm];have n1:=Zc9 G;have hl:0<G.length:=by
   have:0<(gpur G).length:=by rw[hG];exact List.length_pos_iff.2 h2
   simpa [gpur] using this
  obtain ⟨p0,a0,hp0,hg0,hgp⟩:∃p0 a0,PurOk b p0∧(gapsC G).getD 0 []=[Zaj p0,Zaj a0]∧(fndAll b).getD 0 []=p0:=by
   cases G with
   |nil=>simp at hl
   |cons g G=>exact ⟨g.1,g.2,ZmA _ (by rw[←hG];simp[gpur]),rfl,by rw[←hG];rfl⟩
  rw[hgp];refine ⟨[],_,_,by simp,rfl,rfl,rfl,rfl,?_⟩;simp only[go_sem,hP,Zab];(repeat (refine vV ?_;(try simp only[go_sem,hP,n1]);refine vQ ?_))
  (refine vC ?_ ?_<;>intro h)
  ·simp at h
  (repeat (refine vV ?_;(try simp only[go_sem,hP,n1,hg0,hl,Int.toNat_zero]);refine vQ ?_))
  (refine Zau (worth25 hb.wh hp0.len (ZsG hp0)) ?_;simp only[go_sem,hP];refine vQ ?_;refine vR ?_)
  (refine vT ?_;try exact trivial)
def ZzX:FC:=⟨1,12,[.t 2],(.seq (.ops [JS 2 (.mv (.k J0))]) (.seq (.ops [JSm 3 0,JSm 4 0,JSc 5 120 [.t 4],JSc 6 119 [.t 3,.t 5],JSm 7 0,JSc 8 120 [.t 7],JSc 9 118 [.t 6,.t 8],JSc 10 117 [.t 9],JSc 11 116 [.t 10],JSm 2 11]) .ret))⟩
theorem c79:Zao Tryz.prog [] 79=some ZzX:=by kernel_rfl
theorem ZkS {C:Ctx} {is:List Ins} {K:St→Prop} {σ:St} (f:Nat) (hf:f<1000) (hn:σ.own f= .none) (h:ZgZ C is K ⟨ZcM f σ.env,upd (Zbk f σ.own) f empO⟩):ZgZ C is K σ:=
 ZhP (fun a w hg=>ZhJ hn (fun hp=>by obtain ⟨_,hg'⟩:=hg;have:=(hg'.pin f hp).1;omega) a w hg) h
theorem ZsH (b:Bx) (hb:BxOk b):PurOk b []:=⟨Nat.zero_le _,by simp,by simp⟩
def Zmf (b:Bx):List Int:=srt ((((ZeA b.wh (pur b [])).filter fun e=>decide (e.1.bag=pur b [])).map fun e=>e.1.bo).eraseDups)
theorem Zlh {l m:List Int} (h1:l.Nodup) (h2:m.Nodup) (h:∀n,n∈l↔n∈m):l.Perm m:=(List.perm_ext_iff_of_nodup h1 h2).2 h
theorem ZgF:∀(n:Nat) (l:List Int),l.length≤n→l.eraseDups.Nodup
 |0,l,h=>by
  have:l=[]:=List.eq_nil_of_length_eq_zero (by omega);subst this;simp
 |n+1,[],_=>by simp
 |n+1,a::l,h=>by
  rw[List.eraseDups_cons,List.nodup_cons];refine ⟨?_,ZgF n _ (by have:=List.length_filter_le (fun b=> !b==a) l;simp only[List.length_cons] at h;omega)⟩;intro hc;have:=List.mem_eraseDups.1 hc;rw[List.mem_filter] at this;simp at this
theorem Zuz {b:Bx} {D:Ends} (h:EndsOf (ZeA b.wh (pur b [])) (pur b []) D):srt (keysD D)=Zmf b:=by
 unfold Zmf;refine Zkz (Zlh h.ok.nd (ZgF _ _ (Nat.le_refl _)) fun n=> ?_);rw[ZfM h,List.mem_eraseDups,List.mem_map];constructor
 ·rintro ⟨e,he,h1,h2⟩;exact ⟨e,List.mem_filter.2 ⟨he,by simpa using h1⟩,h2⟩
 ·rintro ⟨e,he,h2⟩;have:=List.mem_filter.1 he;exact ⟨e,this.1,by simpa using this.2,h2⟩
theorem Zuy {b:Bx} (hwb:whB b.wh=true) (hb:BxOk b):Za3 Tryz.prog 79 [.c (.pt b.cds)] (fun r os=>os=[]∧r= .c (Zaj (Zmf b))∧(∀n∈Zmf b,0≤n∧n≤2000)∧(Zmf b).length≤2001):=by
 have hA:=ZqR hb (ZsH b hb);have hput:=put61 hb;have hl:ZeS (ZbC b)=(pur b []).l:=by rw[←Ziy b [],←Zks];rfl
 rw[hl] at hput;refine ZaK c79 (Nat.le_refl _) (by decide) fun C hP hN hC hL=> ?_;rw[Zad]
 simp only[ZzX];refine ZaG ?_;(refine ZcH ?_;simp only[go_sem,hP];refine vQ ?_)
 refine ZaG ?_;(refine ZdS 6 ?_;simp only[List.take_succ_cons,List.take_zero,List.take_nil,List.drop_succ_cons,List.drop_zero,List.drop_nil];simp only[go_sem,hP];refine vQ ?_)
 refine Zau hput ?_;simp only[go_sem,hP];refine ZaR (walk62 hwb hA) rfl rfl rfl rfl ?_;rintro _ _ ⟨bm,rfl,rfl⟩;refine ⟨[33],_,_,by simp,rfl,rfl,rfl,rfl,?_⟩;simp only[go_sem,hP,Zab];refine Zau hput ?_;simp only[go_sem,hP];refine ZkS 36 (by decide) rfl ?_;simp only[go_sem];refine Zdn ?_;simp only[go_sem,hP];refine Zas [33,36] (ends63 bm) rfl rfl rfl (by decide) rfl rfl ?_;rintro r l' ⟨be,D,rfl,rfl,hD⟩;refine ⟨_,_,rfl,rfl,?_⟩;have hin:=Zof hb.wh hA;have hdl:=hD.ok.len (fun e he=>by have:=(hin.2.1 e he).1.bo;have h5:=hA.m;have h6:=(hin.2.1 e he).1;have h7:=h6.a;have h8:=h6.b;have h9:=h6.c;have h10:=h6.d;simp only[Pt.bag,Bag.many] at this;omega);have hcan:=Zuz hD;simp only[go_sem,hP,Zab];refine ZaR (ZqH be) rfl rfl rfl rfl ?_;rintro _ _ ⟨rfl,rfl⟩;refine ⟨[38],_,_,by simp,rfl,rfl,rfl,rfl,?_⟩;simp only[go_sem,hP,Zab];refine Zas [38,36] (sorted64 hdl.1 hdl.2 be) rfl rfl rfl (by decide) rfl rfl ?_;rintro r l' ⟨rfl,rfl⟩;refine ⟨_,_,rfl,rfl,?_⟩;simp only[go_sem,hP,Zab];rw[hcan];have hb1:∀n∈Zmf b,0≤n∧n≤2000:=fun n hn=>by
  rw[←hcan] at hn;have h2:=ZhB.1 hn;obtain ⟨q,hq⟩:=Zha (D:=D) h2;exact hdl.2 _ (ZcJ hq)
 have hb2:(Zmf b).length≤2001:=by rw[←hcan];unfold srt;rw[List.length_mergeSort];simpa [keysD] using hdl.1
 refine vR ?_;(refine Zak ?_;simp only[Zaq,inQ,Zbe,ZaP,Zae,ZaI];simp only[go_sem,ZaH])
 exact ⟨[],_,_,[],by simp,by simp,rfl,AVle.refl _,rfl,rfl,rfl,hb1,hb2⟩
def Zzv:FC:=⟨1,16,[.t 2,.t 3],(.seq (.ops [JS 1 (.box 8 (.t 0)),JS 2 (.mv (.k J0)),JSi 3 0]) (.seq (.ops [JSL 7 8 1,JSc 8 77 [.t 7],JSm 6 8,JSe 9 6 0,JSe 10 6 1,JSm 4 9,JSm 5 10]) (.seq (.seq (.ops [JSm 11 5,JSk 12 .neq 11 0]) (.cond (.t 12) (.seq (.ops [JSm 13 5,JS 2 (.mv (.k J0)),JSm 3 13]) .ret) .skip)) (.seq (.ops [JSm 14 4,JSc 15 79 [.t 14],JSm 2 15,JSi 3 0]) .ret))))⟩
theorem c31:Zao Tryz.prog [] 31=some Zzv:=by kernel_rfl
theorem Zrm {b:Bx} (h:bxB b=true):whB b.wh=true:=by
 simp only[bxB,Bool.and_eq_true] at h;exact h.1.1.1.1.1.1.1
theorem Zx0 {b:Bx} (h:bxB b=true):FSpec Tryz.prog 31 [b.av] (.tup [.c (Zaj (Zmf b)),iv 0]):=by
 have hb:=ZeF h;have hcn:=Zuy (Zrm h) hb;have ho:=Zm4 b;rw[Zma h,Zje h] at ho;refine Zac c31 (Nat.le_refl _) (by decide) fun C hP hN hC hL=> ?_;rw[Zad]
 simp only[Zzv,Bx.av,Bx.avs];refine vR ?_;(refine Zau (ho) ?_;simp only[go_sem,hP,Bx.av,Bx.avs];refine vQ ?_;(repeat (refine vV ?_;(try simp only[go_sem,hP,Bx.av,Bx.avs]);refine vQ ?_)))
 (refine vC ?_ ?_<;>intro h)
 ·simp at h
 ·refine vR ?_;refine ZaR hcn rfl rfl rfl rfl ?_;rintro _ _ ⟨rfl,rfl,r1,r2⟩;refine ⟨[],_,_,by simp,rfl,rfl,rfl,rfl,?_⟩;simp only[go_sem,hP,Zab];refine vR ?_;(refine vT ?_;try exact trivial)
variable {tb:Obj}
abbrev Zw1:OT:=(.br [(.cons (JSl 7 2) (.cons (JFm 8 0) (.cons (JF 9 (.nilc (.t 8))) (.cons (JFf 10 0 9) (.cons (JFf 11 0 10) (.cons (JFL 12 8 11) (.cons (JS 13 (.call (.t 7) [.t 12])) (.cons (JFe 14 13 0) (.cons (JFe 15 13 1) (.cons (JSm 5 14) (.cons (JSm 6 15) .nil))))))))))),(.cons (JFm 8 0) (.br [(.cons (JSl 7 2) (.cons (JF 9 (.nilc (.t 8))) (.cons (JFf 10 0 9) (.cons (JFf 11 0 10) (.cons (JFL 12 8 11) (.cons (JS 13 (.call (.t 7) [.t 12])) (.cons (JFe 14 13 0) (.cons (JFe 15 13 1) (.cons (JSm 5 14) (.cons (JSm 6 15) .nil)))))))))),(.cons (JF 9 (.nilc (.t 8))) (.br [(.cons (JSl 7 2) (.cons (JFf 10 0 9) (.cons (JFf 11 0 10) (.cons (JFL 12 8 11) (.cons (JS 13 (.call (.t 7) [.t 12])) (.cons (JFe 14 13 0) (.cons (JFe 15 13 1) (.cons (JSm 5 14) (.cons (JSm 6 15) .nil))))))))),(.cons (JFf 10 0 9) (.br [(.cons (JSl 7 2) (.cons (JFf 11 0 10) (.cons (JFL 12 8 11) (.cons (JS 13 (.call (.t 7) [.t 12])) (.cons (JFe 14 13 0) (.cons (JFe 15 13 1) (.cons (JSm 5 14) (.cons (JSm 6 15) .nil)))))))),(.cons (JFf 11 0 10) (.br [(.cons (JSl 7 2) (.cons (JFL 12 8 11) (.cons (JS 13 (.call (.t 7) [.t 12])) (.cons (JFe 14 13 0) (.cons (JFe 15 13 1) (.cons (JSm 5 14) (.cons (JSm 6 15) .nil))))))),(.cons (JFL 12 8 11) (.cons (JSl 7 2) (.cons (JS 13 (.call (.t 7) [.t 12])) (.cons (JFe 14 13 0) (.cons (JFe 15 13 1) (.cons (JSm 5 14) (.cons (JSm 6 15) .nil)))))))]))]))]))]))])
def ZvN:FC:=⟨3,16,[.t 5,.t 6],(.seq (.ops [JS 5 (.mv (.k J0)),JSi 6 0]) (.seq (.drw Zw1) .ret))⟩
abbrev Zw2:OT:=(.br [(.cons (JSl 7 2) (.cons (JFm 8 0) (.cons (JF 9 (.nilc (.t 8))) (.cons (JFf 10 0 9) (.cons (JFf 11 0 10) (.cons (JFL 12 8 11) (.cons (JS 13 (.call (.t 7) [.t 12])) (.cons (JFe 14 13 0) (.cons (JFe 15 13 1) (.cons (JSc 16 216 [.t 14,.t 15]) (.cons (JFe 17 16 0) (.cons (JFe 18 16 1) (.cons (JSm 5 17) (.cons (JSm 6 18) .nil)))))))))))))),(.cons (JFm 8 0) (.br [(.cons (JSl 7 2) (.cons (JF 9 (.nilc (.t 8))) (.cons (JFf 10 0 9) (.cons (JFf 11 0 10) (.cons (JFL 12 8 11) (.cons (JS 13 (.call (.t 7) [.t 12])) (.cons (JFe 14 13 0) (.cons (JFe 15 13 1) (.cons (JSc 16 216 [.t 14,.t 15]) (.cons (JFe 17 16 0) (.cons (JFe 18 16 1) (.cons (JSm 5 17) (.cons (JSm 6 18) .nil))))))))))))),(.cons (JF 9 (.nilc (.t 8))) (.br [(.cons (JSl 7 2) (.cons (JFf 10 0 9) (.cons (JFf 11 0 10) (.cons (JFL 12 8 11) (.cons (JS 13 (.call (.t 7) [.t 12])) (.cons (JFe 14 13 0) (.cons (JFe 15 13 1) (.cons (JSc 16 216 [.t 14,.t 15]) (.cons (JFe 17 16 0) (.cons (JFe 18 16 1) (.cons (JSm 5 17) (.cons (JSm 6 18) .nil)))))))))))),(.cons (JFf 10 0 9) (.br [(.cons (JSl 7 2) (.cons (JFf 11 0 10) (.cons (JFL 12 8 11) (.cons (JS 13 (.call (.t 7) [.t 12])) (.cons (JFe 14 13 0) (.cons (JFe 15 13 1) (.cons (JSc 16 216 [.t 14,.t 15]) (.cons (JFe 17 16 0) (.cons (JFe 18 16 1) (.cons (JSm 5 17) (.cons (JSm 6 18) .nil))))))))))),(.cons (JFf 11 0 10) (.br [(.cons (JSl 7 2) (.cons (JFL 12 8 11) (.cons (JS 13 (.call (.t 7) [.t 12])) (.cons (JFe 14 13 0) (.cons (JFe 15 13 1) (.cons (JSc 16 216 [.t 14,.t 15]) (.cons (JFe 17 16 0) (.cons (JFe 18 16 1) (.cons (JSm 5 17) (.cons (JSm 6 18) .nil)))))))))),(.cons (JFL 12 8 11) (.cons (JSl 7 2) (.cons (JS 13 (.call (.t 7) [.t 12])) (.cons (JFe 14 13 0) (.cons (JFe 15 13 1) (.cons (JSc 16 216 [.t 14,.t 15]) (.cons (JFe 17 16 0) (.cons (JFe 18 16 1) (.cons (JSm 5 17) (.cons (JSm 6 18) .nil))))))))))]))]))]))]))])
def ZvO:FC:=⟨3,19,[.t 5,.t 6],(.seq (.ops [JS 5 (.mv (.k J0)),JSi 6 0]) (.seq (.drw Zw2) .ret))⟩
theorem ZBa:Zao Tryz.prog [7] 219=some ZvN:=by kernel_rfl
theorem ZBb:Zao Tryz.prog [7] 220=some ZvO:=by kernel_rfl
theorem Zru {f:FuncId} {b:Bar} {q:Nat} {l:List Int} {e:Int} (hf:FSpec Tryz.prog f [b.box.av] (.tup [.c (Zaj l),iv e])) (x:CD):ZaE Tryz.prog 219 [.bp 1000 0,.c x,.c (.raw (Zd6 q 0))] [.box b.avs,vbox (fnV f []) q] [] (fun r l'=>r= .tup [.c (Zaj l),iv e]∧l'=[.box b.avs,vbox (fnV f []) q]):=by
 simp only[Bx.av,Bx.avs] at hf;refine Zat ZBa (by first|simp|exact Nat.le_of_ble_eq_true rfl) (Nat.le_refl _) (by decide) (by decide) fun C hP hN hC hL=> ?_;rw[Zap,Zaw (by first|simp|exact Nat.le_of_ble_eq_true rfl)];simp only[ZvN,Zco,Za1,List.map_nil,List.map_cons,Nat.reduceAdd,]
 simp only[Bar.avs];refine vR ?_;refine Zdx (fun σ'=>Sub σ' ⟨upd (upd e0 5 (.c (Zaj l))) 6 (iv e),upd (upd o0 1000 (.box b.avs)) 1001 (vbox (fnV f []) q)⟩) ?_ ?_
 ·first|refine Zbx ?_|refine Zc0 ?_|refine Zgo ?_
  simp only[go_sem,hP];(repeat' (refine And.intro ?_ ?_))
  all_goals (
   refine ZjB (n:=1001) (vr:=.fn f []) rfl rfl rfl (fun w M loc=>Zem w M loc f) ?_;simp only[go_sem,hP];refine Zau hf ?_;simp only[go_sem,hP];refine Zai (by simp only[go_sem];exact Zam) (by unfold Bar.avs;simp only[go_sem];exact Zaa))
 ·intro σ' hs;refine ZaL hs ?_;(refine Zak ?_;simp only[Zaq,inQ,ZaB,Zar,Zae,ZaI];simp only[go_sem,ZaH,AV.keepP,AV.keepPL];refine ⟨_,[.box b.avs,vbox (fnV f []) q],rfl,Zag rfl rfl ?_ ?_ rfl,?_⟩)
  ·unfold Bar.avs;simp only[go_sem,Zal,Ob.keepP,AV.keepP,AV.keepPL]
  ·trivial
  ·exact ⟨rfl,rfl⟩
theorem Zrv {f:FuncId} {b:Bar} {q:Nat} {n e:Int} (hf:FSpec Tryz.prog f [b.box.av] (.tup [iv n,iv e])) (x:CD):ZaE Tryz.prog 220 [.bp 1000 0,.c x,.c (.raw (Zd6 q 0))] [.box b.avs,vbox (fnV f []) q] [] (fun r l'=>r= .tup [.c (Zaj [n]),iv e]∧l'=[.box b.avs,vbox (fnV f []) q]):=by
 simp only[Bx.av,Bx.avs] at hf;refine Zat ZBb (by first|simp|exact Nat.le_of_ble_eq_true rfl) (Nat.le_refl _) (by decide) (by decide) fun C hP hN hC hL=> ?_;rw[Zap,Zaw (by first|simp|exact Nat.le_of_ble_eq_true rfl)];simp only[ZvO,Zco,Za1,List.map_nil,List.map_cons,Nat.reduceAdd,]
 simp only[Bar.avs];refine vR ?_;refine Zdx (fun σ'=>Sub σ' ⟨upd (upd e0 5 (.c (Zaj [n]))) 6 (iv e),upd (upd o0 1000 (.box b.avs)) 1001 (vbox (fnV f []) q)⟩) ?_ ?_
 ·first|refine Zbx ?_|refine Zc0 ?_|refine Zgo ?_
  simp only[go_sem,hP];(repeat' (refine And.intro ?_ ?_))
  all_goals (
   refine ZjB (n:=1001) (vr:=.fn f []) rfl rfl rfl (fun w M loc=>Zem w M loc f) ?_;simp only[go_sem,hP];refine Zau hf ?_;simp only[go_sem,hP];refine Zau (ZqL n e) ?_;simp only[go_sem,hP];refine Zai (by simp only[go_sem];exact Zam) (by unfold Bar.avs;simp only[go_sem];exact Zaa))
 ·intro σ' hs;refine ZaL hs ?_;(refine Zak ?_;simp only[Zaq,inQ,ZaB,Zar,Zae,ZaI];simp only[go_sem,ZaH,AV.keepP,AV.keepPL];refine ⟨_,[.box b.avs,vbox (fnV f []) q],rfl,Zag rfl rfl ?_ ?_ rfl,?_⟩)
  ·unfold Bar.avs;simp only[go_sem,Zal,Ob.keepP,AV.keepP,AV.keepPL]
  ·trivial
  ·exact ⟨rfl,rfl⟩
end Go.Proofs.YtcggfogkfhlmlaaGreatDoor
/-
 Scripts in parts;which lines change a bar,and what they change. Plain.
-/
namespace Go.Proofs.YtcggfogkfhlmlaaGreatDoor
open Go Go.V
theorem ZjF (F:Bar→List UInt8→List UInt8×Bar) (b:Bar) (l:List (List UInt8)):(Zee F b l).1.length=l.length:=by
 have:=Zhz F b l l.length (Nat.le_refl _);rwa [List.take_length] at this
def ZuN:List UInt8:=[101,109,112,116,121]
end Go.Proofs.YtcggfogkfhlmlaaGreatDoor
/-
 The example that each law looks at:eleven lines,and what is answered. Plain.
-/
namespace Go.Proofs.YtcggfogkfhlmlaaGreatDoor
open Go Go.V
def k1:List UInt8:=[99,111,105,110,32,49]
def k2:List UInt8:=[112,114,101,115,115,32,51,32,48]
def k3:List UInt8:=[101,110,100]
def k4:List UInt8:=[115,116,97,110,100]
def k5:List UInt8:=[115,108,117,103,32,49]
def k6:List UInt8:=[99,97,115,104]
def k7:List UInt8:=[109,105,115,115,105,110,103]
def k8:List UInt8:=[99,97,110]
def k9:List UInt8:=[99,111,105,110,32,48,49]
def k10:List UInt8:=[101,109,112,116,121]
def Zmq:Bar:={exB with pl:=10,cr:=1,box:={exB.box with pl:=1,fo:=[0,1,0]}}
def Zjq:Bar:={Zmq with pl:=0,cr:=0,tray:={exB.tray with pres:=[⟨3,0⟩]}}
def ZdN:Bar:={Zjq with pl:=10,cr:=1,box:={Zjq.box with pl:=2,sl:=[0,1,0]}}
theorem ZrT {n:Nat} (h:n<10):Lib.itoa ((n:Nat):Int)=[UInt8.ofNat (48+n)]:=by rw[Lib.itoa_nonneg,Lib.decDigits_one h]
theorem ZvP {n:Nat} (h:10≤n∧n<100):Lib.itoa ((n:Nat):Int)=[UInt8.ofNat (48+n/10),UInt8.ofNat (48+n % 10)]:=by rw[Lib.itoa_nonneg,Lib.decDigits_two (by omega) h.2]
theorem i0:Lib.itoa 0=[48]:=ZrT (n:=0) (by decide)
theorem i1:Lib.itoa 1=[49]:=ZrT (n:=1) (by decide)
theorem i2:Lib.itoa 2=[50]:=ZrT (n:=2) (by decide)
theorem i10:Lib.itoa 10=[49,48]:=ZvP (n:=10) (by decide)
theorem i95:Lib.itoa 95=[57,53]:=ZvP (n:=95) (by decide)
theorem Zl1 {l:List Int} (h:l≠[]):Zi9 l 0=Lib.join (l.map Lib.itoa) [32]:=by
 unfold Zi9;rw[if_neg (by simp[h]),if_neg (by decide)]
theorem Zms:ZfP ZdN.box=(0,0):=by kernel_rfl
theorem Zmr:Zmf ZdN.box=[2]:=by
 unfold Zmf srt;rw[show ((((ZeA ZdN.box.wh (pur ZdN.box [])).filter fun e=>decide (e.1.bag=pur ZdN.box [])).map fun e=>e.1.bo).eraseDups)=[2] by kernel_rfl];simp
def wkL:List (List UInt8):=[k2,k1,k4,k2,k3,k5,k6,k7,k8,k9,k10]
def wkA:List (List UInt8):=[[110,111],[121,101,115],[49,48,32,49],[121,101,115],[57,53],[121,101,115],[49,48,32,48,32,49,48],[48],[50],[119,104,97,116],[110,111]]
end Go.Proofs.YtcggfogkfhlmlaaGreatDoor
