/-
  Contracts of the layer's functions, of the laws' helpers and of the law; conditions: as each theorem states.
-/
import Derived.Test.YtcggfogkfhlmlaaGreatDoorU5
import Derived.Test.YtcggfogkfhlmlaaGreatDoorV2
import Derived.Test.YtcggfogkfhlmlaaGreatDoorChecked
set_option linter.unusedVariables false
set_option linter.unusedSimpArgs false
namespace Go.Proofs.YtcggfogkfhlmlaaGreatDoor
open Go Go.V
-- Zql: changed and kept: [19]
abbrev Zql:List Nat:=[0,6,17,18]
abbrev Zr7:List Ins:=[JFm 45 12,JFm 46 0,JF 47 (.nilc (.t 46)),JFf 48 0 47,JFf 49 6 48,JFl 50 49,JFm 51 0,JF 52 (.nilc (.t 51)),JFf 53 0 52,JFf 54 6 53,JFl 55 54,JFm 56 0,JF 57 (.nilc (.t 56)),JFf 58 0 57,JFf 59 7 58,JFl 60 59,JFb 61 .add 55 60,JSc 62 146 [.t 45,.t 50,.t 61],JS 63 (.un .not (.t 62))]
abbrev Zr8:List Ins:=[JSm 64 9,JSm 65 10,JSm 66 12,JS 67 (.raw (.lookup 183 (.tmp 65) (.tmp 66) false)),JS 68 (.raw (.lookup 189 (.tmp 64) (.tmp 67) false)),JS 14 (.alloc [Jz 0,Jz 0,Jz 0,Jz 0,Jz 0,Jz 0,Jz 0,Jz 0]),JUs 8 14 68]
abbrev ZtE:VC:=(.seq (.seq (.ops [JSf 69 0 14,JSl 70 69,JSk 71 .neq 70 (-2)]) (.cond (.t 71) .skip (.exit 4))) (.seq (.block 5 (.ops [JSm 76 13,JSf 77 0 14,JSl 78 77,JS 79 (.bsl 3 1 [.t 78]),JS 80 (.appv 3 1 8 (.t 76) (.t 79)),JSm 13 80])) (.seq (.seq (.ops [JSL 81 8 14]) (.ops [JS 14 (.alloc [Jz 0,Jz 0,Jz 0,Jz 0,Jz 0,Jz 0,Jz 0,Jz 0]),JUs 8 14 81])) (.ops [JSm 72 9,JSf 73 1 14,JSL 74 7 73,JS 75 (.raw (.lookup 189 (.tmp 72) (.tmp 74) false)),JUs 8 14 75]))))
-- Zqn: changed and kept: [14,13]
abbrev Zqn:List Nat:=[9]
abbrev ZtF:VC:=(.seq (.cond (.t 42) .skip (.exit 2)) (.seq (.block 3 (.seq (.ops [JSa 43 1 39 41,JSl 44 43,JSm 12 44]) (.seq (.seq (.dops Zr7) (.cond (.t 63) (.exit 3) .skip)) (.seq (.ops [JS 13 (.mv (.k J0))]) (.seq (.seq (.ops Zr8) (.block 4 (.loop ZtE))) (.seq (.ops [JSm 82 13,JSc 83 174 [.t 82]]) (.seq (.ops [JSm 84 13,JSm 4 84,JSB 5 true]) .ret))))))) (.ops [JSk 85 .add 41 1,JSm 41 85])))
-- Zqm: changed and kept: [41]
abbrev Zqm:List Nat:=[0,9,10,39,40]
abbrev ZtG:VC:=(.seq (.seq (.ops [JSm 17 1,JSn 18 17,JSi 19 0]) (.block 0 (.loop (.seq (.ops [JSb 20 .lss 19 18]) (.seq (.cond (.t 20) .skip (.exit 0)) (.seq (.block 1 (.seq (.ops [JSm 21 19,JSa 22 1 17 19,JSl 23 22,JSm 7 21,JSm 8 23]) (.ops [JSm 24 7,JS 25 (.iap 4 1 (.t 6) (.t 24)),JSl 26 25,JSm 27 8,JSb 28 .add 26 27,JS 29 (.iap 4 1 (.t 6) (.t 24)),JUs 1 29 28]))) (.ops [JSk 30 .add 19 1,JSm 19 30]))))))) (.seq (.ops [JSm 31 0,JSL 32 4 6,JSc 33 119 [.t 31,.t 32],JSm 9 33]) (.seq (.ops [JSm 34 9,JSL 35 4 6,JSc 36 118 [.t 34,.t 35],JSm 10 36]) (.seq (.seq (.ops [JSm 37 10,JSc 38 117 [.t 37],JSc 39 116 [.t 38],JSn 40 39,JSi 41 0]) (.block 2 (.loop (.seq (.ops [JSb 42 .lss 41 40]) ZtF)))) (.seq (.ops [JS 4 (.mv (.k J0)),JSB 5 false]) .ret)))))
def Zvv:FC:=⟨2,86,[.t 4,.t 5],(.seq (.ops [JS 4 (.mv (.k J0)),JSB 5 false]) (.seq (.ops [JSm 15 0,JSc 16 120 [.t 15],JS 6 (.alloc [Jz 0,Jz 0,Jz 0,Jz 0]),JUs 4 6 16]) ZtG))⟩
theorem ZAT:Zao Tryz.prog [100080] 155=some Zvv:=by kernel_rfl
attribute [local go_sem] Nat.reduceEqDiff Nat.reduceAdd Nat.reduceMul reduceIte Nat.reduceLeDiff Nat.reduceLT Nat.reduceBEq reduceCtorEq
def ZgL (b:Bx) (p:List Int) (k:Nat):List Int:=[(ZbC b).getD 0 0+(p.take k).getD 0 0,(ZbC b).getD 1 0+(p.take k).getD 1 0,(ZbC b).getD 2 0+(p.take k).getD 2 0,(ZbC b).getD 3 0+(p.take k).getD 3 0]
theorem Ziy (b:Bx) (p:List Int):ZgL b p 0=ZeS (ZbC b):=by simp[ZgL,ZeS]
theorem Zks (b:Bx) (p:List Int):ZgL b p p.length=(pur b p).l:=by simp[ZgL,pur,Bag.l]
theorem Zn0 {p:List Int} {k i:Nat}:(p.take k).getD i 0=if i<k then p.getD i 0 else 0:=by
 rw[List.getD_eq_getElem?_getD,List.getD_eq_getElem?_getD,List.getElem?_take];split<;>rfl
theorem Znv (b:Bx) (p:List Int) {k:Nat} (hk:k<4):(ZaU (ZgL b p k)).set k (iv ((ZgL b p k).getD k 0+p.getD k 0))=ZaU (ZgL b p (k+1)):=by
 have:k=0∨k=1∨k=2∨k=3:=by omega
 rcases this with rfl|rfl|rfl|rfl<;>simp[ZgL,ZaU,Zn0,List.getD_eq_getElem?_getD,List.getElem?_take]
theorem ZoB (b:Bx) (p:List Int) {k j:Nat} (hk:j<4):(ZaU (ZgL b p k)).getD j .non=iv ((ZgL b p k).getD j 0):=by
 have:j=0∨j=1∨j=2∨j=3:=by omega
 rcases this with rfl|rfl|rfl|rfl<;>simp[ZgL,ZaU]
theorem Zwy {b:Bx} (hb:BxOk b) {p:List Int} (hp:PurOk b p) {k:Nat} (hk:k<4):0≤(ZgL b p k).getD k 0∧(ZgL b p k).getD k 0≤14∧0≤p.getD k 0∧p.getD k 0≤2:=by
 obtain ⟨h1,h2⟩:=ZnB hb;have hcl:=hb.wh.cl;have hs:=ZAe (p:=p) (by have:=hp.len;omega);have h3:=hp.sum;have g:=Zhf hp.nn;have a0:=h1 0;have a1:=h1 1;have a2:=h1 2;have a3:=h1 3;have b0:=g 0;have b1:=g 1;have b2:=g 2;have b3:=g 3;have:k=0∨k=1∨k=2∨k=3:=by omega
 rcases this with rfl|rfl|rfl|rfl<;>simp only[ZgL,Zn0,List.getD_cons_zero,List.getD_cons_succ,Nat.lt_irrefl,if_false]<;>omega
theorem Zkl {S:Seen} {q:Pt} (h:q∈sks S):(q,((S.find? fun e=>e.1=q).map (·.2)).getD (0,p00))∈S:=by
 obtain ⟨y,hy,hyp⟩:=List.mem_map.1 h;cases hf:S.find? (fun e=>e.1=q) with
 |none=>
  rw[List.find?_eq_none] at hf;have:=hf y hy;simp[hyp] at this
 |some e=>
  have h1:=List.find?_some hf;simp only[decide_eq_true_eq] at h1;have h2:=List.mem_of_find?_eq_some hf;simp only[Option.map_some,Option.getD_some];rw[←h1];exact h2
def Zrc (acts:List Int) (cap:Nat):AV:=if acts=[] then .c (.raw (.slice none 0 0)) else .vw 1 80 0 acts.length cap
def Zrb (acts:List Int) (j:Nat):Ob:=if acts=[] then .none else .box (cI acts j)
def ZeP (e:Pt×Int×Pt):List AV:=[iv e.2.1,iv e.2.2.pl,iv e.2.2.cr,iv e.2.2.a,iv e.2.2.b,iv e.2.2.c,iv e.2.2.d,iv e.2.2.bo]
theorem Zgt (d:Nat):∀(zs:List Int) (j:Nat),AV.prgL d (cI zs j)=cI zs j
 |[],0=>rfl
 |[],j+1=>by
  have:=Zgt d [] j;simp only[cI,List.map_nil,List.nil_append,List.replicate_succ,AV.prgL,AV.prg] at this⊢;rw[this]
 |z::zs,j=>by
  have:=Zgt d zs j;simp only[cI,List.map_cons,List.cons_append,AV.prgL,AV.prg] at this⊢;rw[this]
theorem Zji (L:List Nat) (own:Nat→Ob):∀(zs:List Int) (j:Nat),AV.lendL 1000 L own (cI zs j)=some (cI zs j)
 |[],0=>rfl
 |[],j+1=>by
  have:=Zji L own [] j;simp only[cI,List.map_nil,List.nil_append,List.replicate_succ,AV.lendL,AV.lend] at this⊢;rw[this]
 |z::zs,j=>by
  have:=Zji L own zs j;simp only[cI,List.map_cons,List.cons_append,AV.lendL,AV.lend] at this⊢;rw[this]
theorem Zjg (L:List Nat):∀(zs:List Int) (j:Nat),AV.backL L (cI zs j)=some (cI zs j)
 |[],0=>rfl
 |[],j+1=>by
  have:=Zjg L [] j;simp only[cI,List.map_nil,List.nil_append,List.replicate_succ,AV.backL,AV.back] at this⊢;rw[this]
 |z::zs,j=>by
  have:=Zjg L zs j;simp only[cI,List.map_cons,List.cons_append,AV.backL,AV.back] at this⊢;rw[this]
theorem ZBc (zs:List Int) (j:Nat):cI zs j=(zs.map (CD.int .i64)).map .c++List.replicate j .non:=by simp[cI,Function.comp_def]
theorem Zzj {α:Type}:∀l:List α,grp 1 l.length l=l.map fun x=>[x]
 |[]=>rfl
 |a::l=>by simp[grp,Zzj l]
theorem ZBd (n:Nat) (zs:List Int) (h:zs.length=n):(if n*1≤zs.length then AV.c (CD.sl 1 (grp 1 n (List.take (n*1) (zs.map (CD.int .i64))))) else AV.non)= .c (Zaj zs):=by
 subst h;rw[if_pos (by omega),Nat.mul_one,List.take_of_length_le (by simp)];have:=Zzj (zs.map (CD.int .i64));rw[List.length_map] at this;rw[this,List.map_map];rfl
theorem Zyk:FSpec Tryz.prog 174 [.c (.raw (.slice none 0 0))] (.tup []):=by
 refine Zac Zzi (Nat.le_refl _) (by decide) fun C hP hN hC hL=> ?_;rw[Zad]
 simp only[ZvA];refine vR ?_;refine Zax [] [] (fun k:Unit=>True) (fun _=>0) (fun k=>[(2,iv 0),(3,iv (-1))]) (fun _=>[]) () trivial ?_ ?_
 ·exact Zaz
 ·intro _ _;refine vR ?_;(refine vC ?_ ?_<;>intro h)
  ·simp at h
  ·refine vR ?_;simp only[Zaq,inQ,ZgY,ZcN,Zae,ZaI];simp only[go_sem,ZaH,AV.port,AV.portL,exists_eq_left'];exact AVle.of rfl
set_option maxHeartbeats 8000000 in
set_option maxRecDepth 20000 in
theorem explain59 {b:Bx} (hwb:whB b.wh=true) (hb:BxOk b) {p:List Int} (hp:PurOk b p):Za3 Tryz.prog 155 [.c (.pt b.cds),.c (Zaj p)] (fun r os=>os=[]∧∃acts,r= .tup [.c (Zaj acts),.c (.bool (ZmF b (pur b p)))]):=by
  have hA:=ZqR hb hp;have hcl:=hb.wh.cl;have hpl:=hp.len;refine ZaK ZAT (Nat.le_refl _) (by decide) fun C hP hN hC hL=> ?_;rw[Zad]
  simp only[Zvv,Zaj];refine vR ?_;(refine Zau (put61 hb) ?_;simp only[go_sem,hP,ZaU,ZeS,List.map_cons,List.map_nil,List.length_map];refine vQ ?_;(repeat (refine vV ?_;(try simp only[go_sem,hP,ZaU,ZeS,List.map_cons,List.map_nil,List.length_map]);refine vQ ?_)))
  refine Zax Zql [6] (fun k:Nat=>k≤p.length) (fun k=>p.length -k) (fun k=>[(19,iv k)]) (fun k=>[(6,.box (ZaU (ZgL b p k)))]) 0 (by omega) ?_ ?_
  · rw[Ziy]
    (refine Zai (by simp only[go_sem];((repeat' (first|exact ZaW _ _|refine ZaJ ?_ ?_))<;>((try simp only[ZaT,ZbG,ZbH,Nat.reduceEqDiff,reduceIte]);first|exact AWk.refl _ _|exact AWk.int (by omega)|exact AWk.int (by rw[w64 (by omega) (by omega)];omega)|exact AWk.grow rfl|exact AWk.nil _|exact AWk.of (by simp[ZaU,ZeS])))) (by simp only[go_sem];exact Zaa))
  · intro k hk
    refine vR ?_;(refine vC ?_ ?_<;>intro h)
    · have hi:k<p.length:=by simpa using h
      have g1:=ZaD hi;have hsu:=Znv b p (k:=k) (by omega);have hat:=ZoB b p (k:=k) (j:=k) (by omega);have hb1:0≤(ZgL b p k).getD k 0∧(ZgL b p k).getD k 0≤14∧0≤p.getD k 0∧p.getD k 0≤2:=Zwy hb hp (by omega);have hlen:(ZaU (ZgL b p k)).length=4:=rfl;generalize (ZgL b p k).getD k 0=x at hsu hat hb1;generalize p.getD k 0=y at g1 hsu hb1;generalize ZaU (ZgL b p k)=B at hsu hat hlen;have w1:=w64 (n:=(k:Int)+1) (by omega) (by omega);have w2:=w64 (n:=x+y) (by omega) (by omega);have hk4:(k:Int)<4:=by omega
      have hk5:k<B.length:=by omega
      (repeat (refine vV ?_;(try simp only[go_sem,hP,g1,List.length_map,Int.toNat_natCast,Int.ofNat_lt,hi,Int.natCast_nonneg,w1,w2,hk4,hk5,Nat.mul_one,hat]);refine vQ ?_))
      refine ⟨k+1,by omega,by omega,?_⟩;rw[hsu];exact Zaz
    · have hi:k=p.length:=by simp at h;omega
      subst hi;rw[Zks];clear h hk;have htk:List.take 4 (ZaU (pur b p).l)=ZaU (pur b p).l:=rfl;have hln:(ZaU (pur b p).l).length=4:=rfl;have hpg:∀n,AV.prgL n (ZaU (pur b p).l)=ZaU (pur b p).l:=fun n=>rfl
      (repeat (refine vV ?_;(try simp only[go_sem,hP,htk,hln]);refine vQ ?_))
      refine ZaR (walk62 hwb hA) rfl rfl rfl rfl ?_;rintro _ _ ⟨bm,rfl,rfl⟩;refine ⟨[33],_,_,by simp,rfl,rfl,rfl,rfl,?_⟩;simp only[go_sem,hP,Zab,hpg];refine Zc1 [0,6,9] ?_;simp only[go_sem];refine Ze0 36 (by decide) rfl ?_;simp only[go_sem,hpg];(repeat (refine vV ?_;(try simp only[go_sem,hP,htk,hln]);refine vQ ?_))
      refine Zas [33,36] (ends63 bm) rfl rfl rfl (by decide) rfl rfl ?_;rintro r l' ⟨be,D,rfl,rfl,hD⟩;refine ⟨_,_,rfl,rfl,?_⟩;have hin:=Zof hb.wh hA;have hdl:=hD.ok.len (fun e he=>by have:=(hin.2.1 e he).1.bo;have h5:=hA.m;have h6:=(hin.2.1 e he).1;have h7:=h6.a;have h8:=h6.b;have h9:=h6.c;have h10:=h6.d;simp only[Pt.bag,Bag.many] at this;omega);have hlook:=fun n=>Zha (D:=D) (n:=n)
      have hok:=hD.ok;simp only[go_sem,hP,Zab];refine vR ?_;refine ZaR (ZqH be) rfl rfl rfl rfl ?_;rintro _ _ ⟨rfl,rfl⟩;refine ⟨[38],_,_,by simp,rfl,rfl,rfl,rfl,?_⟩;simp only[go_sem,hP,Zab];refine Zas [38,36] (sorted64 hdl.1 hdl.2 be) rfl rfl rfl (by decide) rfl rfl ?_;rintro r l' ⟨rfl,rfl⟩;refine ⟨_,_,rfl,rfl,?_⟩;have hsr:∀n∈srt (keysD D),(0≤n∧n≤2000)∧∃q,Zel D n=some q∧q∈sks (ZeA b.wh (pur b p)):=fun n hn=>by
        have hn2:=ZhB.1 hn;obtain ⟨q,hq⟩:=hlook n hn2;have h3:=hok.src _ (ZcJ hq);refine ⟨?_,q,hq,h3.2.2⟩;exact hdl.2 _ (ZcJ hq)
      have hhit:=ZrJ hD;have hlk:(srt (keysD D)).length≤2001:=by unfold srt;rw[List.length_mergeSort];simpa [keysD] using hdl.1
      generalize srt (keysD D)=Ls at hsr hhit hlk;generalize hS:ZeA b.wh (pur b p)=S at*;simp only[go_sem,hP,Zab,Zaj,List.length_map];(repeat (refine vV ?_;(try simp only[go_sem,hP,Zaj,List.length_map]);refine vQ ?_))
      refine Zax Zqm [6,33,36,38] (fun k:Nat=>k≤Ls.length∧∀n∈Ls.take k,Zah n b.pl (b.pl+b.sk)=false) (fun k=>Ls.length -k) (fun k=>[(41,iv k)]) (fun _=>[(33,gmap true true (gl S) bm),(36,gmap false true (gl2 D) be)]) 0 ⟨by omega,by simp⟩ ?_ ?_
      · exact Zaz
      rintro k ⟨hk,hno⟩;refine vR ?_;(refine vC ?_ ?_<;>intro h)
      · have hi:k<Ls.length:=by simpa using h
        have g1:=ZaD hi;obtain ⟨n,hn⟩:∃n,n=Ls.getD k 0:=⟨_,rfl⟩;rw[←hn] at g1;have hnm:n∈Ls:=by rw[hn,List.getD_eq_getElem?_getD,List.getElem?_eq_getElem hi];exact List.getElem_mem _
        obtain ⟨hnb,q,hq,hqs⟩:=hsr n hnm;have hpl:=hb.pl;have hsk:=hb.sk;have w1:=w64 (n:=(k:Int)+1) (by omega) (by omega);have w2:=w64 (n:=b.pl+b.sk) (by omega) (by omega);have e6:List.drop 6 b.cds=[.int .i64 b.pl,.int .i64 b.sk]:=rfl;have e7:List.drop 7 b.cds=[.int .i64 b.sk]:=rfl;have e8:b.cds.length=8:=rfl;(repeat (refine vV ?_;(try simp only[go_sem,hP,g1,List.length_map,Int.toNat_natCast,Int.ofNat_lt,hi,Int.natCast_nonneg,e6,e7,e8,w2]);refine vQ ?_))
        (refine Zau (Zfc n b.pl (b.pl+b.sk)) ?_;simp only[go_sem,hP,w2];refine vQ ?_;(repeat (refine vV ?_;(try simp only[go_sem,hP,w2]);refine vQ ?_)))
        cases hwn:Zah n b.pl (b.pl+b.sk) with
        |false=>
          (refine vC ?_ ?_<;>intro h)
          · (repeat (refine vV ?_;(try simp only[go_sem,hP,w1]);refine vQ ?_))
            refine ⟨k+1,⟨by omega,fun m hm=> ?_⟩,by omega,?_⟩
            · rw[List.take_succ_eq_append_getElem hi,List.mem_append,List.mem_singleton] at hm
              rcases hm with hm|hm
              · exact hno m hm
              · have:n=Ls[k]:=by rw[hn,List.getD_eq_getElem?_getD,List.getElem?_eq_getElem hi];rfl
                rw[hm,←this];exact hwn
            · exact Zaz
          · simp at h
        |true=>
          have hflag:ZmF b (pur b p)=true:=by rw[hhit,List.any_eq_true];exact ⟨n,hnm,hwn⟩
          (refine vC ?_ ?_<;>intro h)
          · simp at h
          · refine Zc1 [9,10,12] ?_
            simp only[go_sem];refine vR ?_;have hqp:=hin.2.1 _ (Zkl hqs);refine Zf3 (n:=36) (b:=be) (ka:=false) (va:=true) (l:=gl2 D) (key:=[n]) (zs:=[0,0,0,0,0,0,0]) (k:=3) (e:=187) (by kernel_rfl) Zkh (by kernel_rfl) rfl rfl rfl rfl rfl rfl rfl ⟨_,rfl⟩ (Ze2 D) (Zhh D _) ?_;rw[ZfI,hq,Option.map_some,Option.getD_some];simp only[go_sem,hP];refine Zf3 (n:=33) (b:=bm) (ka:=true) (va:=true) (l:=gl S) (key:=q.l) (zs:=[0,0,0,0,0,0,0,0]) (k:=187) (e:=223) (by kernel_rfl) Znu (by kernel_rfl) rfl rfl rfl rfl rfl rfl rfl (hqp.1.key hA hb.wh.ro.2) (ZfH hA hb.wh.ro.2 fun e he=>(hin.2.1 e he).1) (fun p _ h=>Zdp h) ?_;obtain ⟨pre,e,post,hpre,hgl⟩:=Zpi hqs;rw[hgl,Option.getD_some];simp only[go_sem,hP,kav,if_true,Pt.l,List.map_cons,List.map_nil];refine vR ?_;refine Zax Zqn [14,80] (fun i:List Int×Nat×Nat×Seen×(Pt×Int×Pt)×Seen=>S=i.2.2.2.1++i.2.2.2.2.1::i.2.2.2.2.2∧i.1.length+i.2.2.2.1.length≤S.length∧(i.1≠[]→i.1.length≤i.2.1∧i.2.1≤maxLen∧i.2.1≤i.1.length+i.2.2.1)) (fun i=>i.2.2.2.1.length)
              (fun i=>[(14,.bp 14 0),(13,Zrc i.1 i.2.1)]) (fun i=>[(14,.box (ZeP i.2.2.2.2.1)),(80,Zrb i.1 i.2.2.1)]) ([],0,0,pre,e,post) ⟨hpre,by rw[hpre];simp,by simp⟩ ?_ ?_
            · (refine Zai (by simp only[go_sem];((repeat' (first|exact ZaW _ _|refine ZaJ ?_ ?_))<;>((try simp only[ZaT,ZbG,ZbH,Nat.reduceEqDiff,reduceIte]);first|exact AWk.refl _ _|exact AWk.int (by omega)|exact AWk.int (by rw[w64 (by omega) (by omega)];omega)|exact AWk.grow rfl|exact AWk.nil _|exact AWk.of (by simp[Zrc,Zrb,ZeP])))) (by simp only[go_sem];exact Zaa))
            rintro ⟨acts,cap,j,pre1,⟨e1,act,x⟩,post1⟩ ⟨hs1,hlen,hcap⟩;simp only at hs1 hlen hcap;simp only[ZeP];refine vR ?_;(refine vC ?_ ?_<;>intro h)
            · have hne:act≠-2:=by simpa using h
              have hx:x∈sks pre1:=by
                rcases hin.1 pre1 _ post1 hs1 with h5|h5
                · exact absurd h5 hne
                · exact h5
              have hln1 : acts.length + 1 ≤ 238291875000 := by have := hin.2.2; have h6 : 0 < pre1.length := by cases pre1 with | nil => cases hx | cons a l => simp
                                                               omega
              (refine Zcb ?_;simp only[go_sem])
              refine ZaG (ZlW (R:=fun σ'=>∃cap' j',(acts.length+1≤cap'∧cap'≤maxLen∧cap'≤acts.length+1+j')∧Sub σ' ⟨upd (upd (upd e0 9 (.c (.raw (.map (some bm))))) 14 (.bp 14 0)) 13 (.vw 1 80 0 (acts.length+1) cap'),upd (upd (upd (upd o0 33 (gmap true true (gl S) bm)) 36 (gmap false true (gl2 D) be)) 14 (.box (ZeP (e1,act,x)))) 80 (.box (cI (acts++[act]) j'))⟩) ?_ (Zcs ?_))
              · rintro σ' ⟨cap',j',hcp,hsub⟩
                refine ZaL hsub ?_;simp only[ZeP];refine ZaG (ZaG ?_);(refine ZcH ?_;simp only[go_sem,hP];refine vQ ?_)
                refine ZlU 14 ?_;refine vR ?_;obtain ⟨pre2,e2,post2,hs2,hlt2,hgl2⟩:=Zpj hs1 hx;have hxp:=hin.2.1 _ (Zkl (by rw[hs1];simp only[sks,List.map_append,List.mem_append];exact .inl hx));refine Zf3 (n:=33) (b:=bm) (ka:=true) (va:=true) (l:=gl S) (key:=x.l) (zs:=[0,0,0,0,0,0,0,0]) (k:=187) (e:=223) (by kernel_rfl) Znu (by kernel_rfl) rfl rfl rfl rfl rfl rfl rfl (hxp.1.key hA hb.wh.ro.2) (ZfH hA hb.wh.ro.2 fun e he=>(hin.2.1 e he).1) (fun p _ h=>Zdp h) ?_;rw[hgl2,Option.getD_some];simp only[go_sem,hP,kav,if_true,Pt.l,List.map_cons,List.map_nil];refine vR ?_;have hne2:acts++[act]≠[]:=by simp
                refine ⟨(acts++[act],cap',j',pre2,e2,post2),⟨hs2,by simp only[List.length_append,List.length_cons,List.length_nil];omega,fun _=>by simpa using hcp⟩,hlt2,?_⟩;simp only[Zrc,Zrb,if_neg hne2,ZeP,List.length_append,List.length_cons,List.length_nil,Nat.zero_add];rw[Zgt];exact Zaz
              · by_cases hnil:acts=[]
                · subst hnil
                  simp only[Zrc,Zrb,if_true,List.nil_append,List.length_nil,Nat.zero_add];(refine ZdS 4 ?_;simp only[List.take_succ_cons,List.take_zero,List.take_nil,List.drop_succ_cons,List.drop_zero,List.drop_nil];simp only[go_sem,hP];refine vQ ?_)
                  (refine Zdn ?_;simp only[go_sem,hP];refine vQ ?_)
                  refine ⟨by decide,fun cap' j' q1 q2 q3=>⟨cap',j',⟨q1,q2,by omega⟩,?_⟩⟩;rw[show AV.prgL 80 (List.map AV.c [[CD.int .i64 act]].flatten++List.replicate j' .non)=cI [act] j' from Zgt 80 [act] j'];(refine Zai (by simp only[go_sem];((repeat' (first|exact ZaW _ _|refine ZaJ ?_ ?_))<;>((try simp only[ZaT,ZbG,ZbH,Nat.reduceEqDiff,reduceIte]);first|exact AWk.refl _ _|exact AWk.int (by omega)|exact AWk.int (by rw[w64 (by omega) (by omega)];omega)|exact AWk.grow rfl|exact AWk.nil _|exact AWk.of (by simp[ZeP])))) (by simp only[go_sem];exact Zaa))
                · simp only[Zrc,Zrb,if_neg hnil]
                  have hl1:=Zux acts j;have htk1:(cI acts j).take (acts.length*1)=acts.map fun n=> .c (.int .i64 n):=by unfold cI;rw[Nat.mul_one,List.take_left' (by simp)]
                  have hpg2:=fun d=>Zgt d acts j
                  obtain ⟨c1,c2,c3⟩:=hcap hnil;(refine ZdS 4 ?_;simp only[List.take_succ_cons,List.take_zero,List.take_nil,List.drop_succ_cons,List.drop_zero,List.drop_nil];simp only[go_sem,hP];refine vQ ?_)
                  (refine Zdn ?_;simp only[go_sem,hP,hl1,htk1,hpg2];refine vQ ?_)
                  have hmax:maxLen=9223372036854775807:=rfl;refine ⟨by omega,by omega,fun cap' j' q1 q2 q3=>⟨cap',j',⟨q1,q2,by omega⟩,?_⟩⟩;have hcI:(acts.map fun n=>AV.c (.int .i64 n))++List.map AV.c [[CD.int .i64 act]].flatten++List.replicate j' .non=cI (acts++[act]) j':=by simp[cI]
                  rw[hcI,Zgt];(refine Zai (by simp only[go_sem];((repeat' (first|exact ZaW _ _|refine ZaJ ?_ ?_))<;>((try simp only[ZaT,ZbG,ZbH,Nat.reduceEqDiff,reduceIte]);first|exact AWk.refl _ _|exact AWk.int (by omega)|exact AWk.int (by rw[w64 (by omega) (by omega)];omega)|exact AWk.grow rfl|exact AWk.nil _|exact AWk.of (by simp[ZeP])))) (by simp only[go_sem];exact Zaa))
            · rw[hflag]
              by_cases hnil:acts=[]
              · simp only[Zrc,Zrb,if_pos hnil]
                refine vR ?_;(refine Zau (Zyk) ?_;simp only[go_sem,hP];refine vQ ?_;refine vR ?_)
                (refine Zak ?_;simp only[Zaq,inQ,Zbe,ZaP,Zae,ZaI];simp only[go_sem,ZaH])
                refine ⟨[],_,.tup [.c (Zaj []),.c (.bool true)],[],by simp,by simp,rfl,AVle.tup ?_,rfl,rfl,[],rfl⟩;exact ⟨_,_,rfl,AVle.nil 1,_,_,rfl,AVle.refl _,rfl⟩
              · simp only[Zrc,Zrb,if_neg hnil]
                have hle:=fun L own=>Zji L own acts j
                have hba:=fun L=>Zjg L acts.reverse j
                refine vR ?_;refine Zas [80] (ZnJ acts j cap) rfl rfl rfl (by decide) rfl (by simp only[go_sem,ZaA,Ob.lend,hle]) ?_;rintro r l' ⟨rfl,rfl⟩;refine ⟨_,_,rfl,(by simp only[Zay,Ob.back,hba];rfl),?_⟩;simp only[go_sem,hP,Zab];refine Zef 80 (ds:=acts.reverse.map (CD.int .i64)) (junk:=List.replicate j .non) (show Ob.box (cI acts.reverse j)=_ by rw[ZBc]) ?_;simp only[go_sem,hP];rw[ZBd acts.length acts.reverse (List.length_reverse ..)];refine vR ?_;(refine Zak ?_;simp only[Zaq,inQ,Zbe,ZaP,Zae,ZaI];simp only[go_sem,ZaH])
                refine ⟨[],_,_,[],by simp,by simp,rfl,AVle.refl _,rfl,rfl,acts.reverse,rfl⟩
      · have hi:k=Ls.length:=by simp at h;omega
        subst hi;have hflag:ZmF b (pur b p)=false:=by
          rw[hhit,List.any_eq_false];intro n hn;rw[hno n (by rw[List.take_length];exact hn)];simp
        rw[hflag];refine vR ?_;(refine Zak ?_;simp only[Zaq,inQ,Zbe,ZaP,Zae,ZaI];simp only[go_sem,ZaH])
        refine ⟨[],_,.tup [.c (Zaj []),.c (.bool false)],[],by simp,by simp,rfl,AVle.tup ?_,rfl,rfl,[],rfl⟩;exact ⟨_,_,rfl,AVle.nil 1,_,_,rfl,AVle.refl _,rfl⟩
abbrev Zwe:List Ins:=[JSl 6 1,JSn 7 6,JSk 8 .gtr 7 0,JSm 9 8,JH 10 (Jl 2) 9 true,JH 11 (Jm 0) 9 true,JH 12 (Jc 78 [.t 10,.t 11]) 9 true,JH 13 (Jl 2) 9 true,JH 14 (Jl 1) 9 true,JH 15 (.ia 2 (.t 14) (.k (Jz 0))) 9 true,JH 16 (Jf 0 15) 9 true,JH 17 (Jl 16) 9 true,JTc 18 78 [.t 13,.t 17] 9,JTb 19 .gtr 12 18 9,JSp 20 9 19]
abbrev Zwf:List Ins:=[JSl 29 1,JSn 30 29,JSk 31 .gtr 30 0,JSm 32 31,JH 33 (Jl 2) 32 true,JH 34 (Jm 0) 32 true,JH 35 (Jc 78 [.t 33,.t 34]) 32 true,JH 36 (Jl 2) 32 true,JH 37 (Jl 1) 32 true,JH 38 (.ia 2 (.t 37) (.k (Jz 0))) 32 true,JH 39 (Jf 0 38) 32 true,JH 40 (Jl 39) 32 true,JTc 41 78 [.t 36,.t 40] 32,JTb 42 .lss 35 41 32,JSp 43 32 42]
abbrev Zm3:List Ins:=[JSl 44 1,JSm 45 0,JSm 46 4,JS 47 (.bld [J0,J0] [(0,1,(.t 45)),(1,1,(.t 46))]),JS 48 (.bsl 141 2 [.t 47]),JS 49 (.app 141 2 48 (.t 44) (.t 48)),JUs 1 1 49]
def Zvu:FC:=⟨3,50,[],(.seq (.seq (.dops Zwe) (.cond (.t 20) .ret .skip)) (.seq (.ops [JSl 22 2,JSm 23 0,JSc 24 155 [.t 22,.t 23],JSm 21 24,JSe 25 21 0,JSe 26 21 1,JSm 4 25,JSm 5 26]) (.seq (.seq (.ops [JSm 27 5,JS 28 (.un .not (.t 27))]) (.cond (.t 28) .ret .skip)) (.seq (.seq (.dops Zwf) (.cond (.t 43) (.ops [JN (.st 1 (.t 1) (.k J0))]) .skip)) (.ops Zm3)))))⟩
theorem ZAS:Zao Tryz.prog [] 154=some Zvu:=by kernel_rfl
abbrev Gaps:=List (List Int×List Int)
def Zx7 (g:List Int×List Int):List CD:=[Zaj g.1,Zaj g.2]
def gapsC (G:Gaps):List (List CD):=G.map Zx7
theorem Zc9 (G:Gaps):(gapsC G).length=G.length:=List.length_map _
theorem ZfG (G:Gaps):((gapsC G).all fun e=>e.length==2)=true:=by
 rw[List.all_eq_true];intro e he;obtain ⟨n,_,rfl⟩:=List.mem_map.1 he;rfl
theorem Zk9 (G:Gaps) (g:List Int×List Int):gapsC (G++[g])=gapsC G++[[Zaj g.1,Zaj g.2]]:=by simp[gapsC,Zx7]
def Zge (b:Bx) (F:List (List Int)) (p:List Int):List (List Int):=
 if decide (0<F.length)&&decide (Zbq b.wh (F.getD 0 [])<Zbq b.wh p) then F
 else if ZmF b (pur b p) then (if decide (0<F.length)&&decide (Zbq b.wh p<Zbq b.wh (F.getD 0 [])) then [p] else F++[p]) else F
def gpur (G:Gaps):List (List Int):=G.map (·.1)
theorem ZmD (G:Gaps) (g:List Int×List Int):gpur (G++[g])=gpur G++[g.1]:=by simp[gpur]
theorem ZsG {b:Bx} {p:List Int} (hp:PurOk b p):∀n∈p,0≤n∧n≤14:=fun n hn=>by
 have h1:=hp.nn n hn;have h2:n≤p.sum:=by
  have key:∀l:List Int,(∀x∈l,0≤x)→∀n∈l,n≤l.sum∧0≤l.sum:=by
   intro l;induction l with
   |nil=>intro _ n hn;cases hn
   |cons a l ih=>
    intro h n hn;have h0:0≤l.sum:=by
     cases l with
     |nil=>simp
     |cons c l=>exact (ih (fun x hx=>h x (by simp[hx])) c (by simp)).2
    have ha:=h a (by simp);simp only[List.sum_cons];rcases List.mem_cons.1 hn with rfl|hn
    ·omega
    ·have:=(ih (fun x hx=>h x (by simp[hx])) n hn).1;omega
  exact (key p hp.nn n hn).1
 have:=hp.sum;omega
structure GapsOk (b:Bx) (G:Gaps):Prop where
 ok:∀g∈G,PurOk b g.1
 len:G.length≤100000
theorem ZoS {env:Nat→AV} {own:Nat→Ob} (n:Nat):Sub ⟨env,own⟩ ⟨env,upd own n .none⟩:=Zai (fun s=>AWk.refl _ _) (fun m=>by
 show upd own n .none m=own m∨upd own n .none m= .none;rw[ZaT];split
 ·exact .inr rfl
 ·exact .inl rfl)
set_option maxHeartbeats 8000000 in
set_option maxRecDepth 20000 in
theorem found58 {b:Bx} (hwb:whB b.wh=true) (hb:BxOk b) {p:List Int} (hp:PurOk b p) {G:Gaps} (hG:GapsOk b G):ZaE Tryz.prog 154 [.c (Zaj p),.bp 1000 0,.bp 1001 0] [.box [.gr 1002],.box [.c (.pt b.cds)],.grow 141 2 (gapsC G)] []
  (fun r l'=>r= .tup []∧∃G',gpur G'=Zge b (gpur G) p∧l'=[.box [.gr 1002],.box [.c (.pt b.cds)],.grow 141 2 (gapsC G')]):=by
 have hmax:maxLen=9223372036854775807:=rfl;have hGl:=hG.len;have hwp:=worth25 hb.wh hp.len (ZsG hp);have hex:=explain59 hwb hb hp;obtain ⟨Post,hPost⟩:∃Post:AV→List Ob→Prop,Post=fun r l'=>r= .tup []∧∃G',gpur G'=Zge b (gpur G) p∧l'=[.box [.gr 1002],.box [.c (.pt b.cds)],.grow 141 2 (gapsC G')]:=⟨_,rfl⟩
 rw[←hPost];have hfn:∀G',gpur G'=Zge b (gpur G) p→Post (.tup []) [.box [.gr 1002],.box [.c (.pt b.cds)],.grow 141 2 (gapsC G')]:=fun G' h=>by rw[hPost];exact ⟨rfl,G',h,rfl⟩
 clear hPost;refine ZcD ZAS (by first|simp|exact Nat.le_of_ble_eq_true rfl) (Nat.le_refl _) (by decide) (by decide) fun C hP hN hC hpin hL=> ?_;rw[Zap,Zaw (by first|simp|exact Nat.le_of_ble_eq_true rfl)];simp only[Zvu,Zco,Za1,List.map_nil,List.map_cons,Nat.reduceAdd,]
 -- one gap more
 have app:∀acts,gpur (G++[(p,acts)])=Zge b (gpur G) p→WV C (.ops Zm3) (ZaB [] [.box [.gr 1002],.box [.c (.pt b.cds)],.grow 141 2 (gapsC G)] [] Post) ⟨upd (upd (upd e0 4 (.c (Zaj acts))) 1 (.bp 1000 0)) 0 (.c (Zaj p)),upd (upd (upd o0 1000 (.box [.gr 1002])) 1001 (.box [.c (.pt b.cds)])) 1002 (.grow 141 2 (gapsC G))⟩:=fun acts hg=>by
  have n1:=Zc9 G;have n2:=ZfG G;have n3:=Zk9 G (p,acts);have hpa:=hfn _ hg;refine Zg0 ?_;(repeat (refine vV ?_;(try simp only[go_sem,hP,n1,n2]);refine vQ ?_))
  refine ⟨_,fun a w hg=>ZdP (d:=49) (n:=1002) (by decide) (fun hq=>by have h2:false=true:=hpin 1002 hq;cases h2) rfl hg,?_⟩;unfold rnO;simp only[go_sem,rnP_upd,rnE_upd,rnE_e0,rnP_o0,AV.rn,AV.rnL,Ob.rn];rw[←n3];((try simp only[Zaq,inQ,ZaB,Zar,Zae,ZaI]);(try simp only[go_sem,ZaH,AV.keepP,AV.keepPL]);refine ⟨_,[.box [.gr 1002],.box [.c (.pt b.cds)],.grow 141 2 (gapsC (G++[(p,acts)]))],rfl,Zag rfl rfl ?_ ?_ rfl,?_⟩)
  ·simp only[go_sem,Zal,Ob.keepP,AV.keepP,AV.keepPL]
  ·trivial
  ·exact hpa
 have one:∀acts,gpur [(p,acts)]=Zge b (gpur G) p→WV C (.ops Zm3) (ZaB [] [.box [.gr 1002],.box [.c (.pt b.cds)],.grow 141 2 (gapsC G)] [] Post) ⟨upd (upd (upd e0 4 (.c (Zaj acts))) 1 (.bp 1000 0)) 0 (.c (Zaj p)),upd (upd (upd o0 1000 (.box [.c (.raw (.slice none 0 0))])) 1001 (.box [.c (.pt b.cds)])) 1002 (.grow 141 2 (gapsC G))⟩:=fun acts hg=>by
  have hpa:=hfn _ hg;refine Zg0 ?_;refine vR ?_;refine ⟨_,fun a w hg=>ZdP (d:=49) (n:=1002) (by decide) (fun hq=>by have h2:false=true:=hpin 1002 hq;cases h2) rfl (ZoS 1002 C a w hg),?_⟩;unfold rnO;simp only[go_sem,rnP_upd,rnE_upd,rnE_e0,rnP_o0,AV.rn,AV.rnL,Ob.rn];((try simp only[Zaq,inQ,ZaB,Zar,Zae,ZaI]);(try simp only[go_sem,ZaH,AV.keepP,AV.keepPL]);refine ⟨_,[.box [.gr 1002],.box [.c (.pt b.cds)],.grow 141 2 (gapsC [(p,acts)])],rfl,Zag rfl rfl ?_ ?_ rfl,?_⟩)
  ·simp only[go_sem,Zal,Ob.keepP,AV.keepP,AV.keepPL,gapsC,Zx7,List.map_cons,List.map_nil]
  ·trivial
  ·exact hpa
 cases G with
 |nil=>
  have e0:gapsC []=[]:=rfl;have d0:decide ((0:Int)<((0:Nat):Int))=false:=rfl;have hfn1:∀a,ZmF b (pur b p)=true→gpur ([]++[(p,a)])=Zge b (gpur []) p:=fun a h=>by simp[gpur,Zge,h]
  have hfn0:ZmF b (pur b p)=false→gpur []=Zge b (gpur []) p:=fun h=>by simp[gpur,Zge,h]
  rw[e0] at app⊢;refine vW d0 ?_;refine Zfe (iv 0) rfl ?_;simp only[go_sem,hP,d0];refine vW d0 ?_;(refine ZaC ?_;simp only[go_sem,hP,d0];refine vQ ?_;refine vW d0 ?_)
  refine Zc1 [0,1,2,20] ?_;simp only[go_sem];(refine vC ?_ ?_<;>intro h)
  ·simp at h
  refine vW d0 ?_;refine ZaR hex rfl rfl rfl rfl ?_;rintro _ _ ⟨rfl,acts,rfl⟩;refine ⟨[],_,_,by simp,rfl,rfl,rfl,rfl,?_⟩;simp only[go_sem,hP,Zab];have hap:=app acts;generalize ZmF b (pur b p)=hit at hfn1 hfn0;cases hit with
  |false=>
   have h0:=hfn [] (hfn0 rfl);refine vW d0 ?_;(refine vC ?_ ?_<;>intro h)
   ·(refine Zak ?_;simp only[Zaq,inQ,ZaB,Zar,Zae,ZaI];simp only[go_sem,ZaH,AV.keepP,AV.keepPL];refine ⟨_,[.box [.gr 1002],.box [.c (.pt b.cds)],.grow 141 2 []],rfl,Zag rfl rfl ?_ ?_ rfl,?_⟩)
    ·simp only[go_sem,Zal,Ob.keepP,AV.keepP,AV.keepPL]
    ·trivial
    ·exact h0
   ·simp at h
  |true=>
   have h0:=app acts (hfn1 acts rfl);refine vW d0 ?_;(refine vC ?_ ?_<;>intro h)
   ·simp at h
   refine vW d0 ?_;refine Zfe (iv 0) rfl ?_;simp only[go_sem,hP,d0];refine vW d0 ?_;(refine ZaC ?_;simp only[go_sem,hP,d0];refine vQ ?_;refine vW d0 ?_)
   (refine vC ?_ ?_<;>intro h)
   ·simp at h
   ·refine Zcb ?_;simp only[go_sem,d0];exact Zc1 [0,1,4] h0
 |cons g0 G0=>
  obtain ⟨p0,a0,hp0,hg0,hgp,hl0⟩:∃p0 a0,PurOk b p0∧(gapsC (g0::G0)).getD 0 []=[Zaj p0,Zaj a0]∧(gpur (g0::G0)).getD 0 []=p0∧0<(gpur (g0::G0)).length:=⟨g0.1,g0.2,hG.ok _ (by simp),rfl,rfl,by simp[gpur]⟩;have d1:decide ((0:Int)<(((g0::G0).length:Nat):Int))=true:=by simp
  generalize g0::G0=G at*;have n1:=Zc9 G;have n2:=ZfG G;have hnp:0<G.length:=by simpa [gpur] using hl0
  have hf:Zge b (gpur G) p=if decide (Zbq b.wh p0<Zbq b.wh p) then gpur G else if ZmF b (pur b p) then (if decide (Zbq b.wh p<Zbq b.wh p0) then [p] else gpur G++[p]) else gpur G:=by
   unfold Zge;rw[hgp,decide_eq_true hl0,Bool.true_and,Bool.true_and]
  have hw0:=worth25 hb.wh hp0.len (ZsG hp0);rw[hf] at hfn app one;(repeat (refine vV ?_;(try simp only[go_sem,hP,n1,d1]);refine vQ ?_))
  (refine ZhI (fun hG=>hwp) rfl (fun hG=>by simp only[go_sem,hG]) rfl rfl rfl ?_;simp only[go_sem,hP,n1,n2,d1,hg0,Int.toNat_zero,hnp];refine vQ ?_;(repeat (refine vV ?_;(try simp only[go_sem,hP,n1,n2,d1,hg0,Int.toNat_zero,hnp]);refine vQ ?_)))
  (refine Za9 (fun hG=>hw0) ?_;simp only[go_sem,hP,n1,n2,d1];refine vQ ?_;(repeat (refine vV ?_;(try simp only[go_sem,hP,n1,n2,d1]);refine vQ ?_)))
  refine Zc1 [0,1,2,20] ?_;simp only[go_sem];by_cases hgt:Zbq b.wh p0<Zbq b.wh p
  ·have h0:=hfn G (by rw[decide_eq_true hgt,if_pos rfl]);(refine vC ?_ ?_<;>intro h)
   ·(refine Zak ?_;simp only[Zaq,inQ,ZaB,Zar,Zae,ZaI];simp only[go_sem,ZaH,AV.keepP,AV.keepPL];refine ⟨_,[.box [.gr 1002],.box [.c (.pt b.cds)],.grow 141 2 (gapsC G)],rfl,Zag rfl rfl ?_ ?_ rfl,?_⟩)
    ·simp only[go_sem,Zal,Ob.keepP,AV.keepP,AV.keepPL]
    ·trivial
    ·exact h0
   ·simp[hgt] at h
  rw[decide_eq_false hgt,if_neg (by decide)] at hfn app one;(refine vC ?_ ?_<;>intro h)
  ·simp[hgt] at h
  (repeat (refine vV ?_;(try simp only[go_sem,hP,n1,d1]);refine vQ ?_))
  refine ZaR hex rfl rfl rfl rfl ?_;rintro _ _ ⟨rfl,acts,rfl⟩;refine ⟨[],_,_,by simp,rfl,rfl,rfl,rfl,?_⟩;simp only[go_sem,hP,Zab];have hap:=app acts;have hon:=one acts;generalize ZmF b (pur b p)=hit at hfn hap hon;cases hit with
  |false=>
   have h0:=hfn G rfl;(repeat (refine vV ?_;(try simp only[go_sem,hP,n1,d1]);refine vQ ?_))
   (refine vC ?_ ?_<;>intro h)
   ·(refine Zak ?_;simp only[Zaq,inQ,ZaB,Zar,Zae,ZaI];simp only[go_sem,ZaH,AV.keepP,AV.keepPL];refine ⟨_,[.box [.gr 1002],.box [.c (.pt b.cds)],.grow 141 2 (gapsC G)],rfl,Zag rfl rfl ?_ ?_ rfl,?_⟩)
    ·simp only[go_sem,Zal,Ob.keepP,AV.keepP,AV.keepPL]
    ·trivial
    ·exact h0
   ·simp at h
  |true=>
   rw[if_pos rfl] at hap hon;(repeat (refine vV ?_;(try simp only[go_sem,hP,n1,d1]);refine vQ ?_))
   (refine vC ?_ ?_<;>intro h)
   ·simp at h
   (repeat (refine vV ?_;(try simp only[go_sem,hP,n1,d1]);refine vQ ?_))
   (refine ZhI (fun hG=>hwp) rfl (fun hG=>by simp only[go_sem,hG]) rfl rfl rfl ?_;simp only[go_sem,hP,n1,n2,d1,hg0,Int.toNat_zero,hnp];refine vQ ?_;(repeat (refine vV ?_;(try simp only[go_sem,hP,n1,n2,d1,hg0,Int.toNat_zero,hnp]);refine vQ ?_)))
   (refine Za9 (fun hG=>hw0) ?_;simp only[go_sem,hP,n1,n2,d1];refine vQ ?_;(repeat (refine vV ?_;(try simp only[go_sem,hP,n1,n2,d1]);refine vQ ?_)))
   by_cases hlt:Zbq b.wh p<Zbq b.wh p0
   ·rw[decide_eq_true hlt,if_pos rfl] at hon;(refine vC ?_ ?_<;>intro h)
    ·(refine ZcH ?_;simp only[go_sem,hP];refine vQ ?_)
     refine ZaL ?_ (hon rfl);exact Zaz
    ·simp[hlt] at h
   ·rw[decide_eq_false hlt,if_neg (by decide)] at hap;(refine vC ?_ ?_<;>intro h)
    ·simp[hlt] at h
    ·refine Zcb ?_;simp only[go_sem,n1];exact Zc1 [0,1,4] (hap (ZmD G (p,acts)))
end Go.Proofs.YtcggfogkfhlmlaaGreatDoor
namespace Go.Proofs.YtcggfogkfhlmlaaGreatDoor
open Go Go.V
namespace E9
abbrev Zil:List Ins:=[JS 2 (.mv (.k J0))]
abbrev Zim:List Ins:=[JSm 3 0,JS 4 (.nils false (.t 3))]
abbrev Zin:List Ins:=[JS 2 (.mv (.k J0))]
abbrev ZiU:VC:=(.seq (.ops Zin) .ret)
abbrev ZiV:VC:=(.cond (.t 4) ZiU .skip)
abbrev Zio:List Ins:=[JS 5 (.bsl 3 1 []),JSm 6 0,JS 7 (.app 3 1 8 (.t 5) (.t 6)),JSm 2 7]
abbrev ZiW:VC:=(.seq (.ops Zio) .ret)
abbrev ZiX:VC:=(.seq (.seq (.ops Zim) ZiV) ZiW)
def ir124:FC:=⟨1,8,[.t 2],(.seq (.ops Zil) ZiX)⟩
theorem c124:Zao Tryz.prog [] 124=some ir124:=by kernel_rfl
attribute [local go_sem] Nat.reduceEqDiff Nat.reduceAdd Nat.reduceMul reduceIte Nat.reduceLeDiff Nat.reduceLT Nat.reduceBEq reduceCtorEq
end E9
end Go.Proofs.YtcggfogkfhlmlaaGreatDoor
namespace Go.Proofs.YtcggfogkfhlmlaaGreatDoor
open Go Go.V E9
-- Zqk: changed and kept: [24]
abbrev Zqk:List Nat:=[0,1,2,3,23]
abbrev ZtD:VC:=(.loop (.seq (.ops [JSb 25 .lss 24 23]) (.seq (.cond (.t 25) .skip (.exit 0)) (.seq (.block 1 (.seq (.ops [JSm 26 24,JSm 8 26]) (.ops [JSm 27 0,JSm 28 1,JSc 29 124 [.t 28],JSm 30 8,JS 31 (.bsl 3 1 [.t 30]),JS 32 (.app 3 1 8 (.t 29) (.t 31)),JSm 33 2,JSm 34 8,JSb 35 .sub 33 34,JSm 36 3,JSc 37 153 [.t 27,.t 32,.t 35,.t 36]]))) (.ops [JSk 38 .add 24 1,JSm 24 38])))))
def ZrQ:FC:=⟨4,39,[],(.seq (.seq (.ops [JSm 9 1,JSn 10 9,JSm 11 0,JS 12 (.nilc (.t 11)),JSf 13 0 12,JSf 14 0 13,JSf 15 2 14,JSl 16 15,JSn 17 16,JSb 18 .eql 10 17]) (.cond (.t 18) (.seq (.ops [JSm 19 3,JSm 20 1,JS 21 (.call (.t 19) [.t 20])]) .ret) .skip)) (.seq (.ops [JSm 22 2,JSk 23 .add 22 1,JSi 24 0]) (.block 0 ZtD)))⟩
theorem Zzg:Zao Tryz.prog [] 153=some ZrQ:=by kernel_rfl
attribute [local go_sem] Nat.reduceEqDiff Nat.reduceAdd Nat.reduceMul reduceIte Nat.reduceLeDiff Nat.reduceLT Nat.reduceBEq reduceCtorEq
def ZdI:Nat→List Int→Nat→List (List Int)
 |0,p,_=>[p]
 |m+1,p,lf=>(List.range (lf+1)).flatMap fun (n:Nat)=>ZdI m (p++[(n:Int)]) (lf -n)
theorem ZoV (b:Bx) (F:List (List Int)) (p:List Int):(Zge b F p).length≤F.length+1:=by
 unfold Zge;split
 ·omega
 ·split
  ·split<;>simp
  ·omega
theorem ZoW {b:Bx} {F:List (List Int)} {p q:List Int} (h:q∈Zge b F p):q∈F∨q=p:=by
 unfold Zge at h;split at h
 ·exact .inl h
 ·split at h
  ·split at h
   ·exact .inr (by simpa using h)
   ·rcases List.mem_append.1 h with h|h
    ·exact .inl h
    ·exact .inr (by simpa using h)
  ·exact .inl h
theorem Zj4 (b:Bx):∀(l:List (List Int)) (F:List (List Int)),(l.foldl (Zge b) F).length≤F.length+l.length
 |[],F=>Nat.le_refl _
 |p::l,F=>by
  have h1:=Zj4 b l (Zge b F p);have h2:=ZoV b F p;simp only[List.foldl_cons,List.length_cons];omega
theorem Zhe {b:Bx}:∀{l:List (List Int)} {F:List (List Int)} {q:List Int},q∈l.foldl (Zge b) F→q∈F∨q∈l
 |[],F,q,h=> .inl h
 |p::l,F,q,h=>by
  rcases Zhe (l:=l) h with h|h
  ·rcases ZoW h with h|rfl
   ·exact .inl h
   ·exact .inr (by simp)
  ·exact .inr (by simp[h])
theorem Zhq {b:Bx}:∀(m:Nat) (p:List Int) (lf:Nat),p.length+m=b.wh.co.length→(∀n∈p,0≤n)→p.sum+lf≤2→∀q∈ZdI m p lf,PurOk b q
 |0,p,lf,h1,h2,h3,q,hq=>by
  simp only[ZdI,List.mem_singleton] at hq;subst hq;exact ⟨by omega,h2,by omega⟩
 |m+1,p,lf,h1,h2,h3,q,hq=>by
  simp only[ZdI,List.mem_flatMap,List.mem_range] at hq;obtain ⟨n,hn,hq⟩:=hq;refine Zhq m _ _ (by simp;omega) (fun x hx=> ?_) ?_ q hq
  ·rcases List.mem_append.1 hx with h|h
   ·exact h2 x h
   ·simp only[List.mem_singleton] at h;omega
  ·simp;omega
def ZeZ (m:Nat) (p:List Int) (lf k:Nat):List (List Int):=(List.range k).flatMap fun (n:Nat)=>ZdI m (p++[(n:Int)]) (lf -n)
theorem Zdt (m:Nat) (p:List Int) (lf k:Nat):ZeZ m p lf (k+1)=ZeZ m p lf k++ZdI m (p++[(k:Int)]) (lf -k):=by simp[ZeZ,List.range_succ]
theorem Zku (m:Nat) (p:List Int) (lf:Nat):∀k j:Nat,(ZeZ m p lf k).length≤(ZeZ m p lf (k+j)).length
 |k,0=>Nat.le_refl _
 |k,j+1=>by
  have:=Zku m p lf k j;rw[←Nat.add_assoc,Zdt,List.length_append];omega
theorem ZuC (p:List Int) (hlen:p.length≤1000):Za3 Tryz.prog 124 [.c (Zaj p)] (fun r os=>r= .gr 1000∧os=[.grow 3 1 (i1s p)]):=by
 have hmax:maxLen=9223372036854775807:=rfl;refine ZaK c124 (Nat.le_refl _) (by decide) fun C hP hN hC hL=> ?_;rw[Zad]
 simp only[ir124,Zaj];cases p with
 |nil=>
  refine vR ?_;intro b;refine vR ?_;(refine vC ?_ ?_<;>intro h)
  ·refine ZaG ?_;(refine ZcH ?_;simp only[go_sem,hP];refine vQ ?_)
   refine Zby 2 7 3 1 (by decide) (by decide) rfl rfl ?_;simp only[go_sem];(refine Zak ?_;simp only[Zaq,inQ,Zbe,ZaP,Zae,ZaI];simp only[go_sem,ZaH])
   exact ⟨[7],_,_,_,by simp,by simp,rfl,AVle.refl _,rfl,rfl,rfl⟩
  ·refine vR ?_;(refine Zak ?_;simp only[Zaq,inQ,Zbe,ZaP,Zae,ZaI];simp only[go_sem,ZaH])
   exact ⟨[7],_,_,_,by simp,by simp,rfl,AVle.refl _,rfl,rfl,rfl⟩
 |cons a l=>
  simp only[List.length_cons] at hlen;refine vR ?_;(refine vC ?_ ?_<;>intro h)
  ·cases h
  ·refine vR ?_;(refine Zak ?_;simp only[Zaq,inQ,Zbe,ZaP,Zae,ZaI];simp only[go_sem,ZaH])
   exact ⟨[7],_,_,_,by simp,by simp,rfl,AVle.refl _,rfl,rfl,rfl⟩
def ZqE (b:Bx) (G:Gaps):List Ob:=[.box [.gr 1002],.box [.c (.pt b.cds)],.grow 141 2 (gapsC G)]
set_option maxHeartbeats 8000000 in
set_option maxRecDepth 20000 in
theorem gaps57 {b:Bx} (hwb:whB b.wh=true) (hb:BxOk b):∀(m:Nat) (p:List Int) (lf:Nat) (G:Gaps),p.length+m=b.wh.co.length→(∀n∈p,0≤n)→p.sum+lf≤2→(∀q∈gpur G,PurOk b q)→G.length+(ZdI m p lf).length≤100000→
  ZaE Tryz.prog 153 [.c (.pt b.cds),.c (Zaj p),iv lf,.fn 154 [.bp 1000 0,.bp 1001 0]] (ZqE b G) [] (fun r l'=>r= .tup []∧∃G',gpur G'=(ZdI m p lf).foldl (Zge b) (gpur G)∧l'=ZqE b G'):=by
 intro m;induction m with
 |zero=>
  intro p lf G hm hn hs hG hc;have hcl:=hb.wh.cl;have hok:GapsOk b G:=⟨fun g hg=>hG _ (List.mem_map.2 ⟨g,hg,rfl⟩),by simp[ZdI] at hc;omega⟩;have hfo:=found58 hwb hb (p:=p) ⟨by omega,hn,by omega⟩ hok;have e2:List.drop 2 b.cds=[Zaj b.wh.co,Zaj b.fo,Zaj b.ma,Zaj b.sl,.int .i64 b.pl,.int .i64 b.sk]:=rfl;have e8:b.cds.length=8:=rfl;have hl1:((Zaj p:CD))= .sl 1 (p.map fun n=>[.int .i64 n]):=rfl;have hleq:(p.length:Int)=(b.wh.co.length:Int):=by omega
  unfold ZqE;refine Zat Zzg (by first|simp|exact Nat.le_of_ble_eq_true rfl) (Nat.le_refl _) (by decide) (by decide) fun C hP hN hC hL=> ?_;rw[Zap,Zaw (by first|simp|exact Nat.le_of_ble_eq_true rfl)];simp only[ZrQ,Zco,Za1,List.map_nil,List.map_cons,Nat.reduceAdd,]
  rw[hl1];(repeat (refine vV ?_;(try simp only[go_sem,hP,e2,e8,Zaj,List.length_map,hleq]);refine vQ ?_))
  (refine vC ?_ ?_<;>intro h)
  ·refine vR ?_;refine Zas [1000,1001,1002] hfo rfl rfl rfl (by decide) rfl rfl ?_;rintro r l' ⟨rfl,G',hG',rfl⟩;refine ⟨_,_,rfl,rfl,?_⟩;simp only[go_sem,hP,Zab];refine vR ?_;(refine Zak ?_;simp only[Zaq,inQ,ZaB,Zar,Zae,ZaI];simp only[go_sem,ZaH,AV.keepP,AV.keepPL];refine ⟨_,ZqE b G',rfl,Zag rfl rfl ?_ ?_ rfl,?_⟩)
   ·simp only[go_sem,Zal,Ob.keepP,AV.keepP,AV.keepPL,ZqE]
   ·trivial
   ·exact ⟨rfl,G',hG',rfl⟩
  ·simp at h
 |succ m ih=>
  intro p lf G hm hn hs hG hc;have hmax:maxLen=9223372036854775807:=rfl;have hcl:=hb.wh.cl;have e2:List.drop 2 b.cds=[Zaj b.wh.co,Zaj b.fo,Zaj b.ma,Zaj b.sl,.int .i64 b.pl,.int .i64 b.sk]:=rfl;have e8:b.cds.length=8:=rfl;have hl1:((Zaj p:CD))= .sl 1 (p.map fun n=>[.int .i64 n]):=rfl;have hsum:0≤p.sum:=by
   have key:∀l:List Int,(∀x∈l,0≤x)→0≤l.sum:=by
    intro l;induction l with
    |nil=>intro _;simp
    |cons a l ih=>intro h;have:=ih fun x hx=>h x (by simp[hx]);have:=h a (by simp);simp only[List.sum_cons];omega
   exact key p hn
  have hne:(p.length:Int)≠(b.wh.co.length:Int):=by omega
  have w0:=w64 (n:=(lf:Int)+1) (by omega) (by omega);have hcp:=ZuC p (by omega);rw[hl1] at hcp;unfold ZqE;refine Zat Zzg (by first|simp|exact Nat.le_of_ble_eq_true rfl) (Nat.le_refl _) (by decide) (by decide) fun C hP hN hC hL=> ?_;rw[Zap,Zaw (by first|simp|exact Nat.le_of_ble_eq_true rfl)];simp only[ZrQ,Zco,Za1,List.map_nil,List.map_cons,Nat.reduceAdd,]
  rw[hl1];(repeat (refine vV ?_;(try simp only[go_sem,hP,e2,e8,Zaj,List.length_map]);refine vQ ?_))
  (refine vC ?_ ?_<;>intro h)
  ·exact absurd (by simpa using h) hne
  refine vW w0 ?_;refine Zax Zqk [1002] (fun i:Nat×Gaps=>i.1≤lf+1∧gpur i.2=(ZeZ m p lf i.1).foldl (Zge b) (gpur G)) (fun i=>lf+1 -i.1) (fun i=>[(24,iv i.1)]) (fun i=>[(1002,.grow 141 2 (gapsC i.2))]) (0,G) ⟨by omega,rfl⟩ ?_ ?_
  ·exact Zaz
  rintro ⟨k,H⟩ ⟨hk,hH⟩;simp only at hk hH;refine vR ?_;(refine vC ?_ ?_<;>intro h)
  ·have hi:k<lf+1:=by simp at h;omega
   have w1:=w64 (n:=(k:Int)+1) (by omega) (by omega);have w2:IntKind.i64.wrap ((lf:Int) -(k:Int))=((lf -k:Nat):Int):=by rw[w64 (by omega) (by omega)];omega
   have hsn:i1s p++[[CD.int .i64 (k:Int)]]=(p++[(k:Int)]).map fun n=>[CD.int .i64 n]:=by simp[i1s]
   have hln:(i1s p).length=p.length:=List.length_map _;have hon:((i1s p).all fun e=>e.length==1)=true:=by rw[List.all_eq_true];intro e he;obtain ⟨n,_,rfl⟩:=List.mem_map.1 he;rfl
   have hih:=ih (p ++ [(k:Int)]) (lf - k) H (by simp; omega) (fun x hx => by
    rcases List.mem_append.1 hx with h|h
    ·exact hn x h
    ·simp only[List.mem_singleton] at h;omega) (by simp;omega) (fun q hq=>by
    rw[hH] at hq;rcases Zhe hq with h|h
    ·exact hG q h
    ·refine Zhq (m+1) p lf hm hn hs q ?_;simp only[ZeZ,List.mem_flatMap,List.mem_range] at h;simp only[ZdI,List.mem_flatMap,List.mem_range];obtain ⟨n,h1,h2⟩:=h;exact ⟨n,by omega,h2⟩) (by
    have h1:H.length=(gpur H).length:=by simp[gpur]
    have h2:=Zj4 b (ZeZ m p lf k) (gpur G);have h3:=Zku m p lf (k+1) (lf -k);rw[show k+1+(lf -k)=lf+1 by omega,Zdt,List.length_append] at h3;have h4:ZdI (m+1) p lf=ZeZ m p lf (lf+1):=rfl;have h5:(gpur G).length=G.length:=by simp[gpur]
    rw[h4] at hc;rw[hH] at h1;omega)
   refine vW w1 ?_;refine ZaR hcp rfl rfl rfl rfl ?_;rintro _ _ ⟨rfl,rfl⟩;refine ⟨[29],_,_,by simp,rfl,rfl,rfl,rfl,?_⟩;simp only[go_sem,hP,Zab];(repeat (refine vV ?_;(try simp only[go_sem,hP,w1,w2,hln,hon]);refine vQ ?_))
   refine ⟨⟨by omega,by omega⟩,?_⟩;refine Zas [1000,1001,1002] hih rfl rfl rfl (by decide) (by simp only[go_sem,AV.lendL,AV.lend,hsn,w2,Zaj]) rfl ?_;rintro r l' ⟨rfl,H',hH',rfl⟩;refine ⟨_,_,rfl,rfl,?_⟩;simp only[go_sem,hP,Zab];refine vW w1 ?_;refine ⟨(k+1,H'),⟨by omega,?_⟩,by omega,?_⟩
   ·simp only;rw[hH',hH,Zdt,List.foldl_append]
   ·exact Zaz
  ·have hi:k=lf+1:=by simp at h;omega
   subst hi;refine vR ?_;((try simp only[Zaq,inQ,ZaB,Zar,Zae,ZaI]);(try simp only[go_sem,ZaH,AV.keepP,AV.keepPL]);refine ⟨_,ZqE b H,rfl,Zag rfl rfl ?_ ?_ rfl,?_⟩)
   ·simp only[go_sem,Zal,Ob.keepP,AV.keepP,AV.keepPL,ZqE]
   ·trivial
   ·exact ⟨rfl,H,hH,rfl⟩
def Zve:FC:=⟨1,8,[.t 2],(.seq (.ops [JS 1 (.box 1 (.t 0)),JS 2 (.mv (.k J0))]) (.seq (.ops [JS 3 (.alloc [J0])]) (.seq (.ops [JSl 4 1,JS 5 (.mkfn 154 [.t 3,.t 1]),JSc 6 153 [.t 4,(.k J0),(.k (Jz 2)),.t 5]]) (.seq (.ops [JSl 7 3,JSm 2 7]) .ret))))⟩
abbrev ZxH:VC:=(.seq (.seq (.ops [JSm 13 6,JSk 14 .neq 13 0]) (.cond (.t 14) (.seq (.ops [JSm 15 6,JS 2 (.mv (.k (.c (.raw (.pointer none))))),JS 3 (.mv (.k J0)),JSm 4 15]) .ret) .skip)) (.seq (.ops [JSm 16 5,JSc 17 121 [.t 16],JSm 7 17]) (.seq (.seq (.ops [JSm 18 7,JSn 19 18,JSk 20 .eql 19 0]) (.cond (.t 20) (.seq (.ops [JS 2 (.mv (.k (.c (.raw (.pointer none))))),JS 3 (.mv (.k J0)),JSi 4 3]) .ret) .skip)) (.seq (.ops [JSm 21 5,JSm 22 7,JSm 2 21,JSm 3 22,JSi 4 0]) .ret))))
def ZzY:FC:=⟨1,23,[.t 2,.t 3,.t 4],(.seq (.ops [JS 1 (.box 8 (.t 0)),JS 2 (.mv (.k (.c (.raw (.pointer none))))),JS 3 (.mv (.k J0)),JSi 4 0]) (.seq (.ops [JSL 9 8 1,JSc 10 77 [.t 9],JSm 8 10,JSe 11 8 0,JSe 12 8 1,JSm 5 11,JSm 6 12]) ZxH))⟩
abbrev Zy6:VC:=(.seq (.ops [JSL 8 8 1,JSc 9 80 [.t 8],JSm 7 9,JSe 10 7 0,JSe 11 7 1,JSe 12 7 2,JSm 4 10,JSm 5 11,JSm 6 12]) (.seq (.seq (.ops [JSm 13 6,JSk 14 .neq 13 0]) (.cond (.t 14) (.seq (.ops [JSm 15 6,JSi 2 0,JSm 3 15]) .ret) .skip)) (.seq (.ops [JSm 16 4,JSm 17 5,JS 18 (.ia 2 (.t 17) (.k (Jz 0))),JSf 19 0 18,JSl 20 19,JSc 21 78 [.t 16,.t 20],JSm 2 21,JSi 3 0]) .ret)))
def Zzw:FC:=⟨1,22,[.t 2,.t 3],(.seq (.ops [JS 1 (.box 8 (.t 0)),JSi 2 0,JSi 3 0]) Zy6)⟩
theorem ZAC:Zao Tryz.prog [] 121=some Zve:=by kernel_rfl
theorem c80:Zao Tryz.prog [] 80=some ZzY:=by kernel_rfl
theorem c32:Zao Tryz.prog [] 32=some Zzw:=by kernel_rfl
theorem Zi6 {P:Program} {f:FuncId} {args args':List AV} {l:List Ob} {wl:List (List AV)} {Post:AV→List Ob→Prop} (ha:∀w M loc vs,RepAs w M loc args' vs→RepAs w M loc args vs) (h:ZaE P f args l wl Post):ZaE P f args' l wl Post:=
 ⟨h.1,h.2.1,fun w M loc vs h1 h2 h3=>h.2.2 w M loc vs h1 h2 (ha _ _ _ _ h3)⟩
def fndAll (b:Bx):List (List Int):=(ZdI b.wh.co.length [] 2).foldl (Zge b) []
theorem ZiA:∀(m:Nat) (p:List Int) (lf:Nat),lf≤2→(ZdI m p lf).length≤3^m
 |0,p,lf,_=>by simp[ZdI]
 |m+1,p,lf,h=>by
  have key:∀k,k≤lf+1→(ZeZ m p lf k).length≤k*3^m:=by
   intro k;induction k with
   |zero=>intro _;simp[ZeZ]
   |succ k ih=>
    intro hk;have h1:=ih (by omega);have h2:=ZiA m (p++[(k:Int)]) (lf -k) (by omega);rw[Zdt,List.length_append,Nat.add_mul];omega
  have h1:=key (lf+1) (Nat.le_refl _);have h2:(lf+1)*3^m≤3*3^m:=Nat.mul_le_mul_right _ (by omega);have h3:(ZdI (m+1) p lf).length=(ZeZ m p lf (lf+1)).length:=rfl;rw[h3,Nat.pow_succ];omega
theorem ZmY {b:Bx} (hwb:whB b.wh=true) (hb:BxOk b):Za3 Tryz.prog 121 [.c (.pt b.cds)] (fun r os=>os=[]∧∃G,gpur G=fndAll b∧r= .c (.sl 2 (gapsC G))):=by
 have hcl:=hb.wh.cl;have hlen:=ZiA b.wh.co.length [] 2 (Nat.le_refl _);have h81:3^b.wh.co.length≤81:=Nat.pow_le_pow_right (n:=3) (by omega) hcl;have hgp:=Zi6 (args':=[.c (.pt b.cds),.c (.raw (.slice none 0 0)),iv 2,.fn 154 [.bp 1000 0,.bp 1001 0]]) (fun w M loc vs h => by
  simp only[RepAs,RepA,RepC] at h⊢;obtain ⟨v,vs,rfl,h1,v2,vs2,rfl,⟨rfl,_⟩,h3⟩:=h;exact ⟨v,_,rfl,h1,_,vs2,rfl,⟨none,0,rfl,Nat.le_refl _,Nat.zero_le _,.inl rfl⟩,h3⟩) (gaps57 hwb hb b.wh.co.length [] 2 [] (by simp) (by simp) (by simp) (by simp[gpur]) (by simp only[List.length_nil];omega))
 refine ZaK ZAC (Nat.le_refl _) (by decide) fun C hP hN hC hL=> ?_;rw[Zad]
 simp only[Zve];refine ZaG ?_;(refine ZcH ?_;simp only[go_sem,hP];refine vQ ?_)
 refine ZaG ?_;(refine ZcH ?_;simp only[go_sem,hP];refine vQ ?_)
 refine Zc2 3 0 603 141 2 (by decide) (by decide) (by decide) rfl rfl rfl ?_;simp only[go_sem];refine vR ?_;refine Zas [3,1,603] hgp rfl rfl rfl (by decide) rfl rfl ?_;rintro r l' ⟨rfl,G,hG,rfl⟩;refine ⟨_,_,rfl,rfl,?_⟩;have n1:=Zc9 G;have n2:=ZfG G;simp only[go_sem,hP,Zab];(repeat (refine vV ?_;(try simp only[go_sem,hP,n1,n2]);refine vQ ?_))
 (refine Zak ?_;simp only[Zaq,inQ,Zbe,ZaP,Zae,ZaI];simp only[go_sem,ZaH])
 exact ⟨[],_,_,[],by simp,by simp,rfl,AVle.refl _,rfl,rfl,G,hG,rfl⟩
def nilP:AV:=.c (.raw (.pointer none))
def nilS:AV:=.c (.raw (.slice none 0 0))
inductive Settled (b:Bx):AV→Prop
 |bad (h:bxB b=false):Settled b (.tup [nilP,nilS,iv (bxE b)])
 |none (h:bxB b=true) (h2:fndAll b=[]):Settled b (.tup [nilP,nilS,iv 3])
 |some (h:bxB b=true) (G:Gaps) (hG:gpur G=fndAll b) (h2:fndAll b≠[]):Settled b (.tup [.c (.pt b.cds),.c (.sl 2 (gapsC G)),iv 0])
theorem ZpR (b:Bx):Za3 Tryz.prog 80 [b.av] (fun r os=>os=[]∧Settled b r):=by
 refine ZaK c80 (Nat.le_refl _) (by decide) fun C hP hN hC hL=> ?_;rw[Zad]
 simp only[ZzY,Bx.av,Bx.avs,Zaj];have ho:=Zm4 b;by_cases h1:bxB b=true
 ·have hb:=ZeF h1;have hwb:whB b.wh=true:=by
   simp only[bxB,Bool.and_eq_true] at h1;exact h1.1.1.1.1.1.1.1
  rw[Zma h1,Zje h1] at ho;refine vR ?_;(refine Zau (ho) ?_;simp only[go_sem,hP,Bx.av,Bx.avs,Zaj];refine vQ ?_;(repeat (refine vV ?_;(try simp only[go_sem,hP,Bx.av,Bx.avs,Zaj]);refine vQ ?_)))
  (refine vC ?_ ?_<;>intro h)
  ·simp at h
  refine vR ?_;refine ZaR (ZmY hwb hb) rfl rfl rfl rfl ?_;rintro _ _ ⟨rfl,G,hG,rfl⟩;refine ⟨[],_,_,by simp,rfl,rfl,rfl,rfl,?_⟩;have n1:=Zc9 G;simp only[go_sem,hP,Zab];(repeat (refine vV ?_;(try simp only[go_sem,hP,n1]);refine vQ ?_))
  have hgl:(fndAll b).length=G.length:=by rw[←hG];simp[gpur]
  (refine vC ?_ ?_<;>intro h)
  ·have hz:fndAll b=[]:=List.eq_nil_of_length_eq_zero (by simp at h;rw[hgl,h];rfl);refine vR ?_;(refine Zak ?_;simp only[Zaq,inQ,Zbe,ZaP,Zae,ZaI];simp only[go_sem,ZaH])
   exact ⟨[],_,_,[],by simp,by simp,rfl,AVle.refl _,rfl,rfl,.none h1 hz⟩
  ·have hz:fndAll b≠[]:=fun e=>by rw[e] at hgl;simp at h;exact h (List.eq_nil_of_length_eq_zero hgl.symm)
   refine vR ?_;(refine Zak ?_;simp only[Zaq,inQ,Zbe,ZaP,Zae,ZaI];simp only[go_sem,ZaH])
   exact ⟨[],_,_,[],by simp,by simp,rfl,AVle.refl _,rfl,rfl,.some h1 G hG hz⟩
 ·have h1:bxB b=false:=by simpa using h1
  have hne:bxE b≠0:=by rw[Zqu h1];decide
  rw[Zrn h1] at ho;refine vR ?_;(refine Zau (ho) ?_;simp only[go_sem,hP,Bx.av,Bx.avs,Zaj];refine vQ ?_;(repeat (refine vV ?_;(try simp only[go_sem,hP,Bx.av,Bx.avs,Zaj]);refine vQ ?_)))
  (refine vC ?_ ?_<;>intro h)
  ·refine vR ?_;(refine Zak ?_;simp only[Zaq,inQ,Zbe,ZaP,Zae,ZaI];simp only[go_sem,ZaH])
   exact ⟨[],_,_,[],by simp,by simp,rfl,AVle.refl _,rfl,rfl,.bad h1⟩
  ·simp at h;exact absurd h hne
def ZfP (b:Bx):Int×Int:=if bxB b then (if fndAll b=[] then (0,3) else (Zbq b.wh ((fndAll b).getD 0 []),0)) else (0,bxE b)
theorem ZmA {b:Bx}:∀q∈fndAll b,PurOk b q:=fun q hq=>by
 rcases Zhe hq with h|h
 ·cases h
 ·exact Zhq b.wh.co.length [] 2 (by simp) (by simp) (by simp) q h
theorem ZmX (b:Bx):FSpec Tryz.prog 32 [b.av] (.tup [iv (ZfP b).1,iv (ZfP b).2]):=by
 refine Zac c32 (Nat.le_refl _) (by decide) fun C hP hN hC hL=> ?_;rw[Zad]
 simp only[Zzw,Bx.av,Bx.avs,Zaj];refine vR ?_;refine ZaR (ZpR b) rfl rfl rfl (by simp only[Bx.av,Bx.avs,Zaj];rfl) ?_;rintro r os ⟨rfl,hr⟩;cases hr with
 |bad h1=>
  have hne:bxE b≠0:=by rw[Zqu h1];decide
  have hm:ZfP b=(0,bxE b):=by unfold ZfP;rw[h1];rfl
  rw[hm];refine ⟨[],_,_,by simp,rfl,rfl,rfl,rfl,?_⟩;simp only[go_sem,hP,Zab];refine vR ?_;(refine vC ?_ ?_<;>intro h)
  ·refine vR ?_;(refine vT ?_;try exact trivial)
  ·simp at h;exact absurd h hne
 |none h1 h2=>
  have hm:ZfP b=(0,3):=by unfold ZfP;rw[if_pos h1,if_pos h2]
  rw[hm];refine ⟨[],_,_,by simp,rfl,rfl,rfl,rfl,?_⟩;simp only[go_sem,hP,Zab];refine vR ?_;(refine vC ?_ ?_<;>intro h)
  ·refine vR ?_;(refine vT ?_;try exact trivial)
  ·simp at h
 |some h1 G hG h2=>
  have hb:=ZeF h1;have hm:ZfP b=(Zbq b.wh ((fndAll b).getD 0 []),0):=by unfold ZfP;rw[if_pos h1,if_neg h2]
  rw[hm];have n1:=Zc9 G;have hl:0<G.length:=by
   have:0<(gpur G).length:=by rw[hG];exact List.length_pos_iff.2 h2
   simpa [gpur] using this
  obtain ⟨p0,a0,hp0,hg0,hgp⟩:∃p0 a0,PurOk b p0∧(gapsC G).getD 0 []=[Zaj p0,Zaj a0]∧(fndAll b).getD 0 []=p0:=by
   cases G with
   |nil=>simp at hl
   |cons g G=>exact ⟨g.1,g.2,ZmA _ (by rw[←hG];simp[gpur]),rfl,by rw[←hG];rfl⟩
  rw[hgp];refine ⟨[],_,_,by simp,rfl,rfl,rfl,rfl,?_⟩;simp only[go_sem,hP,Zab];(repeat (refine vV ?_;(try simp only[go_sem,hP,n1]);refine vQ ?_))
  (refine vC ?_ ?_<;>intro h)
  ·simp at h
  (repeat (refine vV ?_;(try simp only[go_sem,hP,n1,hg0,hl,Int.toNat_zero]);refine vQ ?_))
  (refine Zau (worth25 hb.wh hp0.len (ZsG hp0)) ?_;simp only[go_sem,hP];refine vQ ?_;refine vR ?_)
  (refine vT ?_;try exact trivial)
def ZzX:FC:=⟨1,12,[.t 2],(.seq (.ops [JS 2 (.mv (.k J0))]) (.seq (.ops [JSm 3 0,JSm 4 0,JSc 5 120 [.t 4],JSc 6 119 [.t 3,.t 5],JSm 7 0,JSc 8 120 [.t 7],JSc 9 118 [.t 6,.t 8],JSc 10 117 [.t 9],JSc 11 116 [.t 10],JSm 2 11]) .ret))⟩
theorem c79:Zao Tryz.prog [] 79=some ZzX:=by kernel_rfl
theorem ZkS {C:Ctx} {is:List Ins} {K:St→Prop} {σ:St} (f:Nat) (hf:f<1000) (hn:σ.own f= .none) (h:ZgZ C is K ⟨ZcM f σ.env,upd (Zbk f σ.own) f empO⟩):ZgZ C is K σ:=
 ZhP (fun a w hg=>ZhJ hn (fun hp=>by obtain ⟨_,hg'⟩:=hg;have:=(hg'.pin f hp).1;omega) a w hg) h
theorem ZsH (b:Bx) (hb:BxOk b):PurOk b []:=⟨Nat.zero_le _,by simp,by simp⟩
def Zmf (b:Bx):List Int:=srt ((((ZeA b.wh (pur b [])).filter fun e=>decide (e.1.bag=pur b [])).map fun e=>e.1.bo).eraseDups)
theorem Zlh {l m:List Int} (h1:l.Nodup) (h2:m.Nodup) (h:∀n,n∈l↔n∈m):l.Perm m:=(List.perm_ext_iff_of_nodup h1 h2).2 h
theorem ZgF:∀(n:Nat) (l:List Int),l.length≤n→l.eraseDups.Nodup
 |0,l,h=>by
  have:l=[]:=List.eq_nil_of_length_eq_zero (by omega);subst this;simp
 |n+1,[],_=>by simp
 |n+1,a::l,h=>by
  rw[List.eraseDups_cons,List.nodup_cons];refine ⟨?_,ZgF n _ (by have:=List.length_filter_le (fun b=> !b==a) l;simp only[List.length_cons] at h;omega)⟩;intro hc;have:=List.mem_eraseDups.1 hc;rw[List.mem_filter] at this;simp at this
theorem Zuz {b:Bx} {D:Ends} (h:EndsOf (ZeA b.wh (pur b [])) (pur b []) D):srt (keysD D)=Zmf b:=by
 unfold Zmf;refine Zkz (Zlh h.ok.nd (ZgF _ _ (Nat.le_refl _)) fun n=> ?_);rw[ZfM h,List.mem_eraseDups,List.mem_map];constructor
 ·rintro ⟨e,he,h1,h2⟩;exact ⟨e,List.mem_filter.2 ⟨he,by simpa using h1⟩,h2⟩
 ·rintro ⟨e,he,h2⟩;have:=List.mem_filter.1 he;exact ⟨e,this.1,by simpa using this.2,h2⟩
theorem Zuy {b:Bx} (hwb:whB b.wh=true) (hb:BxOk b):Za3 Tryz.prog 79 [.c (.pt b.cds)] (fun r os=>os=[]∧r= .c (Zaj (Zmf b))∧(∀n∈Zmf b,0≤n∧n≤2000)∧(Zmf b).length≤2001):=by
 have hA:=ZqR hb (ZsH b hb);have hput:=put61 hb;have hl:ZeS (ZbC b)=(pur b []).l:=by rw[←Ziy b [],←Zks];rfl
 rw[hl] at hput;refine ZaK c79 (Nat.le_refl _) (by decide) fun C hP hN hC hL=> ?_;rw[Zad]
 simp only[ZzX];refine ZaG ?_;(refine ZcH ?_;simp only[go_sem,hP];refine vQ ?_)
 refine ZaG ?_;(refine ZdS 6 ?_;simp only[List.take_succ_cons,List.take_zero,List.take_nil,List.drop_succ_cons,List.drop_zero,List.drop_nil];simp only[go_sem,hP];refine vQ ?_)
 refine Zau hput ?_;simp only[go_sem,hP];refine ZaR (walk62 hwb hA) rfl rfl rfl rfl ?_;rintro _ _ ⟨bm,rfl,rfl⟩;refine ⟨[33],_,_,by simp,rfl,rfl,rfl,rfl,?_⟩;simp only[go_sem,hP,Zab];refine Zau hput ?_;simp only[go_sem,hP];refine ZkS 36 (by decide) rfl ?_;simp only[go_sem];refine Zdn ?_;simp only[go_sem,hP];refine Zas [33,36] (ends63 bm) rfl rfl rfl (by decide) rfl rfl ?_;rintro r l' ⟨be,D,rfl,rfl,hD⟩;refine ⟨_,_,rfl,rfl,?_⟩;have hin:=Zof hb.wh hA;have hdl:=hD.ok.len (fun e he=>by have:=(hin.2.1 e he).1.bo;have h5:=hA.m;have h6:=(hin.2.1 e he).1;have h7:=h6.a;have h8:=h6.b;have h9:=h6.c;have h10:=h6.d;simp only[Pt.bag,Bag.many] at this;omega);have hcan:=Zuz hD;simp only[go_sem,hP,Zab];refine ZaR (ZqH be) rfl rfl rfl rfl ?_;rintro _ _ ⟨rfl,rfl⟩;refine ⟨[38],_,_,by simp,rfl,rfl,rfl,rfl,?_⟩;simp only[go_sem,hP,Zab];refine Zas [38,36] (sorted64 hdl.1 hdl.2 be) rfl rfl rfl (by decide) rfl rfl ?_;rintro r l' ⟨rfl,rfl⟩;refine ⟨_,_,rfl,rfl,?_⟩;simp only[go_sem,hP,Zab];rw[hcan];have hb1:∀n∈Zmf b,0≤n∧n≤2000:=fun n hn=>by
  rw[←hcan] at hn;have h2:=ZhB.1 hn;obtain ⟨q,hq⟩:=Zha (D:=D) h2;exact hdl.2 _ (ZcJ hq)
 have hb2:(Zmf b).length≤2001:=by rw[←hcan];unfold srt;rw[List.length_mergeSort];simpa [keysD] using hdl.1
 refine vR ?_;(refine Zak ?_;simp only[Zaq,inQ,Zbe,ZaP,Zae,ZaI];simp only[go_sem,ZaH])
 exact ⟨[],_,_,[],by simp,by simp,rfl,AVle.refl _,rfl,rfl,rfl,hb1,hb2⟩
def Zzv:FC:=⟨1,16,[.t 2,.t 3],(.seq (.ops [JS 1 (.box 8 (.t 0)),JS 2 (.mv (.k J0)),JSi 3 0]) (.seq (.ops [JSL 7 8 1,JSc 8 77 [.t 7],JSm 6 8,JSe 9 6 0,JSe 10 6 1,JSm 4 9,JSm 5 10]) (.seq (.seq (.ops [JSm 11 5,JSk 12 .neq 11 0]) (.cond (.t 12) (.seq (.ops [JSm 13 5,JS 2 (.mv (.k J0)),JSm 3 13]) .ret) .skip)) (.seq (.ops [JSm 14 4,JSc 15 79 [.t 14],JSm 2 15,JSi 3 0]) .ret))))⟩
theorem c31:Zao Tryz.prog [] 31=some Zzv:=by kernel_rfl
theorem Zrm {b:Bx} (h:bxB b=true):whB b.wh=true:=by
 simp only[bxB,Bool.and_eq_true] at h;exact h.1.1.1.1.1.1.1
theorem Zx0 {b:Bx} (h:bxB b=true):FSpec Tryz.prog 31 [b.av] (.tup [.c (Zaj (Zmf b)),iv 0]):=by
 have hb:=ZeF h;have hcn:=Zuy (Zrm h) hb;have ho:=Zm4 b;rw[Zma h,Zje h] at ho;refine Zac c31 (Nat.le_refl _) (by decide) fun C hP hN hC hL=> ?_;rw[Zad]
 simp only[Zzv,Bx.av,Bx.avs];refine vR ?_;(refine Zau (ho) ?_;simp only[go_sem,hP,Bx.av,Bx.avs];refine vQ ?_;(repeat (refine vV ?_;(try simp only[go_sem,hP,Bx.av,Bx.avs]);refine vQ ?_)))
 (refine vC ?_ ?_<;>intro h)
 ·simp at h
 ·refine vR ?_;refine ZaR hcn rfl rfl rfl rfl ?_;rintro _ _ ⟨rfl,rfl,r1,r2⟩;refine ⟨[],_,_,by simp,rfl,rfl,rfl,rfl,?_⟩;simp only[go_sem,hP,Zab];refine vR ?_;(refine vT ?_;try exact trivial)
end Go.Proofs.YtcggfogkfhlmlaaGreatDoor
/-
 Trays as data:plain.
-/
namespace Go.Proofs.YtcggfogkfhlmlaaGreatDoor
open Go Go.V
abbrev bv (b:Bool):AV:=.c (.bool b)
structure Rec where
 front:Int
 back:Int
 deriving DecidableEq,Inhabited
structure Pr where
 side:Int
 time:Int
 deriving DecidableEq,Inhabited
structure Tray where
 recs:List Rec
 at_:Int
 way:Int
 step:Int
 pres:List Pr
 deriving DecidableEq,Inhabited
def Rec.cds (s:Rec):List CD:=[.int .i64 s.front,.int .i64 s.back]
def ZaO (l:List Rec):CD:=.sl 2 (l.map Rec.cds)
def Pr.cds (p:Pr):List CD:=[.int .i64 p.side,.int .i64 p.time]
def ZbR (l:List Pr):CD:=.sl 2 (l.map Pr.cds)
def Tray.cds (t:Tray):List CD:=[ZaO t.recs,.int .i64 t.at_,.int .i64 t.way,.int .i64 t.step,ZbR t.pres]
def Tray.av (t:Tray):AV:=.agg [.c (ZaO t.recs),iv t.at_,iv t.way,iv t.step,.c (ZbR t.pres)]
def Tray.n (t:Tray):Nat:=t.recs.length
def ZdF (r:Rec):Bool:=Zah r.front 1 999&&Zah r.back 1 999
def ZeI (n:Nat) (s:Int):Bool:=Zah s 0 (2*(n:Int) -1)
def Zgz (x:Int):Bool:=Zah x 0 9999
def Zkp (n:Nat) (p:Pr):Bool:=ZeI n p.side&&Zgz p.time
def Tray.okHead (t:Tray):Bool:=Zah t.n 1 6&&Zah t.at_ 0 ((t.n:Int) -1)&&(t.way==1||t.way== -1)&&Zah t.step 0 60
def Tray.ok (t:Tray):Bool:=t.okHead&&t.recs.all ZdF&&decide (t.pres.length≤12)&&t.pres.all (Zkp t.n)
theorem Zlt {l:List Rec} (h:(ZaO l).lens):l.length≤9223372036854775807:=by
 simp only[ZaO,CD.lens,List.length_map,maxLen] at h;omega
theorem Znt {l:List Pr} (h:(ZbR l).lens):l.length≤9223372036854775807:=by
 simp only[ZbR,CD.lens,List.length_map,maxLen] at h;omega
theorem Tray.lens {t:Tray} {xs:List AV} (h:AV.lensL (t.av::xs)):t.recs.length≤9223372036854775807∧t.pres.length≤9223372036854775807:=by
 simp only[AV.lensL,Tray.av,AV.lens] at h;exact ⟨Zlt h.1.1,Znt h.1.2.2.2.2.1⟩
theorem ZeM (r:Pr):r.cds.length=2:=rfl
theorem Zkv (l:List Rec):((l.map Rec.cds).all fun e=>e.length==2)=true:=by
 rw[List.all_eq_true];intro e he;obtain ⟨n,_,rfl⟩:=List.mem_map.1 he;rfl
theorem Zew (l:List Pr):((l.map Pr.cds).all fun e=>e.length==2)=true:=by
 rw[List.all_eq_true];intro e he;obtain ⟨n,_,rfl⟩:=List.mem_map.1 he;rfl
attribute [go_sem] Int.toNat_natCast List.length_map List.length_set Nat.mul_one Nat.zero_add Int.natCast_nonneg
structure TrayOk (t:Tray):Prop where
 n1:1≤t.n
 n6:t.n≤6
 at_:0≤t.at_∧t.at_<(t.n:Int)
 way:t.way=1∨t.way= -1
 step:0≤t.step∧t.step≤60
 recs:∀r∈t.recs,(1≤r.front∧r.front≤999)∧(1≤r.back∧r.back≤999)
 pres:∀p∈t.pres,(0≤p.side∧p.side<2*(t.n:Int))∧(0≤p.time∧p.time≤9999)
 p13:t.pres.length≤13
theorem Tray.ok_spec {t:Tray} (h:t.ok=true):TrayOk t∧t.pres.length≤12:=by
 simp only[Tray.ok,Tray.okHead,Bool.and_eq_true,Bool.or_eq_true,beq_iff_eq,decide_eq_true_eq,List.all_eq_true,ZdF,Zkp,ZeI,Zgz,Zah] at h;obtain ⟨⟨⟨⟨⟨⟨h1,h2⟩,h3⟩,h4⟩,h5⟩,h6⟩,h7⟩:=h;exact ⟨⟨by omega,by omega,by omega,h3,h4,h5,fun p hp=>by have:=h7 p hp;omega,by omega⟩,h6⟩
end Go.Proofs.YtcggfogkfhlmlaaGreatDoor
namespace Go.Proofs.YtcggfogkfhlmlaaGreatDoor
open Go Go.V
abbrev ZyI:List Ins:=[JSf 8 0 1,JSl 9 8,JSn 10 9,JSk 11 .geq 10 1,JSm 12 11,JTf 13 0 1 12,JTl 14 13 12,JTn 15 14 12,JTk 16 .leq 15 6 12,JSp 17 12 16,JSm 18 17,JTf 19 1 1 18,JTl 20 19 18,JTk 21 .geq 20 0 18,JSp 22 18 21,JSm 23 22,JTf 24 1 1 23,JTl 25 24 23,JTf 26 0 1 23,JTl 27 26 23,JTn 28 27 23,JTb 29 .lss 25 28 23,JSp 30 23 29,JSm 31 30,JTf 32 2 1 31,JTl 33 32 31,JTk 34 .eql 33 1 31,JTm 35 34 31,JNf 36 2 1 35,JNl 37 36 35,JNk 38 .eql 37 (-1) 35,JTo 39 35 38 31,JSp 40 31 39,JSm 41 40,JTf 42 3 1 41,JTl 43 42 41,JTk 44 .geq 43 0 41,JSp 45 41 44,JSm 46 45,JTf 47 3 1 46,JTl 48 47 46,JTk 49 .leq 48 60 46,JSp 50 46 49,JSm 51 50,JTf 52 4 1 51,JTl 53 52 51,JTn 54 53 51,JTk 55 .leq 54 12 51,JSp 56 51 55,JSm 3 56]
abbrev ZyJ:List Ins:=[JSm 64 3,JSm 65 64,JTf 66 0 5 65,JTl 67 66 65,JTk 68 .geq 67 1 65,JSp 69 65 68,JSm 70 69,JTf 71 0 5 70,JTl 72 71 70,JTk 73 .leq 72 999 70,JSp 74 70 73,JSm 75 74,JTf 76 1 5 75,JTl 77 76 75,JTk 78 .geq 77 1 75,JSp 79 75 78,JSm 80 79,JTf 81 1 5 80,JTl 82 81 80,JTk 83 .leq 82 999 80,JSp 84 80 83,JSm 3 84]
-- Zuk: changed and kept: [60,3]
abbrev Zuk:List Nat:=[1,58,59]
abbrev ZxE:VC:=(.seq (.cond (.t 90) .skip (.exit 2)) (.seq (.block 3 (.seq (.ops [JSa 91 2 87 89,JSL 92 2 91,JS 7 (.alloc [Jz 0,Jz 0]),JUs 2 7 92]) (.ops [JSm 93 3,JSm 94 93,JTL 95 5 1 94,JTf 96 0 7 94,JTl 97 96 94,JTc 98 75 [.t 95,.t 97] 94,JSp 99 94 98,JSm 100 99,JTf 101 1 7 100,JTl 102 101 100,JTc 103 74 [.t 102] 100,JSp 104 100 103,JSm 3 104]))) (.ops [JSk 105 .add 89 1,JSm 89 105])))
-- Zul: changed and kept: [89,3]
abbrev Zul:List Nat:=[1,87,88]
abbrev ZxF:VC:=(.seq (.seq (.ops [JSf 57 0 1,JSl 58 57,JSn 59 58,JSi 60 0]) (.block 0 (.loop (.seq (.ops [JSb 61 .lss 60 59]) (.seq (.cond (.t 61) .skip (.exit 0)) (.seq (.block 1 (.seq (.ops [JSa 62 2 58 60,JSL 63 2 62,JS 5 (.alloc [Jz 0,Jz 0]),JUs 2 5 63]) (.ops ZyJ))) (.ops [JSk 85 .add 60 1,JSm 60 85]))))))) (.seq (.seq (.ops [JSf 86 4 1,JSl 87 86,JSn 88 87,JSi 89 0]) (.block 2 (.loop (.seq (.ops [JSb 90 .lss 89 88]) ZxE)))) (.seq (.seq (.ops [JSm 106 3,JS 107 (.un .not (.t 106))]) (.cond (.t 107) (.seq (.ops [JSi 2 20]) .ret) .skip)) (.seq (.ops [JSi 2 0]) .ret))))
def ZzS:FC:=⟨1,108,[.t 2],(.seq (.ops [JS 1 (.box 5 (.t 0)),JSi 2 0]) (.seq (.ops ZyI) ZxF))⟩
def ZzT:FC:=⟨1,9,[.t 2],(.seq (.ops [JSB 2 false]) (.seq (.ops [JSm 3 0,JSk 4 .geq 3 0,JSm 5 4,JTm 6 0 5,JTk 7 .leq 6 9999 5,JSp 8 5 7,JSm 2 8]) .ret))⟩
def ZzU:FC:=⟨2,15,[.t 4],(.seq (.ops [JS 2 (.box 5 (.t 0)),JSB 4 false]) (.seq (.ops [JSm 5 1,JSk 6 .geq 5 0,JSm 7 6,JTm 8 1 7,JTf 9 0 2 7,JTl 10 9 7,JTn 11 10 7,JG 12 (.bin .mul (.k (Jz 2)) (.t 11)) 7 true,JTb 13 .lss 8 12 7,JSp 14 7 13,JSm 4 14]) .ret))⟩
abbrev ZyE:List Ins:=[JSf 4 0 1,JSl 5 4,JSn 6 5,JSc 7 104 [.t 6,(.k (Jz 1)),(.k (Jz 6))],JS 8 (.un .not (.t 7)),JSm 9 8,JNf 10 1 1 9,JNl 11 10 9,JNf 12 0 1 9,JNl 13 12 9,JNn 14 13 9,JNk 15 .sub 14 1 9,JNc 16 104 [.t 11,(.k (Jz 0)),.t 15] 9,JG 17 (.un .not (.t 16)) 9 false,JSo 18 9 17,JSm 19 18,JNf 20 2 1 19,JNl 21 20 19,JNk 22 .neq 21 1 19,JNm 23 22 19,JTf 24 2 1 23,JTl 25 24 23,JTk 26 .neq 25 (-1) 23,JNp 27 23 26 19,JSo 28 19 27,JSm 29 28,JNf 30 3 1 29,JNl 31 30 29,JNc 32 104 [.t 31,(.k (Jz 0)),(.k (Jz 60))] 29,JG 33 (.un .not (.t 32)) 29 false,JSo 34 29 33]
abbrev ZyF:List Ins:=[JSf 42 0 1,JSl 43 42,JSm 44 3,JSa 45 2 43 44,JSf 46 0 45,JSl 47 46,JSc 48 104 [.t 47,(.k (Jz 1)),(.k (Jz 999))],JS 49 (.un .not (.t 48)),JSm 50 49,JNf 51 0 1 50,JNl 52 51 50,JNm 53 3 50,JNa 54 2 52 53 50,JNf 55 1 54 50,JNl 56 55 50,JNc 57 104 [.t 56,(.k (Jz 1)),(.k (Jz 999))] 50,JG 58 (.un .not (.t 57)) 50 false,JSo 59 50 58]
-- Zuf: changed and kept: [3]
abbrev Zuf:List Nat:=[1]
abbrev Zxr:VC:=(.seq (.seq (.ops [JSi 3 0]) (.block 0 (.loop (.seq (.seq (.ops [JSm 35 3,JSf 36 0 1,JSl 37 36,JSn 38 37,JSb 39 .lss 35 38]) (.cond (.t 39) .skip (.exit 0))) (.seq (.block 1 (.seq (.ops ZyF) (.cond (.t 59) (.seq (.ops [JSi 2 20]) .ret) .skip))) (.ops [JSm 40 3,JSk 41 .add 40 1,JSm 3 41])))))) (.seq (.ops [JSL 60 5 1,JSc 61 105 [.t 60,(.k (Jz 12))],JSm 2 61]) .ret))
def ZzH:FC:=⟨1,62,[.t 2],(.seq (.ops [JS 1 (.box 5 (.t 0)),JSi 2 0]) (.seq (.seq (.ops ZyE) (.cond (.t 34) (.seq (.ops [JSi 2 20]) .ret) .skip)) Zxr))⟩
abbrev Zv1:List Ins:=[JFL 18 5 2,JFf 19 4 2,JFl 20 19,JFm 21 5,JFa 22 2 20 21,JFf 23 0 22,JFl 24 23,JSc 25 137 [.t 18,.t 24],JS 26 (.un .not (.t 25)),JSm 27 26,JH 28 (Jf 4 2) 27 false,JH 29 (Jl 28) 27 false,JH 30 (Jm 5) 27 false,JNa 31 2 29 30 27,JNf 32 1 31 27,JNl 33 32 27,JNc 34 138 [.t 33] 27,JG 35 (.un .not (.t 34)) 27 false,JSo 36 27 35]
-- Zqc: changed and kept: [5]
abbrev Zqc:List Nat:=[2]
abbrev Ztf:VC:=(.seq (.seq (.ops [JSf 6 4 2,JSl 7 6,JSn 8 7,JSm 9 1,JSb 10 .gtr 8 9]) (.cond (.t 10) (.seq (.ops [JSi 4 20]) .ret) .skip)) (.seq (.seq (.ops [JSi 5 0]) (.block 0 (.loop (.seq (.seq (.ops [JSm 11 5,JSf 12 4 2,JSl 13 12,JSn 14 13,JSb 15 .lss 11 14]) (.cond (.t 15) .skip (.exit 0))) (.seq (.block 1 (.seq (.dops Zv1) (.cond (.t 36) (.seq (.ops [JSi 4 20]) .ret) .skip))) (.ops [JSm 16 5,JSk 17 .add 16 1,JSm 5 17])))))) (.seq (.ops [JSi 4 0]) .ret)))
def Zu3:FC:=⟨2,37,[.t 4],(.seq (.ops [JS 2 (.box 5 (.t 0)),JSi 4 0]) Ztf)⟩
def Zu2:FC:=⟨3,15,[.t 6],(.seq (.ops [JSB 6 false]) (.seq (.ops [JSm 7 1,JSm 8 0,JSb 9 .leq 7 8,JSm 10 9,JTm 11 0 10,JTm 12 2 10,JTb 13 .leq 11 12 10,JSp 14 10 13,JSm 6 14]) .ret))⟩
def Zvj:FC:=⟨2,12,[.t 4],(.seq (.ops [JS 2 (.box 5 (.t 0)),JSB 4 false]) (.seq (.ops [JSm 5 1,JSf 6 0 2,JSl 7 6,JSn 8 7,JS 9 (.bin .mul (.k (Jz 2)) (.t 8)),JSk 10 .sub 9 1,JSc 11 104 [.t 5,(.k (Jz 0)),.t 10],JSm 4 11]) .ret))⟩
def Zvk:FC:=⟨1,5,[.t 2],(.seq (.ops [JSB 2 false]) (.seq (.ops [JSm 3 0,JSc 4 104 [.t 3,(.k (Jz 0)),(.k (Jz 9999))],JSm 2 4]) .ret))⟩
def ZzD:FC:=⟨1,13,[.t 2],(.seq (.ops [JS 1 (.box 5 (.t 0)),JSB 2 false]) (.seq (.ops [JSf 3 0 1,JSl 4 3,JSn 5 4,JSk 6 .gtr 5 40,JSm 7 6,JNf 8 4 1 7,JNl 9 8 7,JNn 10 9 7,JNk 11 .gtr 10 40 7,JSo 12 7 11,JSm 2 12]) .ret))⟩
theorem c73:Zao Tryz.prog [] 73=some ZzS:=by kernel_rfl
theorem c74:Zao Tryz.prog [] 74=some ZzT:=by kernel_rfl
theorem c75:Zao Tryz.prog [] 75=some ZzU:=by kernel_rfl
theorem c56:Zao Tryz.prog [] 56=some ZzH:=by kernel_rfl
theorem ZAr:Zao Tryz.prog [] 105=some Zu3:=by kernel_rfl
theorem ZAq:Zao Tryz.prog [] 104=some Zu2:=by kernel_rfl
theorem ZAH:Zao Tryz.prog [] 137=some Zvj:=by kernel_rfl
theorem ZAI:Zao Tryz.prog [] 138=some Zvk:=by kernel_rfl
theorem c52:Zao Tryz.prog [] 52=some ZzD:=by kernel_rfl
attribute [local go_sem] Nat.reduceEqDiff Nat.reduceAdd Nat.reduceMul reduceIte Nat.reduceLeDiff Nat.reduceLT Nat.reduceBEq reduceCtorEq
theorem ZtY (a b c:Int):FSpec Tryz.prog 104 [iv a,iv b,iv c] (.c (.bool (Zah a b c))):=by
 refine Zac ZAq (Nat.le_refl _) (by decide) fun C hP hN hC hL=> ?_;rw[Zad]
 simp only[Zu2];refine vR ?_;(refine vT ?_;try exact trivial)
theorem Zpd (a:Int):FSpec Tryz.prog 74 [iv a] (.c (.bool (Zgz a))):=by
 refine Zac c74 (Nat.le_refl _) (by decide) fun C hP hN hC hL=> ?_;rw[Zad]
 simp only[ZzT];refine vR ?_;(refine vT ?_;try exact trivial)
theorem ZnM (a:Int):FSpec Tryz.prog 138 [iv a] (.c (.bool (Zgz a))):=by
 refine Zac ZAI (Nat.le_refl _) (by decide) fun C hP hN hC hL=> ?_;rw[Zad]
 simp only[Zvk];refine vR ?_;(refine Zau (ZtY _ _ _) ?_;simp only[go_sem,hP];refine vQ ?_;refine vR ?_)
 (refine vT ?_;try exact trivial)
theorem Zs0 (n:Nat) (s:Int):(decide (0≤s)&&decide (s<2*(n:Int)))=ZeI n s:=by
 unfold ZeI Zah;rw[Bool.eq_iff_iff];simp;omega
theorem Zpc (t:Tray) (s:Int) (hn:t.n≤1000):FSpec Tryz.prog 75 [t.av,iv s] (.c (.bool (ZeI t.n s))):=by
 refine Zac c75 (Nat.le_refl _) (by decide) fun C hP hN hC hL=> ?_;rw[Zad]
 simp only[ZzU,Tray.av];have hn':t.recs.length=t.n:=rfl;have w1:=w64 (n:=2*(t.n:Int)) (by omega) (by omega);(repeat (refine vV ?_;(try simp only[go_sem,hP,ZaO,List.length_map,hn',w1]);refine vQ ?_))
 (refine vT ?_;try exact trivial)
 exact congrArg (fun b=>AV.c (CD.bool b)) (Zs0 _ _)
theorem ZnL (t:Tray) (s:Int) (hn:t.n≤1000):FSpec Tryz.prog 137 [t.av,iv s] (.c (.bool (ZeI t.n s))):=by
 refine Zac ZAH (Nat.le_refl _) (by decide) fun C hP hN hC hL=> ?_;rw[Zad]
 simp only[Zvj,Tray.av];have hn':t.recs.length=t.n:=rfl;have w1:=w64 (n:=2*(t.n:Int)) (by omega) (by omega);have w2:=w64 (n:=2*(t.n:Int) -1) (by omega) (by omega);(repeat (refine vV ?_;(try simp only[go_sem,hP,ZaO,List.length_map,hn',w1,w2]);refine vQ ?_))
 (refine Zau (ZtY _ _ _) ?_;simp only[go_sem,hP];refine vQ ?_;refine vR ?_)
 (refine vT ?_;try exact trivial)
def Zx4 (t:Tray):Bool:=decide (40<t.n)||decide (40<t.pres.length)
theorem Zx3 (t:Tray):FSpec Tryz.prog 52 [t.av] (.c (.bool (Zx4 t))):=by
 refine Zac c52 (Nat.le_refl _) (by decide) fun C hP hN hC hL=> ?_;rw[Zad]
 simp only[ZzD,Tray.av];(repeat (refine vV ?_;(try simp only[go_sem,hP,ZaO,ZbR,List.length_map]);refine vQ ?_))
 (refine vT ?_;try exact trivial)
 have e1:decide ((40:Int)<(t.recs.length:Int))=decide (40<t.recs.length):=by simp;omega
 have e2:decide ((40:Int)<(t.pres.length:Int))=decide (40<t.pres.length):=by simp;omega
 rw[e1,e2];rfl
set_option maxRecDepth 20000 in
set_option maxHeartbeats 8000000 in
theorem check40 (t:Tray):FSpec Tryz.prog 73 [t.av] (iv (if t.ok then 0 else 20)):=by
 refine Zac c73 (Nat.le_refl _) (by decide) fun C hP hN hC hL=> ?_;rw[Zad]
 obtain ⟨h1,h2⟩:=Tray.lens hL;have hn':t.recs.length=t.n:=rfl;simp only[ZzS,Tray.av,ZaO,ZbR];(repeat (refine vV ?_;(try simp only[go_sem,hP,List.length_map,hn']);refine vQ ?_))
 have hh:(decide (1≤(t.n:Int))&&(decide ((t.n:Int)≤6)&&(decide (0≤t.at_)&&(decide (t.at_<(t.n:Int))&&((t.way==1||t.way== -1)&&(decide (0≤t.step)&&(decide (t.step≤60)&&decide ((t.pres.length:Int)≤12))))))))=(t.okHead&&decide (t.pres.length≤12)):=by
  unfold Tray.okHead Zah;rw[Bool.eq_iff_iff];simp;omega
 have hh2:(((((((decide (1≤(t.n:Int))&&decide ((t.n:Int)≤6))&&decide (0≤t.at_))&&decide (t.at_<(t.n:Int)))&&(t.way==1||t.way== -1))&&decide (0≤t.step))&&decide (t.step≤60))&&decide ((t.pres.length:Int)≤12))=(t.okHead&&decide (t.pres.length≤12)):=by
  rw[←hh];simp only[Bool.and_assoc]
 rw[hh2];generalize hg0:(t.okHead&&decide (t.pres.length≤12))=g0;refine Zax Zuk [5] (fun k:Nat=>k≤t.n) (fun k=>t.n -k) (fun k=>[(3,.c (.bool (g0&&(t.recs.take k).all ZdF))),(60,iv k)]) (fun _=>[]) 0 (Nat.zero_le _) ?_ ?_
 ·exact Zaz
 ·intro k hk;simp only[go_sem];refine vR ?_;(refine vC ?_ ?_<;>intro h)
  ·have h:k<t.recs.length:=by simp at h;omega
   have hkl:=h;have hI:(k:Int)<(t.n:Int):=by omega
   have hw2:=w64 (n:=(k:Int)+1) (by omega) (by omega);(repeat (refine vV ?_;(try simp only[go_sem,hP,Int.toNat_natCast,Za7 h,List.length_map,hn',hI,Int.natCast_nonneg,Rec.cds,hw2]);refine vQ ?_))
   refine ⟨k+1,by omega,by omega,?_⟩;(refine Zai (by simp only[go_sem];((repeat' (first|exact ZaW _ _|refine ZaJ ?_ ?_))<;>((try simp only[ZaT,ZbG,ZbH,Nat.reduceEqDiff,reduceIte]);first|exact AWk.refl _ _|exact AWk.int (by omega)|exact AWk.int (by rw[w64 (by omega) (by omega)];omega)|exact AWk.grow rfl|exact AWk.nil _|exact AWk.of (by (rw[Zd9 ZdF h];simp[Bool.and_assoc,ZdF,Zah]))))) (by simp only[go_sem];exact Zaa))
  ·have h:k=t.recs.length:=by simp at h;omega
   subst h;rw[List.take_length];generalize hg1:(g0&&t.recs.all ZdF)=g1;refine vR3 ?_;refine Zax Zul [7] (fun k:Nat=>k≤t.pres.length) (fun k=>t.pres.length -k) (fun k=>[(3,.c (.bool (g1&&(t.pres.take k).all (Zkp t.n)))),(89,iv k)]) (fun _=>[]) 0 (Nat.zero_le _) ?_ ?_
   ·exact Zaz
   ·intro k hk;simp only[go_sem];refine vR3 ?_;(refine vC ?_ ?_<;>intro h)
    ·have h:k<t.pres.length:=by simpa using h
     have hI:(k:Int)<(t.pres.length:Int):=by omega
     have hw2:=w64 (n:=(k:Int)+1) (by omega) (by omega);(repeat (refine vV ?_;(try simp only[go_sem,hP,Int.toNat_natCast,Za7 h,List.length_map,hI,Int.natCast_nonneg,Pr.cds]);refine vQ ?_))
     refine Zi4 (fun hG=>Zpc t t.pres[k].side ?_) rfl (fun hG=>by simp only[go_sem,hG]) rfl rfl rfl ?_
     ·simp only[Bool.and_eq_true] at hG;have:g0=true:=by
       have:=hG.1;rw[←hg1] at this;simp only[Bool.and_eq_true] at this;exact this.1
      rw[←hg0] at this;simp only[Bool.and_eq_true,decide_eq_true_eq,Tray.okHead,Zah] at this;omega
     simp only[go_sem,hP,Tray.av,ZaO,ZbR];refine vR ?_;(refine Za9 (fun hG=>Zpd _) ?_;simp only[go_sem,hP,hw2];refine vQ ?_;refine vW hw2 ?_)
     refine ⟨k+1,by omega,by omega,?_⟩;(refine Zai (by simp only[go_sem];((repeat' (first|exact ZaW _ _|refine ZaJ ?_ ?_))<;>((try simp only[ZaT,ZbG,ZbH,Nat.reduceEqDiff,reduceIte]);first|exact AWk.refl _ _|exact AWk.int (by omega)|exact AWk.int (by rw[w64 (by omega) (by omega)];omega)|exact AWk.grow rfl|exact AWk.nil _|exact AWk.of (by (rw[Zd9 (Zkp t.n) h];simp[Bool.and_assoc,Zkp]))))) (by simp only[go_sem];exact Zaa))
    ·have h:k=t.pres.length:=by simp at h;omega
     subst h;rw[List.take_length];have hok:(g1&&t.pres.all (Zkp t.n))=t.ok:=by
      rw[←hg1,←hg0];unfold Tray.ok;cases t.okHead<;>cases t.recs.all ZdF<;>cases decide (t.pres.length≤12)<;>rfl
     rw[hok];refine vR ?_;cases t.ok
     ·(refine vC ?_ ?_<;>intro h)
      ·refine vR ?_;(refine vT ?_;try exact trivial)
      ·simp at h
     ·(refine vC ?_ ?_<;>intro h)
      ·simp at h
      ·refine vR ?_;(refine vT ?_;try exact trivial)
def Zjy (t:Tray) (most:Int):Bool:=decide ((t.pres.length:Int)≤most)&&t.pres.all (Zkp t.n)
set_option maxRecDepth 20000 in
set_option maxHeartbeats 8000000 in
theorem presses64 (t:Tray) (most:Int) (hn:t.n≤1000):FSpec Tryz.prog 105 [t.av,iv most] (iv (if Zjy t most then 0 else 20)):=by
 refine Zac ZAr (Nat.le_refl _) (by decide) fun C hP hN hC hL=> ?_;rw[Zad]
 obtain ⟨h1,h2⟩:=Tray.lens hL;simp only[Zu3,Tray.av];(repeat (refine vV ?_;(try simp only[go_sem,hP,ZbR,List.length_map]);refine vQ ?_))
 (refine vC ?_ ?_<;>intro h)
 ·have h:most<(t.pres.length:Int):=by simpa using h
  refine vR ?_;(refine vT ?_;try exact trivial)
  have:Zjy t most=false:=by simp[Zjy];intro h';omega
  rw[this];rfl
 have hm:(t.pres.length:Int)≤most:=by simp at h;omega
 clear h;have hpb:Zjy t most=t.pres.all (Zkp t.n):=by unfold Zjy;rw[decide_eq_true hm];rfl
 rw[hpb];refine vR ?_;(refine Zax Zqc [] (fun k:Nat=>k≤t.pres.length∧(t.pres.take k).all (Zkp t.n)=true) (fun k=>t.pres.length -k) (fun k=>[(5,iv k)]) (fun _=>[]) 0 ⟨Nat.zero_le _,by simp⟩ ?_ ?_)
 ·exact Zaz
 ·intro k ⟨hk,ha⟩;simp only[go_sem];(repeat (refine vV ?_;(try simp only[go_sem,hP,ZbR,List.length_map]);refine vQ ?_))
  (refine vC ?_ ?_<;>intro h)
  ·have h:k<t.pres.length:=by simpa using h
   have hkl:=h;have hI:(k:Int)<(t.pres.length:Int):=by omega
   have hw2:=w64 (n:=(k:Int)+1) (by omega) (by omega);(repeat (refine vV ?_;(try simp only[go_sem,hP,ZbR,Za7 h,List.length_map,hI,Int.natCast_nonneg,Pr.cds]);refine vQ ?_))
   (refine Zau (ZnL t _ hn) ?_;simp only[go_sem,hP,Tray.av,ZbR,Za7 h,List.length_map,hI,Int.natCast_nonneg,Pr.cds];refine vQ ?_;(repeat (refine vV ?_;(try simp only[go_sem,hP,Tray.av,ZbR,Za7 h,List.length_map,hI,Int.natCast_nonneg,Pr.cds]);refine vQ ?_)))
   (refine Za9 (fun hG=>ZnM _) ?_;simp only[go_sem,hP];refine vQ ?_;refine vR ?_)
   have hb:(!ZeI t.n t.pres[k].side|| !Zgz t.pres[k].time)= !Zkp t.n t.pres[k]:=by unfold Zkp;cases ZeI t.n t.pres[k].side<;>cases Zgz t.pres[k].time<;>rfl
   rw[hb];cases hbb:Zkp t.n t.pres[k]
   ·(refine vC ?_ ?_<;>intro h)
    ·refine vR ?_;(refine vT ?_;try exact trivial)
     have:t.pres.all (Zkp t.n)=false:=List.all_eq_false.2 ⟨_,List.getElem_mem hkl,by simp[hbb]⟩;rw[this];rfl
    ·simp at h
   ·(refine vC ?_ ?_<;>intro h)
    ·simp at h
    ·refine vW hw2 ?_;refine ⟨k+1,⟨by omega,by rw[Zd9 (Zkp t.n) (by assumption),ha,hbb];rfl⟩,by omega,?_⟩;exact Zaz
  ·have h:k=t.pres.length:=by simp at h;omega
   subst h;rw[List.take_length] at ha;refine vR ?_;(refine vT ?_;try exact trivial)
   rw[ha];rfl
set_option maxRecDepth 20000 in
set_option maxHeartbeats 8000000 in
theorem rcheck41 (t:Tray):FSpec Tryz.prog 56 [t.av] (iv (if t.ok then 0 else 20)):=by
 refine Zac c56 (Nat.le_refl _) (by decide) fun C hP hN hC hL=> ?_;rw[Zad]
 obtain ⟨h1,h2⟩:=Tray.lens hL;have hn':t.recs.length=t.n:=rfl;simp only[ZzH,Tray.av];have w1:=w64 (n:=(t.n:Int) -1) (by omega) (by omega);(repeat (refine vV ?_;(try simp only[go_sem,hP,ZaO,List.length_map,hn']);refine vQ ?_))
 (refine Zau (ZtY _ _ _) ?_;simp only[go_sem,hP,w1,ZaO,List.length_map,hn'];refine vQ ?_;(repeat (refine vV ?_;(try simp only[go_sem,hP,w1,ZaO,List.length_map,hn']);refine vQ ?_)))
 (refine Za9 (fun hG=>ZtY _ _ _) ?_;simp only[go_sem,hP];refine vQ ?_;refine vR ?_)
 (refine Za9 (fun hG=>ZtY _ _ _) ?_;simp only[go_sem,hP];refine vQ ?_;refine vR ?_)
 have hh:(!Zah (t.n:Int) 1 6||(!Zah t.at_ 0 ((t.n:Int) -1)||((t.way !=1&&t.way != -1)|| !Zah t.step 0 60)))= !t.okHead:=by
  unfold Tray.okHead;cases Zah (t.n:Int) 1 6<;>cases Zah t.at_ 0 ((t.n:Int) -1)<;>cases Zah t.step 0 60<;>cases h5:(t.way==1)<;>cases h6:(t.way== -1)<;>simp[bne,h5,h6]
 have hh2:(((!Zah (t.n:Int) 1 6|| !Zah t.at_ 0 ((t.n:Int) -1))||(t.way !=1&&t.way != -1))|| !Zah t.step 0 60)= !t.okHead:=by
  rw[←hh];simp only[Bool.or_assoc]
 rw[hh2];cases hhd:t.okHead
 ·(refine vC ?_ ?_<;>intro h)
  ·refine vR ?_;(refine vT ?_;try exact trivial)
   simp[Tray.ok,hhd]
  ·simp at h
 (refine vC ?_ ?_<;>intro h)
 ·simp at h
 clear h;have hn6:t.n≤6:=by
  simp only[Tray.okHead,Zah,Bool.and_eq_true,decide_eq_true_eq] at hhd;omega
 have hok:t.ok=(t.recs.all ZdF&&Zjy t 12):=by
  unfold Tray.ok Zjy;rw[hhd];have e:decide ((t.pres.length:Int)≤12)=decide (t.pres.length≤12):=by simp;omega
  rw[e];cases t.recs.all ZdF<;>cases decide (t.pres.length≤12)<;>rfl
 rw[hok];refine vR ?_;(refine Zax Zuf [] (fun k:Nat=>k≤t.n∧(t.recs.take k).all ZdF=true) (fun k=>t.n -k) (fun k=>[(3,iv k)]) (fun _=>[]) 0 ⟨Nat.zero_le _,by simp⟩ ?_ ?_)
 ·exact Zaz
 ·intro k ⟨hk,ha⟩;simp only[go_sem];(repeat (refine vV ?_;(try simp only[go_sem,hP,ZaO,List.length_map,hn']);refine vQ ?_))
  (refine vC ?_ ?_<;>intro h)
  ·have h:k<t.recs.length:=by simp at h;omega
   have hkl:=h;have hI:(k:Int)<(t.n:Int):=by omega
   have hw2:=w64 (n:=(k:Int)+1) (by omega) (by omega);(repeat (refine vV ?_;(try simp only[go_sem,hP,ZaO,Za7 h,List.length_map,hn',hI,Int.natCast_nonneg,Rec.cds]);refine vQ ?_))
   (refine Zau (ZtY _ _ _) ?_;simp only[go_sem,hP,ZaO,Za7 h,List.length_map,hn',hI,Int.natCast_nonneg,Rec.cds];refine vQ ?_;(repeat (refine vV ?_;(try simp only[go_sem,hP,ZaO,Za7 h,List.length_map,hn',hI,Int.natCast_nonneg,Rec.cds]);refine vQ ?_)))
   (refine Za9 (fun hG=>ZtY _ _ _) ?_;simp only[go_sem,hP];refine vQ ?_;refine vR ?_)
   have hb:(!Zah t.recs[k].front 1 999|| !Zah t.recs[k].back 1 999)= !ZdF t.recs[k]:=by unfold ZdF;cases Zah t.recs[k].front 1 999<;>cases Zah t.recs[k].back 1 999<;>rfl
   rw[hb];cases hbb:ZdF t.recs[k]
   ·(refine vC ?_ ?_<;>intro h)
    ·refine vR ?_;(refine vT ?_;try exact trivial)
     have:t.recs.all ZdF=false:=List.all_eq_false.2 ⟨_,List.getElem_mem hkl,by simp[hbb]⟩;rw[this];rfl
    ·simp at h
   ·(refine vC ?_ ?_<;>intro h)
    ·simp at h
    ·refine vW hw2 ?_;refine ⟨k+1,⟨by omega,by rw[Zd9 ZdF (by assumption),ha,hbb];rfl⟩,by omega,?_⟩;exact Zaz
  ·have h:k=t.recs.length:=by simp at h;omega
   subst h;rw[List.take_length] at ha;refine vR ?_;(refine Zau (presses64 t 12 (by omega)) ?_;simp only[go_sem,hP,Tray.av,ZaO];refine vQ ?_;(repeat (refine vV ?_;(try simp only[go_sem,hP,Tray.av,ZaO]);refine vQ ?_)))
   (refine vT ?_;try exact trivial)
   rw[ha];simp
abbrev ZyL:List Ins:=[JSf 3 0 1,JSL 4 8 3,JSc 5 115 [.t 4],JSk 6 .neq 5 0,JSm 7 6,JNf 8 10 1 7,JNL 9 5 8 7,JNc 10 73 [.t 9] 7,JNk 11 .neq 10 0 7,JSo 12 7 11,JSm 13 12,JNf 14 8 1 13,JNf 15 0 14 13,JNl 16 15 13,JNk 17 .lss 16 0 13,JSo 18 13 17,JSm 19 18,JNf 20 8 1 19,JNf 21 0 20 19,JNl 22 21 19,JNf 23 0 1 19,JNf 24 0 23 19,JNf 25 0 24 19,JNl 26 25 19,JNb 27 .geq 22 26 19,JSo 28 19 27,JSm 29 28,JNf 30 8 1 29,JNf 31 1 30 29,JNl 32 31 29,JNk 33 .lss 32 0 29,JSo 34 29 33,JSm 35 34,JNf 36 8 1 35,JNf 37 1 36 35,JNl 38 37 35,JNk 39 .gtr 38 20 35,JSo 40 35 39]
def Zz4:FC:=⟨1,41,[.t 2],(.seq (.ops [JS 1 (.box 15 (.t 0)),JSi 2 0]) (.seq (.seq (.ops ZyL) (.cond (.t 40) (.seq (.ops [JSi 2 120]) .ret) .skip)) (.seq (.ops [JSi 2 0]) .ret)))⟩
theorem c91:Zao Tryz.prog [] 91=some Zz4:=by kernel_rfl
structure Bar where
 box:Bx
 pl:Int
 cr:Int
 tray:Tray
def Bar.cds (b:Bar):List CD:=[.int .i64 b.box.wh.ro,Zaj b.box.wh.no,Zaj b.box.wh.co,Zaj b.box.fo,Zaj b.box.ma,Zaj b.box.sl,.int .i64 b.box.pl,.int .i64 b.box.sk,.int .i64 b.pl,.int .i64 b.cr,ZaO b.tray.recs,.int .i64 b.tray.at_,.int .i64 b.tray.way,.int .i64 b.tray.step,ZbR b.tray.pres]
def Bar.avs (b:Bar):List AV:=[iv b.box.wh.ro,.c (Zaj b.box.wh.no),.c (Zaj b.box.wh.co),.c (Zaj b.box.fo),.c (Zaj b.box.ma),.c (Zaj b.box.sl),iv b.box.pl,iv b.box.sk,iv b.pl,iv b.cr,.c (ZaO b.tray.recs),iv b.tray.at_,iv b.tray.way,iv b.tray.step,.c (ZbR b.tray.pres)]
def Bar.av (b:Bar):AV:=.agg b.avs
def Zcr (b:Bar):Bool:=bxB b.box&&(b.tray.ok&&(decide (0≤b.pl)&&(decide (b.pl<b.box.wh.ro)&&(decide (0≤b.cr)&&decide (b.cr≤20)))))
def ZeT (b:Bar):Int:=if Zcr b then 0 else 120
set_option maxRecDepth 100000 in
set_option maxHeartbeats 4000000 in
theorem check25 (b:Bar):FSpec Tryz.prog 91 [b.av] (iv (ZeT b)):=by
 have h1:=check28 b.box;have h2:=check40 b.tray;refine Zac c91 (Nat.le_refl _) (by decide) fun C hP hN hC hL=> ?_;rw[Zad]
 simp only[Zz4,Bar.av,Bar.avs];simp only[Bx.av,Bx.avs] at h1;simp only[Tray.av] at h2;refine vR ?_;(refine Zau (h1) ?_;simp only[go_sem,hP];refine vQ ?_;refine vR ?_)
 (refine Za9 (fun hG=>h2) ?_;simp only[go_sem,hP];refine vQ ?_;refine vR ?_)
 by_cases hb:Zcr b=true
 ·have he:ZeT b=0:=by unfold ZeT;rw[if_pos hb]
  rw[he];simp only[Zcr,Bool.and_eq_true,decide_eq_true_eq] at hb;have e1:bxE b.box=0:=by unfold bxE;rw[if_pos hb.1]
  have e2:(if b.tray.ok then (0:Int) else 20)=0:=by rw[if_pos hb.2.1]
  (refine vC ?_ ?_<;>intro h)
  ·exfalso;rw[e1,e2] at h;simp at h;omega
  ·refine vR ?_;(refine vT ?_;try exact trivial)
 ·have he:ZeT b=120:=by unfold ZeT;rw[if_neg hb]
  rw[he];(refine vC ?_ ?_<;>intro h)
  ·refine vR ?_;(refine vT ?_;try exact trivial)
  ·exfalso;apply hb;simp only[Zcr,Bool.and_eq_true,decide_eq_true_eq];have e1:bxB b.box=true:=by
    cases hx:bxB b.box with
    |true=>rfl
    |false=>unfold bxE at h;rw[hx] at h;simp at h
   have e2:b.tray.ok=true:=by
    cases hx:b.tray.ok with
    |true=>rfl
    |false=>rw[hx] at h;simp at h
   refine ⟨e1,e2,?_⟩;simp at h;omega
end Go.Proofs.YtcggfogkfhlmlaaGreatDoor
/-
 Ranks:the greater rest first,and of two equal ones the lesser number:plain.
-/
namespace Go.Proofs.YtcggfogkfhlmlaaGreatDoor
open Go Go.V
def before (f:Nat→Int) (a b:Nat):Bool:=decide (f b<f a)||(f a==f b&&decide (a<b))
theorem Zgr (f:Nat→Int) (a:Nat):before f a a=false:=by simp[before]
theorem ZeE (f:Nat→Int) {a b c:Nat} (h:before f a b=true) (k:before f b c=true):before f a c=true:=by
 unfold before at*;simp only[Bool.or_eq_true,decide_eq_true_eq,Bool.and_eq_true,beq_iff_eq] at*;omega
def rank (f:Nat→Int) (n i:Nat):Nat:=((List.range n).filter fun k=>before f k i).length
structure Ordered (f:Nat→Int) (n:Nat) (l:List Nat):Prop where
 perm:l.Perm (List.range n)
 sorted:l.Pairwise fun a b=>before f a b=true
theorem Ordered.len {f:Nat→Int} {n:Nat} {l:List Nat} (h:Ordered f n l):l.length=n:=by
 rw[h.perm.length_eq,List.length_range]
theorem Ordered.rank {f:Nat→Int} {n:Nat} {l:List Nat} (h:Ordered f n l) {j:Nat} (hj:j<l.length):rank f n l[j]=j:=by
 unfold Go.Proofs.YtcggfogkfhlmlaaGreatDoor.rank;rw[←(h.perm.filter _).length_eq];have e:l=l.take j++l[j]::l.drop (j+1):=by rw[List.getElem_cons_drop,List.take_append_drop]
 have hs:=List.pairwise_iff_getElem.1 h.sorted;have h1:(l.take j).filter (fun k=>before f k l[j])=l.take j:=by
  rw[List.filter_eq_self];intro x hx;obtain ⟨i,hi,rfl⟩:=List.mem_take_iff_getElem.1 hx;exact hs i j (by omega) hj (by omega)
 have h2:(l.drop (j+1)).filter (fun k=>before f k l[j])=[]:=by
  rw[List.filter_eq_nil_iff];intro x hx;obtain ⟨i,hi,rfl⟩:=List.mem_drop_iff_getElem.1 hx;have:=hs j (j+1+i) hj (by omega) (by omega);intro hb;have h3:=ZeE f this hb;rw[Zgr] at h3;cases h3
 have e2:l.filter (fun k=>before f k l[j])=(l.take j++l[j]::l.drop (j+1)).filter (fun k=>before f k l[j]):=congrArg (List.filter (fun k=>before f k l[j])) e;rw[e2,List.filter_append,List.filter_cons,h1,h2,Zgr];simp;omega
theorem Ordered.mem {f:Nat→Int} {n:Nat} {l:List Nat} (h:Ordered f n l) {i:Nat} (hi:i<n):∃j,∃hj:j<l.length,l[j]=i:=by
 have:i∈l:=h.perm.mem_iff.2 (List.mem_range.2 hi);obtain ⟨j,hj,e⟩:=List.mem_iff_getElem.1 this;exact ⟨j,hj,e⟩
theorem Ordered.lt {f:Nat→Int} {n:Nat} {l:List Nat} (h:Ordered f n l) {j:Nat} (hj:j<l.length):l[j]<n:=
 List.mem_range.1 (h.perm.mem_iff.1 (List.getElem_mem hj))
def mv {α:Type} (l:List α) (i j:Nat):List α:=l.take j++((l.drop i).take 1++((l.drop j).take (i -j)++l.drop (i+1)))
theorem Zii {α:Type} {l:List α} {i j:Nat} (hi:i<l.length) (hj:j≤i):(mv l i j).length=l.length:=by
 simp[mv];omega
theorem ZgD {α:Type} {l:List α} {i j:Nat} (hi:i<l.length) (hj:j≤i) (t:Nat):(mv l i j)[t]? =if t<j then l[t]? else if t=j then l[i]? else if t≤i then l[t -1]? else l[t]?:=by
 unfold mv;rw[List.getElem?_append];have e1:(l.take j).length=j:=by simp;omega
 have e2:((l.drop i).take 1).length=1:=by simp;omega
 have e3:((l.drop j).take (i -j)).length=i -j:=by simp;omega
 rw[e1];split
 ·rename_i h;rw[List.getElem?_take,if_pos h]
 ·rename_i h;rw[List.getElem?_append,e2];split
  ·rename_i h2;have:t=j:=by omega
   subst this;rw[if_pos rfl,List.getElem?_take,if_pos (by omega),List.getElem?_drop];congr 1
   omega
  ·rename_i h2;rw[if_neg (by omega),List.getElem?_append,e3];split
   ·rename_i h3;rw[if_pos (by omega),List.getElem?_take,if_pos h3,List.getElem?_drop];congr 1
    omega
   ·rename_i h3;rw[if_neg (by omega),List.getElem?_drop];congr 1
    omega
theorem ZrY {α:Type} {l:List α} {i:Nat} (hi:i<l.length):mv l i i=l:=by
 apply List.ext_getElem?;intro t;rw[ZgD hi (Nat.le_refl _)];split
 ·rfl
 ·split
  ·rename_i h;rw[h]
  ·rw[if_neg (by omega)]
theorem ZrZ {α:Type} {l:List α} {i j:Nat} (hi:i<l.length) (hj:j<i) (x y:α) (hx:l[i]? =some x) (hy:l[j]? =some y):((mv l i (j+1)).set (j+1) y).set j x=mv l i j:=by
 apply List.ext_getElem?;intro t;rw[List.getElem?_set,List.getElem?_set,List.length_set,Zii hi hj,ZgD hi hj,ZgD hi (by omega)];by_cases h1:j=t
 ·subst h1;rw[if_pos rfl,if_pos (by omega),if_neg (by omega),if_pos rfl,hx]
 ·rw[if_neg h1];by_cases h2:j+1=t
  ·subst h2;rw[if_pos rfl,if_pos (by omega),if_neg (by omega),if_neg (by omega),if_pos (by omega),Nat.add_sub_cancel,hy]
  ·rw[if_neg h2];by_cases h3:t<j
   ·rw[if_pos (by omega),if_pos h3]
   ·rw[if_neg (by omega),if_neg (by omega),if_neg h3,if_neg (show¬t=j from fun e=>h1 e.symm)]
structure SortI (f:Nat→Int) (n i:Nat) (l:List Nat):Prop where
 len:l.length=n
 perm:(l.take i).Perm (List.range i)
 sorted:(l.take i).Pairwise fun a b=>before f a b=true
 rest:∀t,i≤t→t<n→l[t]? =some t
theorem SortI.first (f:Nat→Int) {n:Nat} (hn:0<n):SortI f n 1 (List.range n):=by
 have e:(List.range n).take 1=[0]:=by
  cases n with
  |zero=>omega
  |succ n=>rw[List.range_succ_eq_map];rfl
 refine ⟨by simp,?_,?_,fun t _ h=>by simp[h]⟩
 ·rw[e];exact List.Perm.refl _
 ·rw[e];simp
theorem SortI.lt {f:Nat→Int} {n i:Nat} {l:List Nat} (h:SortI f n i l) {t:Nat} (ht:t<i) (hi:i≤n) {x:Nat} (hx:l[t]? =some x):x<i:=by
 have:x∈l.take i:=by
  rw[List.mem_take_iff_getElem];obtain ⟨h1,h2⟩:=List.getElem?_eq_some_iff.1 hx;exact ⟨t,by omega,h2⟩
 exact List.mem_range.1 (h.perm.mem_iff.1 this)
theorem SortI.step {f:Nat→Int} {n i j:Nat} {l:List Nat} (h:SortI f n i l) (hi:i<n) (hj:j≤i) (h1:∀t x,j≤t→t<i→l[t]? =some x→f x<f i) (h2:∀x,0<j→l[j -1]? =some x→f i≤f x):SortI f n (i+1) (mv l i j):=by
 have hl:=h.len;have hx:(l.drop i).take 1=[i]:=by
  rw[List.drop_eq_getElem_cons (by omega)];have:=h.rest i (Nat.le_refl _) hi;rw[List.getElem?_eq_getElem (by omega)] at this;simp only[Option.some.injEq] at this;simp[this]
 have ht:(mv l i j).take (i+1)=l.take j++(i::(l.drop j).take (i -j)):=by
  unfold mv;rw[hx,←List.append_assoc [i],←List.append_assoc (l.take j),List.take_left' (by simp;omega)];rfl
 have hp:l.take i=l.take j++(l.drop j).take (i -j):=by
  have:=List.take_append_drop j (l.take i);rw[List.take_take,List.drop_take,Nat.min_eq_left hj] at this;exact this.symm
 have hs:=h.sorted;rw[hp,List.pairwise_append] at hs;have hA:∀x∈l.take j,before f x i=true:=by
  intro x hxm;obtain ⟨t,htl,rfl⟩:=List.mem_take_iff_getElem.1 hxm;have hti:l[t]<i:=h.lt (t:=t) (by omega) (by omega) (List.getElem?_eq_getElem (by omega));have hlast:before f (l[j -1]'(by omega)) i=true:=by
   have h3:=h2 _ (by omega) (List.getElem?_eq_getElem (by omega));have h4:l[j -1]'(by omega)<i:=h.lt (t:=j -1) (by omega) (by omega) (List.getElem?_eq_getElem (by omega));simp only[before,Bool.or_eq_true,decide_eq_true_eq,Bool.and_eq_true,beq_iff_eq];omega
  by_cases htj:t=j -1
  ·subst htj;exact hlast
  ·refine ZeE f ?_ hlast;have:=List.pairwise_iff_getElem.1 h.sorted t (j -1) (by simp;omega) (by simp;omega) (by omega);simpa using this
 have hB:∀x∈(l.drop j).take (i -j),before f i x=true:=by
  intro x hxm;obtain ⟨t,htl,rfl⟩:=List.mem_take_iff_getElem.1 hxm;simp only[List.getElem_drop];have h3:=h1 (j+t) _ (by omega) (by simp at htl;omega) (List.getElem?_eq_getElem (by simp at htl;omega));simp only[before,Bool.or_eq_true,decide_eq_true_eq];exact .inl h3
 refine ⟨by rw[Zii (by omega) hj];exact hl,?_,?_,fun t h3 h4=> ?_⟩
 ·rw[ht,List.range_succ];refine List.perm_middle.trans ?_;rw[←hp];exact (List.Perm.cons i h.perm).trans (List.perm_append_comm (l₁:=[i]))
 ·rw[ht,List.pairwise_append,List.pairwise_cons];refine ⟨hs.1,⟨hB,hs.2.1⟩,fun a ha b hb=> ?_⟩;rcases List.mem_cons.1 hb with rfl|hb
  ·exact hA a ha
  ·exact hs.2.2 a ha b hb
 ·rw[ZgD (by omega) hj,if_neg (by omega),if_neg (by omega),if_neg (by omega)];exact h.rest t (by omega) h4
theorem SortI.done {f:Nat→Int} {n i:Nat} {l:List Nat} (h:SortI f n i l) (hi:n≤i):Ordered f n l:=by
 have hl:=h.len;have h1:=h.perm;have h2:=h.sorted;rw[List.take_of_length_le (by omega)] at h1 h2;have:i=n:=by
  have:=h1.length_eq;simp at this;omega
 subst this;exact ⟨h1,h2⟩
end Go.Proofs.YtcggfogkfhlmlaaGreatDoor
/-
 The carriage:plain.
-/
namespace Go.Proofs.YtcggfogkfhlmlaaGreatDoor
open Go Go.V
structure Sp where
 at_:Int
 way:Int
 side:Int
 from_:Int
 deriving DecidableEq,Inhabited
def Sp.cds (s:Sp):List CD:=[.int .i64 s.at_,.int .i64 s.way,.int .i64 s.side,.int .i64 s.from_]
def Zi3 (up:Bool):Int:=if up then 1 else-1
structure Cs where
 q:List Pr
 pins:List Bool
 now:Int
 at_:Nat
 up:Bool
 side:Int
 spells:List Sp
 plays:List Pr
 steps:Int
 end_:Int
 deriving DecidableEq,Inhabited
def Zf6 (k:Nat) (up:Bool):Nat:=if up then 2*k else 2*k+1
def Tray.rc (t:Tray) (k:Nat):Rec:=t.recs.getD k default
def Zlw (t:Tray) (s:Nat):Int:=if s % 2=0 then (t.rc (s/2)).front else (t.rc (s/2)).back
def Cs.mark (s:Cs) (side:Int):Cs:={s with side:=side,spells:=s.spells++[⟨s.at_,Zi3 s.up,side,s.now⟩]}
def Zbz (now:Int):List Pr→List Bool→List Pr×List Bool
 |[],pins=>([],pins)
 |p::q,pins=>if p.time≤now then Zbz now q (pins.set p.side.toNat true) else (p::q,pins)
def Cs.press (s:Cs):Cs:={s with q:=(Zbz s.now s.q s.pins).1,pins:=(Zbz s.now s.q s.pins).2}
def Cs.move (t:Tray) (s:Cs):Cs:=
 if s.up then (if s.at_+1<t.n then {s with at_:=s.at_+1,now:=s.now+t.step,steps:=s.steps+1} else {s with up:=false})
 else (if 0<s.at_ then {s with at_:=s.at_ -1,now:=s.now+t.step,steps:=s.steps+1} else {s with up:=true})
def Cs.next (t:Tray) (s:Cs):Cs:=(s.move t).mark (-1)
def Cs.pos (s:Cs):Nat:=Zf6 s.at_ s.up
def Cs.play1 (s:Cs):Cs:=({s with pins:=s.pins.set s.pos false,plays:=s.plays++[⟨s.pos,s.now⟩]}:Cs).mark s.pos
def Cs.play2 (t:Tray) (s:Cs):Cs:=({s with now:=s.now+Zlw t s.pos,end_:=s.now+Zlw t s.pos}:Cs).mark (-1)
def Cs.play (t:Tray) (s:Cs):Cs:=if s.pins.getD s.pos false=true then (s.play1).play2 t else s
def Cs.act1 (t:Tray) (s:Cs):Option Cs:=
 if s.pins.all (!·) then (match s.q with|[]=>none|p::_=>some {s with now:=p.time}) else some ((s.play t).next t)
def Cs.act (t:Tray) (s:Cs):Option Cs:=s.press.act1 t
def Zoi (t:Tray):Nat→Cs→Cs
 |0,s=>s
 |k+1,s=>match s.act t with|none=>s.press|some s'=>Zoi t k s'
def Zcn (t:Tray) (q:List Pr):Cs:=⟨q,List.replicate (2*t.n) false,0,t.at_.toNat,t.way==1,-1,[],[],0,0⟩
def ZdZ (t:Tray) (q:List Pr):Cs:=Zoi t 250 ((Zcn t q).mark (-1))
def cyc (n:Nat) (k:Nat) (up:Bool):Nat:=if up then k else 2*n -1 -k
def ZdC (n:Nat) (s:Nat):Nat:=cyc n (s/2) (s % 2==0)
theorem Zk7 (n k:Nat) (up:Bool):ZdC n (Zf6 k up)=cyc n k up:=by
 unfold ZdC Zf6;cases up
 ·have h1:(2*k+1)/2=k:=by omega
  have h2:((2*k+1) % 2==0)=false:=by simp
  simp only[Bool.false_eq_true,if_false,h1,h2]
 ·have h1:(2*k)/2=k:=by omega
  have h2:((2*k) % 2==0)=true:=by simp
  simp only[if_true,h1,h2]
theorem Zg9 {n s:Nat} (h:s<2*n):ZdC n s<2*n:=by
 unfold ZdC cyc;split<;>omega
theorem Zh3 {n s s':Nat} (h:s<2*n) (h':s'<2*n) (e:ZdC n s=ZdC n s'):s=s':=by
 unfold ZdC cyc at e;by_cases h1:s % 2=0<;>by_cases h2:s' % 2=0<;>simp[h1,h2] at e<;>omega
def ZoP (n c d:Nat):Nat:=if c≤d then d -c else d+2*n -c
theorem Zrz {n c d:Nat} (hc:c<2*n) (hd:d<2*n):ZoP n c d<2*n:=by unfold ZoP;split<;>omega
def ZdB (n c:Nat):Nat:=if c+1=2*n then 0 else c+1
theorem Zh4 {n c d:Nat} (hc:c<2*n) (hd:d<2*n) (h:c≠d):ZoP n (ZdB n c) d+1=ZoP n c d:=by
 unfold ZoP ZdB;split<;>split<;>split<;>omega
structure CsOk (t:Tray) (s:Cs):Prop where
 at_:s.at_<t.n
 pins:s.pins.length=2*t.n
 q:∀p∈s.q,(0≤p.side∧p.side<2*(t.n:Int))∧(0≤p.time∧p.time≤9999)
 now:0≤s.now
 sorted:s.q.Pairwise fun a b=>a.time≤b.time
def Zdf (n c:Nat) (pins:List Bool):Nat:=((List.range pins.length).map fun s=>if pins.getD s false then ZoP n c (ZdC n s)+1 else 0).sum
def jW (s:Cs):Nat:=match s.q with|[]=>0|p::_=>if s.now<p.time then 1 else 0
def Cs.c (t:Tray) (s:Cs):Nat:=cyc t.n s.at_ s.up
def mu (t:Tray) (s:Cs):Nat:=(2*t.n+2)*s.q.length+Zdf t.n (s.c t) s.pins+jW s
theorem ZqV {l:List Nat} {f g:Nat→Nat} (h:∀i∈l,f i≤g i):(l.map f).sum≤(l.map g).sum:=by
 induction l with
 |nil=>simp
 |cons a l ih=>
  simp only[List.map_cons,List.sum_cons];have:=h a (by simp);have:=ih fun i hi=>h i (by simp[hi])
  omega
theorem Zs6 {l:List Nat} (hn:l.Nodup) {f g:Nat→Nat} {k d:Nat} (h:∀i∈l,i≠k→f i≤g i) (hk:f k≤g k+d):(l.map f).sum≤(l.map g).sum+d:=by
 induction l with
 |nil=>simp
 |cons a l ih=>
  have hn':=List.nodup_cons.1 hn;simp only[List.map_cons,List.sum_cons];by_cases e:a=k
  ·subst e;have:(l.map f).sum≤(l.map g).sum:=ZqV fun i hi=>h i (by simp[hi]) (fun e=>hn'.1 (e▸hi))
   omega
  ·have h1:=h a (by simp) e;have:=ih hn'.2 fun i hi hne=>h i (by simp[hi]) hne
   omega
theorem ZwQ {l:List Nat} {f g:Nat→Nat} (h:∀i∈l,f i≤g i) {k:Nat} (hm:k∈l) (hk:f k<g k):(l.map f).sum<(l.map g).sum:=by
 induction l with
 |nil=>cases hm
 |cons a l ih=>
  simp only[List.map_cons,List.sum_cons];rcases List.mem_cons.1 hm with rfl|hm
  ·have:=ZqV (l:=l) (f:=f) (g:=g) fun i hi=>h i (by simp[hi])
   omega
  ·have h1:=h a (by simp);have:=ih (fun i hi=>h i (by simp[hi])) hm;omega
theorem ZgK (now:Int):∀(q:List Pr) (pins:List Bool),(Zbz now q pins).2.length=pins.length
 |[],pins=>rfl
 |p::q,pins=>by
  simp only[Zbz];split
  ·rw[ZgK now q];simp
  ·rfl
theorem Zb7 (now:Int):∀(q:List Pr) (pins:List Bool),∃k,(Zbz now q pins).1=q.drop k
 |[],pins=>⟨0,rfl⟩
 |p::q,pins=>by
  simp only[Zbz];split
  ·obtain ⟨k,h⟩:=Zb7 now q (pins.set p.side.toNat true);exact ⟨k+1,by rw[h];rfl⟩
  ·exact ⟨0,rfl⟩
theorem ZfX (now:Int):∀(q:List Pr) (pins:List Bool),∀p q',(Zbz now q pins).1=p::q'→now<p.time
 |[],pins,p,q',h=>by cases h
 |a::q,pins,p,q',h=>by
  simp only[Zbz] at h;split at h
  ·exact ZfX now q _ p q' h
  ·rename_i hn;simp only[List.cons.injEq] at h;obtain ⟨rfl,_⟩:=h;omega
theorem CsOk.press {t:Tray} {s:Cs} (h:CsOk t s):CsOk t s.press:=by
 obtain ⟨k,hk⟩:=Zb7 s.now s.q s.pins;refine ⟨h.at_,by simp only[Cs.press];rw[ZgK];exact h.pins,fun p hp=> ?_,h.now,?_⟩
 ·simp only[Cs.press,hk] at hp;exact h.q p (List.mem_of_mem_drop hp)
 ·simp only[Cs.press,hk];exact h.sorted.sublist (List.drop_sublist _ _)
theorem Znb {n c:Nat} {pins:List Bool} {k:Nat} (hc:c<2*n) (hl:pins.length=2*n) (hk:k<2*n):Zdf n c (pins.set k true)≤Zdf n c pins+2*n:=by
 unfold Zdf;rw[List.length_set];refine Zs6 (k:=k) List.nodup_range (fun i _ hne=> ?_) ?_
 ·have e2:(pins.set k true).getD i false=pins.getD i false:=by
   rw[List.getD_eq_getElem?_getD,List.getElem?_set,if_neg (fun e=>hne e.symm),←List.getD_eq_getElem?_getD]
  rw[e2];exact Nat.le_refl _
 ·have:=Zrz hc (Zg9 (n:=n) (s:=k) (by omega));split<;>omega
theorem Zit {n c:Nat} (hc:c<2*n) (now:Int):∀(q:List Pr) (pins:List Bool),pins.length=2*n→(∀p∈q,0≤p.side∧p.side<2*(n:Int))→
  (2*n+2)*(Zbz now q pins).1.length+Zdf n c (Zbz now q pins).2+2*(q.length -(Zbz now q pins).1.length)≤(2*n+2)*q.length+Zdf n c pins∧(Zbz now q pins).1.length≤q.length
 |[],pins,_,_=>by simp[Zbz]
 |p::q,pins,hl,h=>by
  simp only[Zbz];split
  ·have hp:=h p (by simp);have ih:=Zit hc now q (pins.set p.side.toNat true) (by simpa using hl) fun x hx=>h x (by simp[hx])
   have hs:=Znb hc hl (k:=p.side.toNat) (by omega);obtain ⟨i1,i2⟩:=ih;simp only[List.length_cons];have e:(2*n+2)*(q.length+1)=(2*n+2)*q.length+(2*n+2):=Nat.mul_succ _ _;rw[e];generalize (2*n+2)*q.length=A at*;generalize (2*n+2)*(Zbz now q (pins.set p.side.toNat true)).1.length=B at*;constructor<;>omega
  ·simp
theorem ZuJ {n k:Nat} {up:Bool} (h:k<n):cyc n k up<2*n:=by unfold cyc;split<;>omega
theorem Cs.c_lt {t:Tray} {s:Cs} (h:CsOk t s):s.c t<2*t.n:=ZuJ h.at_
theorem Zko {t:Tray} {s:Cs} (h:CsOk t s):(2*t.n+2)*s.press.q.length+Zdf t.n (s.press.c t) s.press.pins+2*(s.q.length -s.press.q.length)≤(2*t.n+2)*s.q.length+Zdf t.n (s.c t) s.pins∧s.press.q.length≤s.q.length:=
 Zit (Cs.c_lt h) s.now s.q s.pins h.pins fun p hp=>(h.q p hp).1
theorem Zne {t:Tray} {s:Cs} (h:CsOk t s):s.pos<2*t.n:=by have:=h.at_;unfold Cs.pos Zf6;split<;>omega
theorem Zry (t:Tray) (s:Cs):ZdC t.n s.pos=s.c t:=Zk7 _ _ _
theorem ZqK {t:Tray} {s:Cs} (h:s.at_<t.n):(s.move t).c t=ZdB t.n (s.c t)∧(s.move t).at_<t.n:=by
 unfold Cs.move Cs.c ZdB cyc;cases hu:s.up
 ·by_cases h0:0<s.at_
  ·simp[hu,h0];repeat' (first|omega|split|apply And.intro)
  ·simp[hu,h0];repeat' (first|omega|split|apply And.intro)
 ·by_cases h1:s.at_+1<t.n
  ·simp[hu,h1];repeat' (first|omega|split|apply And.intro)
  ·simp[hu,h1];repeat' (first|omega|split|apply And.intro)
theorem ZmZ (t:Tray) (s:Cs):(s.move t).q=s.q∧(s.move t).pins=s.pins∧(s.move t).plays=s.plays∧(s.move t).spells=s.spells∧(s.move t).end_=s.end_:=by
 unfold Cs.move;split<;>split<;>exact ⟨rfl,rfl,rfl,rfl,rfl⟩
theorem Zkn {t:Tray} (ht:0≤t.step) (s:Cs):s.now≤(s.move t).now∧(s.move t).now≤s.now+t.step∧s.steps≤(s.move t).steps∧(s.move t).steps≤s.steps+1:=by
 unfold Cs.move;split<;>split<;>simp only<;>omega
theorem Zln {n c:Nat} {pins:List Bool} (hc:c<2*n) (hl:pins.length=2*n) {k:Nat} (hk:k<2*n) (hck:ZdC n k=c) (h:pins.all (!·)=false):
  Zdf n (ZdB n c) (pins.set k false)<Zdf n c pins:=by
 unfold Zdf;rw[List.length_set,hl];obtain ⟨b,hb,hbt⟩:=List.all_eq_false.1 h;obtain ⟨i,hi,rfl⟩:=List.mem_iff_getElem.1 hb;have hbi:pins[i]=true:=by simpa using hbt
 have hle:∀j∈List.range (2*n),(if (pins.set k false).getD j false then ZoP n (ZdB n c) (ZdC n j)+1 else 0)≤(if pins.getD j false then ZoP n c (ZdC n j)+1 else 0):=by
  intro j hj;have hj:=List.mem_range.1 hj;by_cases e:k=j
  ·subst e;have:(pins.set k false).getD k false=false:=by
    rw[List.getD_eq_getElem?_getD,List.getElem?_set,if_pos rfl];split<;>rfl
   rw[this];simp
  ·have e2:(pins.set k false).getD j false=pins.getD j false:=by
    rw[List.getD_eq_getElem?_getD,List.getElem?_set,if_neg e,←List.getD_eq_getElem?_getD]
   rw[e2];have hne:c≠ZdC n j:=fun h=>e (Zh3 hk hj (by rw[hck,h]))
   have:=Zh4 hc (Zg9 hj) hne;split<;>omega
 refine ZwQ hle (k:=i) (List.mem_range.2 (by omega)) ?_;have hgi:pins.getD i false=true:=by rw[List.getD_eq_getElem?_getD,List.getElem?_eq_getElem hi];exact hbi
 rw[hgi];by_cases e:k=i
 ·subst e;have:(pins.set k false).getD k false=false:=by
   rw[List.getD_eq_getElem?_getD,List.getElem?_set,if_pos rfl];split<;>rfl
  rw[this];simp
 ·have e2:(pins.set k false).getD i false=true:=by
   rw[List.getD_eq_getElem?_getD,List.getElem?_set,if_neg e,←List.getD_eq_getElem?_getD];exact hgi
  rw[e2];have hne:c≠ZdC n i:=fun h=>e (Zh3 hk (by omega) (by rw[hck,h]))
  have:=Zh4 hc (Zg9 (s:=i) (n:=n) (by omega)) hne;simp;omega
theorem ZnU {pins:List Bool} {k:Nat} (h:pins.getD k false≠true):pins.set k false=pins:=by
 apply List.ext_getElem?;intro i;rw[List.getElem?_set];split
 ·rename_i e;subst e;split
  ·rename_i hk;rw[List.getD_eq_getElem?_getD,List.getElem?_eq_getElem hk] at h;rw[List.getElem?_eq_getElem hk];simp only[Option.getD_some] at h;simp at h;rw[h]
  ·rename_i hk;rw[List.getElem?_eq_none (by omega)]
 ·rfl
theorem Zd4 (t:Tray) (s:Cs):(s.play t).pins=s.pins.set s.pos false∧(s.play t).q=s.q∧(s.play t).at_=s.at_∧(s.play t).up=s.up:=by
 unfold Cs.play;split
 ·exact ⟨rfl,rfl,rfl,rfl⟩
 ·rename_i h;exact ⟨(ZnU h).symm,rfl,rfl,rfl⟩
theorem ZwG {t:Tray} (h:TrayOk t) {k:Nat} (hk:k<t.n):(1≤(t.rc k).front∧(t.rc k).front≤999)∧(1≤(t.rc k).back∧(t.rc k).back≤999):=by
 have hk':k<t.recs.length:=hk;have:=h.recs _ (List.getElem_mem hk');unfold Tray.rc;rwa [List.getD_eq_getElem?_getD,List.getElem?_eq_getElem hk']
theorem ZnS {t:Tray} (h:TrayOk t) {s:Nat} (hs:s<2*t.n):1≤Zlw t s∧Zlw t s≤999:=by
 have:=ZwG h (k:=s/2) (by omega);unfold Zlw;split
 ·exact this.1
 ·exact this.2
theorem Zho {t:Tray} (h:TrayOk t) {s:Cs} (hs:CsOk t s):s.now≤(s.play t).now∧(s.play t).now≤s.now+999∧(s.play t).steps=s.steps:=by
 have:=ZnS h (Zne hs);unfold Cs.play;split
 ·refine ⟨?_,?_,rfl⟩<;>show _≤_<;>simp only[Cs.play2,Cs.play1,Cs.mark,Cs.pos] at* <;>omega
 ·exact ⟨Int.le_refl _,by omega,rfl⟩
theorem Zrd {t:Tray} (h:TrayOk t) {s s':Cs} (hs:CsOk t s) (e:s.act1 t=some s'):CsOk t s':=by
 unfold Cs.act1 at e;split at e
 ·split at e
  ·cases e
  ·rename_i p q hq;simp only[Option.some.injEq] at e;subst e;exact ⟨hs.at_,hs.pins,hs.q,(hs.q p (by rw[hq];simp)).2.1,hs.sorted⟩
 ·simp only[Option.some.injEq] at e;subst e;obtain ⟨p1,p2,p3,p4⟩:=Zd4 t s;obtain ⟨m1,m2,m3,m4,m5⟩:=ZmZ t (s.play t);have hn:=Zho h hs;have hm:=Zkn h.step.1 (s.play t);refine ⟨(ZqK (by rw[p3];exact hs.at_)).2,?_,fun p hp=> ?_,?_,?_⟩
  ·show ((s.play t).move t).pins.length=_;rw[m2,p1,List.length_set];exact hs.pins
  ·have hp':p∈((s.play t).move t).q:=hp;rw[m1,p2] at hp';exact hs.q p hp'
  ·show 0≤((s.play t).move t).now;have:=hs.now;omega
  ·show ((s.play t).move t).q.Pairwise _;rw[m1,p2];exact hs.sorted
theorem Zuq {t:Tray} (h:TrayOk t) {s s':Cs} (hs:CsOk t s) (e:s.act t=some s'):CsOk t s':=Zrd h hs.press e
theorem Zup {t:Tray} {s s':Cs} (hs:CsOk t s) (e:s.act t=some s'):mu t s'<mu t s:=by
 have hpr:=Zko hs;have hp:=hs.press;have hhead:=ZfX s.now s.q s.pins;have hnow:s.press.now=s.now:=rfl;unfold Cs.act at e;have hj1:s.press.q.length=s.q.length→s.press.q=s.q:=by
  intro hl;obtain ⟨k,hk⟩:=Zb7 s.now s.q s.pins;have e1:s.press.q=s.q.drop k:=hk;rw[e1] at hl⊢;rw[List.length_drop] at hl;by_cases hk0:k=0
  ·rw[hk0];rfl
  ·have:s.q=[]:=by cases hq:s.q with
    |nil=>rfl
    |cons a l=>rw[hq] at hl;simp at hl;omega
   rw[this];simp
 have hjle:∀x:Cs,jW x≤1:=fun x=>by unfold jW;split<;>(try split)<;>omega
 have hjp:s.press.q=s.q→s.q≠[]→jW s=1:=by
  intro he hne;unfold jW;cases hq:s.q with
  |nil=>exact absurd hq hne
  |cons p q=>
   have:s.press.q=p::q:=by rw[he,hq]
   have:=hhead p q this;simp[this]
 unfold Cs.act1 at e;split at e
 ·split at e
  ·cases e
  ·rename_i p q hq;simp only[Option.some.injEq] at e;subst e;unfold mu;have hj0:jW ({s.press with now:=p.time}:Cs)=0:=by unfold jW;simp only[hq];simp
   rw[hj0];show (2*t.n+2)*s.press.q.length+Zdf t.n (s.press.c t) s.press.pins+0<_;by_cases hl:s.press.q.length=s.q.length
   ·have he:=hj1 hl;have hne:s.q≠[]:=by rw[←he,hq];simp
    have:=hjp he hne;omega
   ·omega
 ·rename_i hall;have hall:s.press.pins.all (!·)=false:=by simpa using hall
  simp only[Option.some.injEq] at e;subst e;obtain ⟨p1,p2,p3,p4⟩:=Zd4 t s.press;obtain ⟨m1,m2,m3,m4,m5⟩:=ZmZ t (s.press.play t);have hc1:(s.press.play t).c t=s.press.c t:=by unfold Cs.c;rw[p3,p4]
  have hmv:=(ZqK (t:=t) (s:=s.press.play t) (by rw[p3];exact hp.at_)).1;rw[hc1] at hmv;have hw:=Zln (Cs.c_lt hp) hp.pins (Zne hp) (Zry t s.press) hall;have e1:mu t ((s.press.play t).next t)=(2*t.n+2)*s.press.q.length+Zdf t.n (ZdB t.n (s.press.c t)) (s.press.pins.set s.press.pos false)+jW ((s.press.play t).next t):=by
   unfold mu;show (2*t.n+2)*((s.press.play t).move t).q.length+Zdf t.n (((s.press.play t).move t).c t) ((s.press.play t).move t).pins+_=_;rw[m1,m2,hmv,p1,p2]
  rw[e1];unfold mu;have hj2:=hjle ((s.press.play t).next t);by_cases hl:s.press.q.length=s.q.length
  ·have he:=hj1 hl;by_cases hne:s.q=[]
   ·have:jW ((s.press.play t).next t)=0:=by
     unfold jW;have:((s.press.play t).next t).q=[]:=by
      show ((s.press.play t).move t).q=[];rw[m1,p2,he,hne]
     rw[this]
    omega
   ·have:=hjp he hne;omega
  ·omega
end Go.Proofs.YtcggfogkfhlmlaaGreatDoor
/-
 The order by times,and how far a run goes:plain.
-/
namespace Go.Proofs.YtcggfogkfhlmlaaGreatDoor
open Go Go.V
theorem ZjH (f:Nat→Int) {n:Nat}:∃l,Ordered f n l:=by
 cases n with
 |zero=>exact ⟨[],by simp,List.Pairwise.nil⟩
 |succ n=>
  have h:∀i,1≤i→i≤n+1→∃l,SortI f (n+1) i l:=by
   intro i;induction i with
   |zero=>intro h;omega
   |succ i ih=>
    intro _ hi;cases i with
    |zero=>exact ⟨_,SortI.first f (by omega)⟩
    |succ i=>
     obtain ⟨l,hl⟩:=ih (by omega) (by omega);have hj:∀m,m≤i+1→∃j,j≤i+1∧(∀t x,j≤t→t<i+1→l[t]? =some x→f x<f (i+1))∧(j≤i+1 -m∨∃x,0<j∧l[j -1]? =some x∧f (i+1)≤f x):=by
      intro m;induction m with
      |zero=>intro _;exact ⟨i+1,Nat.le_refl _,fun t x h1 h2=>by omega,.inl (by omega)⟩
      |succ m ihm=>
       intro hm;obtain ⟨j,h1,h2,h3⟩:=ihm (by omega);rcases h3 with h3|h3
       ·by_cases hj0:j≤i+1 -(m+1)
        ·exact ⟨j,h1,h2,.inl hj0⟩
        ·have hlen:=hl.len;have hjl:j -1<l.length:=by omega
         have hg:l[j -1]? =some l[j -1]:=List.getElem?_eq_getElem hjl;by_cases hf:f l[j -1]<f (i+1)
         ·refine ⟨j -1,by omega,fun t x h4 h5 h6=> ?_,.inl (by omega)⟩;by_cases ht:t=j -1
          ·subst ht;rw[hg] at h6;cases h6;exact hf
          ·exact h2 t x (by omega) h5 h6
         ·exact ⟨j,h1,h2,.inr ⟨_,by omega,hg,by omega⟩⟩
       ·exact ⟨j,h1,h2,.inr h3⟩
     obtain ⟨j,h1,h2,h3⟩:=hj (i+1) (Nat.le_refl _);refine ⟨_,hl.step (by omega) h1 h2 fun x h4 h5=> ?_⟩;rcases h3 with h3|⟨y,_,h6,h7⟩
     ·omega
     ·rw[h5] at h6;cases h6;exact h7
  obtain ⟨l,hl⟩:=h (n+1) (by omega) (Nat.le_refl _);exact ⟨l,hl.done (Nat.le_refl _)⟩
def Zt6 (f:Nat→Int) (n:Nat):List Nat:=(List.range n).map fun j=>((List.range n).find? fun i=>rank f n i==j).getD 0
theorem ZgH {f:Nat→Int} {n:Nat} {l:List Nat} (h:Ordered f n l):l=Zt6 f n:=by
 have hl:=h.len;apply List.ext_getElem
 ·simp[Zt6,hl]
 ·intro j h1 h2;have hr:=h.rank h1;have hm:l[j]<n:=h.lt h1;have e:(Zt6 f n)[j]=((List.range n).find? fun i=>rank f n i==j).getD 0:=by simp[Zt6]
  rw[e];cases hf:(List.range n).find? (fun i=>rank f n i==j) with
  |none=>
   have:=List.find?_eq_none.1 hf l[j] (List.mem_range.2 hm);simp[hr] at this
  |some i=>
   have h3:=List.find?_some hf;have h4:=List.mem_range.1 (List.mem_of_find?_eq_some hf);obtain ⟨j',hj',rfl⟩:=h.mem h4;have h5:=h.rank hj';simp only[beq_iff_eq] at h3;have:j'=j:=by omega
   subst this;rfl
theorem Zm5 (f:Nat→Int) (n:Nat):Ordered f n (Zt6 f n):=by
 obtain ⟨l,hl⟩:=ZjH f (n:=n);rw[←ZgH hl];exact hl
def Ze4 (L:List Pr) (k:Nat):Int:=-(L.getD k default).time
def arr (L:List Pr) (π:List Nat):List Pr:=π.map fun k=>L.getD k default
def Zf7 (L:List Pr):List Pr:=arr L (Zt6 (Ze4 L) L.length)
theorem ZgQ (L:List Pr):(Zf7 L).Perm L:=by
 have h:=(Zm5 (Ze4 L) L.length).perm.map fun k=>L.getD k default
 have e:(List.range L.length).map (fun k=>L.getD k default)=L:=by
  apply List.ext_getElem (by simp);intro i h1 h2;simp[h2]
 rw[e] at h;exact h
theorem ZnW (L:List Pr):(Zf7 L).length=L.length:=(ZgQ L).length_eq
theorem ZiQ (L:List Pr):(Zf7 L).Pairwise fun a b=>a.time≤b.time:=by
 unfold Zf7 arr;rw[List.pairwise_map];refine (Zm5 (Ze4 L) L.length).sorted.imp fun {a b} h=> ?_
 have h':Ze4 L b<Ze4 L a∨(Ze4 L a=Ze4 L b∧a<b):=by simpa [before] using h
 have ea:Ze4 L a= -(L.getD a default).time:=rfl;have eb:Ze4 L b= -(L.getD b default).time:=rfl;show (L.getD a default).time≤(L.getD b default).time;omega
def Zjr (t:Tray):Cs:=ZdZ t (Zf7 t.pres)
theorem Zlo (n c m:Nat):Zdf n c (List.replicate m false)=0:=by
 unfold Zdf;have:((List.range (List.replicate m false).length).map fun s=>if (List.replicate m false).getD s false then ZoP n c (ZdC n s)+1 else 0)=(List.range (List.replicate m false).length).map fun _=>0:=by
  refine List.map_congr_left fun s _=> ?_
  rw[List.getD_eq_getElem?_getD,List.getElem?_replicate];split<;>simp at*
 rw[this];induction (List.range (List.replicate m false).length) with
 |nil=>rfl
 |cons a l ih=>simpa using ih
theorem ZnY {t:Tray} (ht:TrayOk t) {q:List Pr} (hq:q.Perm t.pres) (hs:q.Pairwise fun a b=>a.time≤b.time):CsOk t ((Zcn t q).mark (-1)):=by
 refine ⟨?_,by simp[Zcn,Cs.mark],fun p hp=> ?_,Int.le_refl _,hs⟩
 ·have:=ht.at_;show t.at_.toNat<t.n;omega
 ·exact ht.pres p (hq.mem_iff.1 hp)
theorem ZpU {t:Tray} (ht:TrayOk t) {q:List Pr} (hq:q.length≤13):mu t ((Zcn t q).mark (-1))≤200:=by
 have h6:=ht.n6;have e:mu t ((Zcn t q).mark (-1))=(2*t.n+2)*q.length+Zdf t.n (((Zcn t q).mark (-1)).c t) (List.replicate (2*t.n) false)+jW ((Zcn t q).mark (-1)):=rfl;rw[e,Zlo];have h1:(2*t.n+2)*q.length≤14*13:=Nat.mul_le_mul (by omega) hq;have h2:jW ((Zcn t q).mark (-1))≤1:=by unfold jW;split<;>(try split)<;>omega
 omega
structure Grown (s s':Cs):Prop where
 now:s'.now≤s.now+1059∨s'.now≤9999
 spells:s'.spells.length≤s.spells.length+3
 plays:s'.plays.length≤s.plays.length+1
 steps:s.steps≤s'.steps∧s'.steps≤s.steps+1
 q:s'.q.length≤s.q.length
theorem ZkW {t:Tray} (ht:TrayOk t) {s1 s':Cs} (hs1:CsOk t s1) (e:s1.act1 t=some s'):Grown s1 s':=by
 have hstep:=ht.step;unfold Cs.act1 at e;split at e
 ·split at e
  ·cases e
  ·rename_i p q hqq;simp only[Option.some.injEq] at e;subst e;exact ⟨.inr (hs1.q p (by rw[hqq];simp)).2.2,by simp only;omega,by simp only;omega,by simp only;omega,Nat.le_refl _⟩
 ·simp only[Option.some.injEq] at e;subst e;have hn:=Zho ht hs1;have hm:=Zkn hstep.1 (s1.play t);obtain ⟨m1,m2,m3,m4,m5⟩:=ZmZ t (s1.play t);obtain ⟨p1,p2,p3,p4⟩:=Zd4 t s1;have hsp:(s1.play t).spells.length≤s1.spells.length+2∧(s1.play t).plays.length≤s1.plays.length+1:=by
   unfold Cs.play;split
   ·simp[Cs.play2,Cs.play1,Cs.mark]
   ·omega
  refine ⟨.inl ?_,?_,?_,?_,?_⟩
  ·show ((s1.play t).move t).now≤_;omega
  ·show (((s1.play t).move t).spells++[_]).length≤_;rw[m4,List.length_append];simp only[List.length_cons,List.length_nil];omega
  ·show ((s1.play t).move t).plays.length≤_;rw[m3];omega
  ·show s1.steps≤((s1.play t).move t).steps∧((s1.play t).move t).steps≤_;omega
  ·show ((s1.play t).move t).q.length≤_;rw[m1,p2];exact Nat.le_refl _
theorem ZlY {t:Tray} (ht:TrayOk t) {s s':Cs} (hs:CsOk t s) (e:s.act t=some s'):Grown s s':=by
 have hq:s.press.q.length≤s.q.length:=(Zko hs).2;have h:=ZkW ht hs.press e;exact ⟨h.now,h.spells,h.plays,h.steps,Nat.le_trans h.q hq⟩
end Go.Proofs.YtcggfogkfhlmlaaGreatDoor
namespace Go.Proofs.YtcggfogkfhlmlaaGreatDoor
open Go Go.V
def Zu6:FC:=⟨2,10,[.t 4],(.seq (.ops [JS 2 (.box 2 (.t 0)),JS 3 (.box 2 (.t 1)),JSi 4 0]) (.seq (.ops [JSf 5 1 2,JSl 6 5,JSf 7 1 3,JSl 8 7,JSb 9 .sub 6 8,JSm 4 9]) .ret))⟩
abbrev Zwk:List Ins:=[JFm 18 9,JFm 19 1,JSb 20 .gtr 18 19,JSm 21 20,JH 22 (Jm 3) 21 true,JH 23 (Jm 0) 21 true,JH 24 (Jm 9) 21 true,JH 25 (Ja 2 23 24) 21 true,JH 26 (JL 2 25) 21 true,JH 27 (Jm 0) 21 true,JH 28 (Jm 9) 21 true,JH 29 (Jk .sub 28 1) 21 true,JH 30 (Ja 2 27 29) 21 true,JH 31 (JL 2 30) 21 true,JG 32 (.call (.t 22) [.t 26,.t 31]) 21 true,JTk 33 .lss 32 0 21,JSp 34 21 33]
abbrev Zwl:List Ins:=[JFm 37 0,JFm 38 9,JFm 39 0,JFm 40 9,JFk 41 .sub 40 1,JFm 42 0,JFm 43 9,JFk 44 .sub 43 1,JFa 45 2 42 44,JFL 46 2 45,JFm 47 0,JFm 48 9,JFa 49 2 47 48,JFL 50 2 49,JFa 51 2 37 38,JE (Js 2 51 46),JSa 52 2 39 41,JUs 2 52 50]
-- Zqo: changed and kept: [9]
abbrev Zqo:List Nat:=[0,1,2,3,8]
-- ZlK: changed and kept: [8]
abbrev ZlK:List Nat:=[0,1,2,3]
abbrev ZtI:VC:=(.block 0 (.loop (.seq (.seq (.ops [JSm 12 8,JSm 13 2,JSb 14 .lss 12 13]) (.cond (.t 14) .skip (.exit 0))) (.seq (.block 1 (.seq (.ops [JSm 17 8,JSm 9 17]) (.block 2 (.loop (.seq (.seq (.dops Zwk) (.cond (.t 34) .skip (.exit 2))) (.seq (.block 3 (.dops Zwl)) (.ops [JSm 35 9,JSk 36 .sub 35 1,JSm 9 36]))))))) (.ops [JSm 15 8,JSk 16 .add 15 1,JSm 8 16])))))
def ZrR:FC:=⟨4,53,[],(.seq (.ops [JSm 10 1,JSk 11 .add 10 1,JSm 8 11]) ZtI)⟩
-- ZlI: changed and kept: [8,7]
abbrev ZlI:List Nat:=[0,1,2,6]
-- K141_3: changed and kept: [8,7]
abbrev Zty:VC:=(.loop (.seq (.seq (.ops [JSm 33 8,JSm 34 1,JSb 35 .leq 33 34]) (.cond (.t 35) .skip (.exit 4))) (.block 5 (.seq (.ops [JSm 36 0,JSm 37 7,JSm 38 7,JSm 39 6,JSb 40 .add 38 39,JSm 41 8,JSm 42 2,JSc 43 169 [.t 36,.t 37,.t 40,.t 41,.t 42]]) (.seq (.ops [JSm 44 8,JSm 7 44]) (.ops [JSm 45 8,JSm 46 6,JS 47 (.bin .mul (.k (Jz 2)) (.t 46)),JSb 48 .add 45 47,JSm 8 48]))))))
abbrev Ztz:VC:=(.seq (.ops [JSm 31 6,JS 32 (.bin .mul (.k (Jz 2)) (.t 31)),JSi 7 0,JSm 8 32]) (.seq (.block 4 Zty) (.seq (.seq (.ops [JSm 49 7,JSm 50 6,JSb 51 .add 49 50,JSm 9 51]) (.seq (.ops [JSm 52 9,JSm 53 1,JSb 54 .lss 52 53]) (.cond (.t 54) (.ops [JSm 55 0,JSm 56 7,JSm 57 9,JSm 58 1,JSm 59 2,JSc 60 169 [.t 55,.t 56,.t 57,.t 58,.t 59]]) .skip))) (.ops [JSm 61 6,JSk 62 .mul 61 2,JSm 6 62]))))
-- ZlJ: changed and kept: [6]
abbrev ZlJ:List Nat:=[0,1,2]
abbrev ZtA:VC:=(.seq (.block 0 (.loop (.seq (.seq (.ops [JSm 11 8,JSm 12 1,JSb 13 .leq 11 12]) (.cond (.t 13) .skip (.exit 0))) (.block 1 (.seq (.ops [JSm 14 0,JSm 15 7,JSm 16 8,JSm 17 2,JSc 18 168 [.t 14,.t 15,.t 16,.t 17]]) (.seq (.ops [JSm 19 8,JSm 7 19]) (.ops [JSm 20 8,JSm 21 6,JSb 22 .add 20 21,JSm 8 22]))))))) (.seq (.ops [JSm 23 0,JSm 24 7,JSm 25 1,JSm 26 2,JSc 27 168 [.t 23,.t 24,.t 25,.t 26]]) (.block 2 (.loop (.seq (.seq (.ops [JSm 28 6,JSm 29 1,JSb 30 .lss 28 29]) (.cond (.t 30) .skip (.exit 2))) (.block 3 Ztz))))))
def ZrP:FC:=⟨3,63,[],(.seq (.ops [JSi 6 20]) (.seq (.ops [JSm 10 6,JSi 7 0,JSm 8 10]) ZtA))⟩
def ZrM:FC:=⟨2,9,[],(.ops [JSm 4 0,JSm 5 0,JSn 6 5,JSm 7 1,JSc 8 141 [.t 4,.t 6,.t 7]])⟩
abbrev Zsj:List Ins:=[JS 2 (.mv (.k J0))]
abbrev Zsk:List Ins:=[JSm 3 0,JS 4 (.nils false (.t 3))]
abbrev Zsl:List Ins:=[JS 2 (.mv (.k J0))]
abbrev ZtS:VC:=(.seq (.ops Zsl) .ret)
abbrev ZtT:VC:=(.cond (.t 4) ZtS .skip)
abbrev Zsm:List Ins:=[JS 5 (.bsl 122 2 []),JSm 6 0,JS 7 (.app 122 2 16 (.t 5) (.t 6)),JSm 2 7]
abbrev ZtU:VC:=(.seq (.ops Zsm) .ret)
abbrev ZtV:VC:=(.seq (.seq (.ops Zsk) ZtT) ZtU)
def ir76:FC:=⟨1,8,[.t 2],(.seq (.ops Zsj) ZtV)⟩
theorem ZAu:Zao Tryz.prog [] 110=some Zu6:=by kernel_rfl
theorem Zzh:Zao Tryz.prog [] 168=some ZrR:=by kernel_rfl
theorem Zzf:Zao Tryz.prog [] 141=some ZrP:=by kernel_rfl
theorem Zzc:Zao Tryz.prog [] 109=some ZrM:=by kernel_rfl
theorem c76:Zao Tryz.prog [] 76=some ir76:=by kernel_rfl
attribute [local go_sem] Nat.reduceEqDiff Nat.reduceAdd Nat.reduceMul reduceIte Nat.reduceLeDiff Nat.reduceLT Nat.reduceBEq reduceCtorEq
theorem Zx1 (a b:Pr) (ha:0≤a.time∧a.time≤9999) (hb:0≤b.time∧b.time≤9999):FSpec Tryz.prog 110 [.agg [iv a.side,iv a.time],.agg [iv b.side,iv b.time]] (iv (a.time -b.time)):=by
 have w1:=w64 (n:=a.time -b.time) (by omega) (by omega);refine Zac ZAu (Nat.le_refl _) (by decide) fun C hP hN hC hL=> ?_;rw[Zad]
 simp only[Zu6];refine vW w1 ?_;(refine vT ?_;try exact trivial)
theorem Zja (L:List Pr) (π:List Nat):(arr L π).length=π.length:=by simp[arr]
theorem Zl3 {L:List Pr} {π:List Nat} {i k:Nat} (h:π[i]? =some k) (hi:i<(arr L π).length):(arr L π)[i]=L.getD k default:=by
 have h2:(arr L π)[i]? =some (L.getD k default):=by simp[arr,h]
 exact (List.getElem?_eq_some_iff.1 h2).2
theorem Zl5 (L:List Pr) (π:List Nat) (i k:Nat):(arr L π).set i (L.getD k default)=arr L (π.set i k):=by
 simp[arr,List.map_set]
theorem Zl4 (L:List Pr):arr L (List.range L.length)=L:=by
 apply List.ext_getElem (by simp[arr]);intro i h1 h2;simp[arr,h2]
theorem ZAb {α:Type} {cds:α→List CD} (hm:∀a,(cds a).length=2) {l:List α} {k:Nat} (h:k<l.length) (j:Nat) (a:α) {x y:CD} (ha:cds a=[x,y]):
  (Zaf cds l j).take (k*2)++AV.c x::AV.c y::(Zaf cds l j).drop (k*2+2)=Zaf cds (l.set k a) j:=Zk2 hm h j a ha
set_option maxRecDepth 20000 in
set_option maxHeartbeats 8000000 in
theorem ins87 {L:List Pr} {n cap jk:Nat} (hn:0<n) (hn20:n≤20) (hl0:L.length=n) (ht:∀p∈L,0≤p.time∧p.time≤9999):
  ZaE Tryz.prog 168 [.vw 2 1000 0 n cap,iv 0,iv n,.fn 110 []] [.box (Zaf Pr.cds L jk)] [] (fun res l'=>res= .tup []∧∃l,Ordered (Ze4 L) n l∧l'=[.box (Zaf Pr.cds (arr L l) jk)]):=by
 have w0:IntKind.i64.wrap (0+1)=1:=by decide
 have hti:∀i,i<n→0≤(L.getD i default).time∧(L.getD i default).time≤9999:=fun i hi=>by
  have hiL:i<L.length:=by omega
  have:=ht _ (List.getElem_mem hiL);have e:L.getD i default=L[i]:=by simp[*]
  rw[e];exact this
 have hL0:Zaf Pr.cds L jk=Zaf Pr.cds (arr L (List.range n)) jk:=by rw[←hl0,Zl4]
 rw[hL0];refine Zat Zzh (by first|simp|exact Nat.le_of_ble_eq_true rfl) (Nat.le_refl _) (by decide) (by decide) fun C hP hN hC hL=> ?_;rw[Zap,Zaw (by first|simp|exact Nat.le_of_ble_eq_true rfl)];simp only[ZrR,Zco,Za1,List.map_nil,List.map_cons,Nat.reduceAdd,]
 refine vW w0 ?_;refine Zax ZlK [1000] (fun p:Nat×List Nat=>1≤p.1∧p.1≤n∧SortI (Ze4 L) n p.1 p.2) (fun p=>n -p.1) (fun p=>[(8,iv p.1)]) (fun p=>[(1000,.box (Zaf Pr.cds (arr L p.2) jk))]) (1,List.range n) ⟨Nat.le_refl _,hn,SortI.first (Ze4 L) hn⟩ ?_ ?_
 ·exact Zaz
 ·rintro ⟨i,l⟩ ⟨h1,h2,hs⟩;simp only at h1 h2 hs;have hl:=hs.len;simp only[go_sem];refine vR ?_;(refine vC ?_ ?_<;>intro h)
  ·have hi:i<n:=by simpa using h
   refine vR ?_;refine Zax Zqo [1000] (fun j:Nat=>j≤i∧∀t x,j≤t→t<i→l[t]? =some x→Ze4 L x<Ze4 L i) (fun j=>j) (fun j=>[(9,iv j)]) (fun j=>[(1000,.box (Zaf Pr.cds (arr L (mv l i j)) jk))]) i ⟨Nat.le_refl _,fun t x h3 h4=>by omega⟩ ?_ ?_
   ·rw[ZrY (by omega)];exact Zaz
   ·rintro j ⟨hj,hd⟩;have hgi:l[i]? =some i:=hs.rest i (Nat.le_refl _) hi;have hmi:(mv l i j)[j]? =some i:=by rw[ZgD (by omega) hj,if_neg (by omega),if_pos rfl,hgi]
    have hlm:(arr L (mv l i j)).length=n:=by rw[Zja,Zii (by omega) hj,hl]
    simp only[go_sem];cases j with
    |zero=>
     have hd0:decide ((0:Int)<((0:Nat):Int))=false:=by simp
     refine vW hd0 ?_;refine Or.inr (Or.inr ?_);(refine vC ?_ ?_<;>intro h)
     ·simp at h
     ·have hs':=hs.step hi (Nat.zero_le _) (fun t x _ h4 h5=>hd t x (Nat.zero_le _) h4 h5) (fun x h6=>by omega);have w1:=w64 (n:=(i:Int)+1) (by omega) (by omega);refine vW w1 ?_;refine ⟨(i+1,mv l i 0),⟨by simp only;omega,by simp only;omega,hs'⟩,by simp only;omega,?_⟩;exact Zaz
    |succ j=>
     have hjl:j<l.length:=by omega
     have hgj:l[j]? =some l[j]:=List.getElem?_eq_getElem hjl;have hjn:=hs.lt (t:=j) (by omega) h2 hgj;have hmj:(mv l i (j+1))[j]? =some l[j]:=by rw[ZgD (by omega) hj,if_pos (by omega),hgj]
     have hlen0:j+1<(arr L (mv l i (j+1))).length:=by omega
     have hlen1:j<(arr L (mv l i (j+1))).length:=by omega
     have g1:=Zfw ZeM hlen0 jk;rw[Zl3 hmi hlen0] at g1;have g2:=Zfw ZeM hlen1 jk;rw[Zl3 hmj hlen1] at g2;have w1:=w64 (n:=(j:Int)) (by omega) (by omega);have e1:(((j+1:Nat):Int) -1)=(j:Int):=by omega
     have hjlt:j<n:=by omega
     have hj1:j+1<n:=by omega
     have hcl:=Zbl ZeM (arr L (mv l i (j+1))) jk;have hq1:(j+1)*2+2≤(Zaf Pr.cds (arr L (mv l i (j+1))) jk).length:=by rw[hcl,hlm];omega
     have hq2:j*2+2≤(Zaf Pr.cds (arr L (mv l i (j+1))) jk).length:=by rw[hcl,hlm];omega
     have p1:=ZAb ZeM hlen0 jk (L.getD l[j] default) rfl;rw[Zl5] at p1;have hlen2:j<(arr L ((mv l i (j+1)).set (j+1) l[j])).length:=by rw[Zja,List.length_set,Zii (by omega) hj];omega
     have p2:=ZAb ZeM hlen2 jk (L.getD i default) rfl;rw[Zl5,ZrZ (by omega) (by omega) i l[j] hgi hgj] at p2;have hq3:j*2+2≤(Zaf Pr.cds (arr L ((mv l i (j+1)).set (j+1) l[j])) jk).length:=by rw[Zbl ZeM,Zja,List.length_set,Zii (by omega) hj];omega
     have hdj:decide (0<((j+1:Nat):Int))=true:=by simp
     have ht0:(((j+1:Nat):Int)).toNat=j+1:=by omega
     have hlt1:((j+1:Nat):Int)<(n:Int):=by omega
     have hlt2:(j:Int)<(n:Int):=by omega
     have hc:=Zx1 (L.getD i default) (L.getD l[j] default) (hti i hi) (hti l[j] (by omega));have hcc:decide ((L.getD i default).time -(L.getD l[j] default).time<0)=decide (Ze4 L l[j]<Ze4 L i):=by
      unfold Ze4;rw[Bool.eq_iff_iff];simp;omega
     have hk1:Ze4 L i= -(L.getD i default).time:=rfl;generalize L.getD i default=A at*;generalize L.getD l[j] default=B at*;(repeat (refine vV ?_;(try simp only[go_sem,hP,w1,e1,hdj,ht0,g1,g2,hq1,hq2,hlt1,hlt2,Pr.cds]);refine vQ ?_))
     refine Zi4 (fun _=>hc) rfl (fun _=>rfl) rfl rfl rfl ?_;simp only[go_sem,hP];refine vR ?_;rw[hcc];(refine vC ?_ ?_<;>intro h)
     ·have h:Ze4 L l[j]<Ze4 L i:=by simpa using h
      (repeat (refine vV ?_;(try simp only[go_sem,hP,w1,e1,ht0,g1,g2,hq1,hq2,hq3,hlt1,hlt2,p1,p2,Pr.cds]);refine vQ ?_))
      refine ⟨j,⟨by omega,fun t x h3 h4 h5=> ?_⟩,by omega,?_⟩
      ·by_cases htj:t=j
       ·subst htj;rw[hgj] at h5;cases h5;exact h
       ·exact hd t x (by omega) h4 h5
      ·exact Zaz
     ·have h:¬Ze4 L l[j]<Ze4 L i:=by simpa using h
      have hs':=hs.step (j:=j+1) hi hj hd (fun x _ hx=>by rw[Nat.add_sub_cancel,hgj] at hx;cases hx;omega);have w2:=w64 (n:=(i:Int)+1) (by omega) (by omega);refine vW w2 ?_;refine ⟨(i+1,mv l i (j+1)),⟨by simp only;omega,by simp only;omega,hs'⟩,by simp only;omega,?_⟩;exact Zaz
  ·have h:i=n:=by simp at h;omega
   subst h;(refine ZbE ?_;simp only[go_sem])
   ((try simp only[Zaq,inQ,ZaB,Zar,Zae,ZaI]);(try simp only[go_sem,ZaH,AV.keepP,AV.keepPL]);refine ⟨_,[.box (Zaf Pr.cds (arr L l) jk)],rfl,Zag rfl rfl ?_ ?_ rfl,?_⟩)
   ·simp only[go_sem,Zal,Ob.keepP]
   ·simp only[go_sem,Zb2]
   ·exact ⟨rfl,_,hs.done (Nat.le_refl _),rfl⟩
set_option maxHeartbeats 4000000 in
theorem stable80 {L:List Pr} {n cap jk:Nat} (hn:0<n) (hn20:n<20) (hl0:L.length=n) (ht:∀p∈L,0≤p.time∧p.time≤9999):
  ZaE Tryz.prog 141 [.vw 2 1000 0 n cap,iv n,.fn 110 []] [.box (Zaf Pr.cds L jk)] [] (fun res l'=>res= .tup []∧∃l,Ordered (Ze4 L) n l∧l'=[.box (Zaf Pr.cds (arr L l) jk)]):=by
 refine Zat Zzf (by first|simp|exact Nat.le_of_ble_eq_true rfl) (Nat.le_refl _) (by decide) (by decide) fun C hP hN hC hL=> ?_;rw[Zap,Zaw (by first|simp|exact Nat.le_of_ble_eq_true rfl)];simp only[ZrP,Zco,Za1,List.map_nil,List.map_cons,Nat.reduceAdd,]
 refine vR ?_;refine Zax ZlI [1000] (fun _:Unit=>True) (fun _=>0) (fun _=>[(7,iv 0),(8,iv 20)]) (fun _=>[(1000,.box (Zaf Pr.cds L jk))]) () trivial ?_ ?_
 ·exact Zaz
 ·rintro - -;simp only[go_sem];refine vR ?_;(refine vC ?_ ?_<;>intro h)
  ·have h:(20:Int)≤n:=by simpa using h
   omega
  ·(refine ZbE ?_;simp only[go_sem])
   refine vR ?_;refine Zas [1000] (ins87 (jk:=jk) hn (by omega) hl0 ht) rfl rfl rfl (by decide) rfl ?_ ?_
   ·simp only[go_sem,ZaA,Ob.lend]
   ·rintro r l' ⟨rfl,l,hl,rfl⟩;refine ⟨_,_,rfl,by simp only[Zay,Ob.back,back_cellsG];rfl,?_⟩;simp only[go_sem,hP,Zab];refine vR ?_;refine Zax ZlJ [1000] (fun _:Unit=>True) (fun _=>0) (fun _=>[(6,iv 20)]) (fun _=>[(1000,.box (Zaf Pr.cds (arr L l) jk))]) () trivial ?_ ?_
    ·exact Zaz
    ·rintro - -;simp only[go_sem];refine vR ?_;(refine vC ?_ ?_<;>intro h)
     ·have h:(20:Int)<n:=by simpa using h
      omega
     ·(refine ZbE ?_;simp only[go_sem])
      ((try simp only[Zaq,inQ,ZaB,Zar,Zae,ZaI]);(try simp only[go_sem,ZaH,AV.keepP,AV.keepPL]);refine ⟨_,[.box (Zaf Pr.cds (arr L l) jk)],rfl,Zag rfl rfl ?_ ?_ rfl,?_⟩)
      ·simp only[go_sem,Zal,Ob.keepP]
      ·simp only[go_sem,Zb2]
      ·exact ⟨rfl,_,hl,rfl⟩
theorem ZwO {L:List Pr} {n cap jk:Nat} (hn:0<n) (hn20:n<20) (hl0:L.length=n) (ht:∀p∈L,0≤p.time∧p.time≤9999):
  ZaE Tryz.prog 109 [.vw 2 1000 0 n cap,.fn 110 []] [.box (Zaf Pr.cds L jk)] [] (fun res l'=>res= .tup []∧∃l,Ordered (Ze4 L) n l∧l'=[.box (Zaf Pr.cds (arr L l) jk)]):=by
 refine Zat Zzc (by first|simp|exact Nat.le_of_ble_eq_true rfl) (Nat.le_refl _) (by decide) (by decide) fun C hP hN hC hL=> ?_;rw[Zap,Zaw (by first|simp|exact Nat.le_of_ble_eq_true rfl)];simp only[ZrM,Zco,Za1,List.map_nil,List.map_cons,Nat.reduceAdd,]
 refine vR ?_;refine Zas [1000] (stable80 (jk:=jk) hn hn20 hl0 ht) rfl rfl rfl (by decide) rfl ?_ ?_
 ·simp only[go_sem,ZaA,Ob.lend]
 ·rintro r l' ⟨rfl,l,hl,rfl⟩;refine ⟨_,_,rfl,by simp only[Zay,Ob.back,back_cellsG];rfl,?_⟩;simp only[go_sem,hP,Zab];((try simp only[Zaq,inQ,ZaB,Zar,Zae,ZaI]);(try simp only[go_sem,ZaH,AV.keepP,AV.keepPL]);refine ⟨_,[.box (Zaf Pr.cds (arr L l) jk)],rfl,Zag rfl rfl ?_ ?_ rfl,?_⟩)
  ·simp only[go_sem,Zal,Ob.keepP]
  ·simp only[go_sem,Zb2]
  ·exact ⟨rfl,_,hl,rfl⟩
theorem Zmk (l:List Pr) (hl:l.length≤1000):FSpec Tryz.prog 76 [.c (ZbR l)] (.c (ZbR l)):=by
 have hmax:maxLen=9223372036854775807:=rfl;refine Zac c76 (Nat.le_refl _) (by decide) fun C hP hN hC hL=> ?_;rw[Zad]
 simp only[ir76,ZbR];cases l with
 |nil=>
  refine vR ?_;intro b;refine vR ?_;cases b
  ·(refine vC ?_ ?_<;>intro h)
   ·simp at h
   ·(repeat (refine vV ?_;(try simp only[go_sem,hP,List.all_nil]);refine vQ ?_))
    (refine vT ?_;try exact trivial)
  ·(refine vC ?_ ?_<;>intro h)
   ·refine vR ?_;(refine Zak ?_;simp only[Zaq,inQ,ZgY,ZcN,Zae,ZaI];simp only[go_sem,ZaH,AV.port,AV.portL,exists_eq_left'])
    exact AVle.nil 2
   ·simp at h
 |cons a l=>
  refine vR ?_;(refine vC ?_ ?_<;>intro h)
  ·simp at h
  ·clear h;have hp:=Zew (a::l);simp only[List.map_cons] at hp;have hlen:l.length+1≤1000:=hl;(repeat (refine vV ?_;(try simp only[go_sem,hP,hp,List.length_cons]);refine vQ ?_))
   (refine vT ?_;try exact trivial)
namespace W
abbrev Zsj:List Ins:=[JS 2 (.mv (.k J0))]
abbrev Zsk:List Ins:=[JSm 3 0,JS 4 (.nils false (.t 3))]
abbrev Zsl:List Ins:=[JS 2 (.mv (.k J0))]
abbrev ZtS:VC:=(.seq (.ops Zsl) .ret)
abbrev ZtT:VC:=(.cond (.t 4) ZtS .skip)
abbrev Zsm:List Ins:=[JS 5 (.bsl 122 2 []),JSm 6 0,JS 7 (.appv 122 2 16 (.t 5) (.t 6)),JSm 2 7]
abbrev ZtU:VC:=(.seq (.ops Zsm) .ret)
abbrev ZtV:VC:=(.seq (.seq (.ops Zsk) ZtT) ZtU)
def ir76:FC:=⟨1,8,[.t 2],(.seq (.ops Zsj) ZtV)⟩
theorem c76:Zao Tryz.prog [100007] 76=some ir76:=by kernel_rfl
end W
def ZyW (S:List Pr) (res:AV) (os:List Ob):Prop:=∃cap j,S.length≤cap∧cap≤maxLen∧cap*2≤S.length*2+j∧res= .vw 2 1000 0 S.length cap∧os=[.box (Zaf Pr.cds S j)]
theorem ZoI (l:List Pr) (hl:l.length≤1000) (hne:l≠[]):Za3 Tryz.prog 76 [.c (ZbR l)] (ZyW l):=by
 have hmax:maxLen=9223372036854775807:=rfl;refine ZaK W.c76 (Nat.le_refl _) (by decide) fun C hP hN hC hL=> ?_
 obtain ⟨a,l,rfl⟩:=List.exists_cons_of_ne_nil hne;simp only[W.ir76,ZbR];refine vR ?_;(refine vC ?_ ?_<;>intro h)
 ·simp at h
 ·clear h;have hp:=Zew (a::l);simp only[List.map_cons] at hp;have hlen:l.length+1≤1000:=hl;(repeat (refine vV ?_;(try simp only[go_sem,hP,hp,List.length_cons]);refine vQ ?_))
  intro cap j h1 h2 h3;have ecell:List.map AV.c (a.cds::List.map Pr.cds l).flatten++List.replicate j AV.non=Zaf Pr.cds (a::l) j:=rfl;simp only[ecell];refine vR ?_;(refine Zak ?_;simp only[Zaq,inQ,Zbe,ZaP,Zae,ZaI];simp only[go_sem,ZaH])
  refine ⟨[7],.vw 2 1000 0 (a::l).length cap,_,[.box (Zaf Pr.cds (a::l) j)],by decide,by decide,?_,AVle.of rfl,?_,cap,j,?_,h2,?_,rfl,rfl⟩
  ·simp only[go_sem,AV.lend,AV.lendL,List.length_cons]
  ·simp only[go_sem,ZaA,Ob.lend]
  ·simpa using h1
  ·simpa using h3
end Go.Proofs.YtcggfogkfhlmlaaGreatDoor
namespace Go.Proofs.YtcggfogkfhlmlaaGreatDoor
open Go Go.V
namespace W
abbrev Zil:List Ins:=[JS 2 (.mv (.k J0))]
abbrev Zim:List Ins:=[JSm 3 0,JS 4 (.nils false (.t 3))]
abbrev Zin:List Ins:=[JS 2 (.mv (.k J0))]
abbrev ZiU:VC:=(.seq (.ops Zin) .ret)
abbrev ZiV:VC:=(.cond (.t 4) ZiU .skip)
abbrev Zio:List Ins:=[JS 5 (.bsl 3 1 []),JSm 6 0,JS 7 (.appv 3 1 8 (.t 5) (.t 6)),JSm 2 7]
abbrev ZiW:VC:=(.seq (.ops Zio) .ret)
abbrev ZiX:VC:=(.seq (.seq (.ops Zim) ZiV) ZiW)
def ir124:FC:=⟨1,8,[.t 2],(.seq (.ops Zil) ZiX)⟩
theorem c124:Zao Tryz.prog [100007] 124=some ir124:=by kernel_rfl
end W
abbrev Zil:List Ins:=[JS 2 (.mv (.k J0))]
abbrev Zim:List Ins:=[JSm 3 0,JS 4 (.nils false (.t 3))]
abbrev Zin:List Ins:=[JS 2 (.mv (.k J0))]
abbrev ZiU:VC:=(.seq (.ops Zin) .ret)
abbrev ZiV:VC:=(.cond (.t 4) ZiU .skip)
abbrev Zio:List Ins:=[JS 5 (.bsl 3 1 []),JSm 6 0,JS 7 (.app 3 1 8 (.t 5) (.t 6)),JSm 2 7]
abbrev ZiW:VC:=(.seq (.ops Zio) .ret)
abbrev ZiX:VC:=(.seq (.seq (.ops Zim) ZiV) ZiW)
def ir124:FC:=⟨1,8,[.t 2],(.seq (.ops Zil) ZiX)⟩
theorem c124:Zao Tryz.prog [] 124=some ir124:=by kernel_rfl
attribute [local go_sem] Nat.reduceEqDiff Nat.reduceAdd Nat.reduceMul reduceIte Nat.reduceLeDiff Nat.reduceLT Nat.reduceBEq reduceCtorEq
def zc (n:Int):List CD:=[.int .i64 n]
def vj (l:List Int) (j:Nat):List AV:=l.map iv++List.replicate j .non
theorem Zq0 (l:List Int):(l.map fun n=>[CD.int .i64 n]).flatten.length=l.length:=by
 induction l with
 |nil=>rfl
 |cons n l ih=>simp only[List.map_cons,List.flatten_cons,List.length_append,ih,List.length_cons,List.length_nil];omega
theorem ZdA (l:List Int) (hl:l.length≤1000):FSpec Tryz.prog 124 [.c (Zaj l)] (.c (Zaj l)):=by
 have hmax:maxLen=9223372036854775807:=rfl;refine Zac c124 (Nat.le_refl _) (by decide) fun C hP hN hC hL=> ?_;rw[Zad]
 simp only[ir124,Zaj];cases l with
 |nil=>
  refine vR ?_;intro b;refine vR ?_;cases b
  ·(refine vC ?_ ?_<;>intro h)
   ·simp at h
   ·(repeat (refine vV ?_;(try simp only[go_sem,hP,List.all_nil]);refine vQ ?_))
    (refine vT ?_;try exact trivial)
  ·(refine vC ?_ ?_<;>intro h)
   ·refine vR ?_;(refine Zak ?_;simp only[Zaq,inQ,ZgY,ZcN,Zae,ZaI];simp only[go_sem,ZaH,AV.port,AV.portL,exists_eq_left'])
    exact AVle.nil 1
   ·simp at h
 |cons a l=>
  refine vR ?_;(refine vC ?_ ?_<;>intro h)
  ·simp at h
  ·clear h;have hlen:l.length+1≤1000:=hl;have h1:(([CD.int .i64 a]::l.map fun n=>[CD.int .i64 n]).all fun e=>e.length==1)=true:=by
    rw[List.all_eq_true];intro e he;rcases List.mem_cons.1 he with rfl|he
    ·rfl
    ·obtain ⟨n,_,rfl⟩:=List.mem_map.1 he;rfl
   (repeat (refine vV ?_;(try simp only[go_sem,hP,h1,List.length_cons,List.length_map]);refine vQ ?_))
   (refine vT ?_;try exact trivial)
def ZyV (S:List Int) (res:AV) (os:List Ob):Prop:=∃cap j,S.length≤cap∧cap≤maxLen∧cap≤S.length+j∧res= .vw 1 1000 0 S.length cap∧os=[.box (Zaf zc S j)]
theorem Zg6 (l:List Int) (hl:l.length≤1000) (hne:l≠[]):Za3 Tryz.prog 124 [.c (Zaj l)] (ZyV l):=by
 have hmax:maxLen=9223372036854775807:=rfl;refine ZaK W.c124 (Nat.le_refl _) (by decide) fun C hP hN hC hL=> ?_
 obtain ⟨a,l,rfl⟩:=List.exists_cons_of_ne_nil hne;simp only[W.ir124,Zaj];refine vR ?_;(refine vC ?_ ?_<;>intro h)
 ·simp at h
 ·clear h;have hlen:l.length+1≤1000:=hl;have h1:(([CD.int .i64 a]::l.map fun n=>[CD.int .i64 n]).all fun e=>e.length==1)=true:=by
   rw[List.all_eq_true];intro e he;rcases List.mem_cons.1 he with rfl|he
   ·rfl
   ·obtain ⟨n,_,rfl⟩:=List.mem_map.1 he;rfl
  (repeat (refine vV ?_;(try simp only[go_sem,hP,h1,List.length_cons,List.length_map]);refine vQ ?_))
  intro cap j h1 h2 h3;have ecell:List.map AV.c ([CD.int .i64 a]::l.map fun n=>[CD.int .i64 n]).flatten++List.replicate j AV.non=Zaf zc (a::l) j:=rfl;simp only[ecell];refine vR ?_;(refine Zak ?_;simp only[Zaq,inQ,Zbe,ZaP,Zae,ZaI];simp only[go_sem,ZaH])
  refine ⟨[7],.vw 1 1000 0 (a::l).length cap,_,[.box (Zaf zc (a::l) j)],by decide,by decide,?_,AVle.of rfl,?_,cap,j,?_,h2,?_,rfl,rfl⟩
  ·simp only[go_sem,AV.lend,AV.lendL,List.length_cons]
  ·simp only[go_sem,ZaA,Ob.lend]
  ·simpa using h1
  ·simpa using h3
theorem ZoJ (l:List Pr) (hlen:l.length≤1000):Za3 Tryz.prog 76 [.c (ZbR l)] (fun r os=>r= .gr 1000∧os=[.grow 122 2 (l.map Pr.cds)]):=by
 have hmax:maxLen=9223372036854775807:=rfl;refine ZaK c76 (Nat.le_refl _) (by decide) fun C hP hN hC hL=> ?_;rw[Zad]
 simp only[ir76,ZbR];cases l with
 |nil=>
  refine vR ?_;intro b;refine vR ?_;(refine vC ?_ ?_<;>intro h)
  ·refine ZaG ?_;(refine ZcH ?_;simp only[go_sem,hP];refine vQ ?_)
   refine Zby 2 7 122 2 (by decide) (by decide) rfl rfl ?_;simp only[go_sem];(refine Zak ?_;simp only[Zaq,inQ,Zbe,ZaP,Zae,ZaI];simp only[go_sem,ZaH])
   exact ⟨[7],_,_,_,by simp,by simp,rfl,AVle.refl _,rfl,rfl,rfl⟩
  ·refine vR ?_;(refine Zak ?_;simp only[Zaq,inQ,Zbe,ZaP,Zae,ZaI];simp only[go_sem,ZaH])
   exact ⟨[7],_,_,_,by simp,by simp,rfl,AVle.refl _,rfl,rfl,rfl⟩
 |cons a l=>
  simp only[List.length_cons] at hlen;refine vR ?_;(refine vC ?_ ?_<;>intro h)
  ·cases h
  ·have hp:=Zew (a::l);simp only[List.map_cons] at hp;(repeat (refine vV ?_;(try simp only[go_sem,hP,hp,List.length_cons]);refine vQ ?_))
   (refine Zak ?_;simp only[Zaq,inQ,Zbe,ZaP,Zae,ZaI];simp only[go_sem,ZaH])
   exact ⟨[7],_,_,_,by simp,by simp,rfl,AVle.refl _,rfl,rfl,rfl⟩
end Go.Proofs.YtcggfogkfhlmlaaGreatDoor
