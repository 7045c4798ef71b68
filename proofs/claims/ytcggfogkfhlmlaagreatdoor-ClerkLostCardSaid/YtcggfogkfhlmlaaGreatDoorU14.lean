
import Derived.Test.YtcggfogkfhlmlaaGreatDoorU13
import Derived.Test.YtcggfogkfhlmlaaGreatDoorU9
set_option linter.unusedVariables false
set_option linter.defProp false
set_option linter.unusedSimpArgs false
set_option maxRecDepth 100000
set_option maxHeartbeats 8000000
namespace Go.Proofs.YtcggfogkfhlmlaaGreatDoor
open Go Go.V
def ZyF{w:Wh}{l:List Int}(h1:l.length=w.co.length)(h2:∀n∈l,0<=n/\n<=12):Zgq w l=true:=by simp only[Zgq,Bool.not_or,Bool.not_not,Yf,YaX,YaB,YaU,Zhi,Zad,Yl];exact⟨h1,fun n hn=>by have:=h2 n hn;simpa using this⟩
def Zld{fo ma:List Int}:∀k,mkK fo ma k=true↔∀i,i<k->ma.getD i 0<=fo.getD i 0
 |0=>by simp[mkK]
 |k+1=>by
  simp only[mkK,Yf,Yl,Zld k];exact⟨fun h i hi =>by
   by_cases e:i=k
   ·subst e;exact h.2
   ·exact h.1 i Kc,fun h=>⟨fun i hi=>h i Kc,h k Kc⟩⟩
def Zn5(l:List Int)(k:Nat)(x:Int)(hk:k<l.length)(i:Nat):(l.set k x).getD i 0=if i=k then x else l.getD i 0:=by rw[Yb,Y5,Yb];by_cases h:k=i;{subst h;simp[hk]};{have:¬i=k:=fun e=>h e.symm;simp[h,this]}
def Zt6{a a' b:List Int}(h:∀i,a'.getD i 0<=a.getD i 0):∀k,sumK a' b k<=sumK a b k
 |0=>Yar _
 |k+1=>by have:=Zt6 (b:=b) h k;have:=h k;simp only[sumK];omega
def Zkx(w:Wh)(l:List Int)(k:Nat)(x:Int)(hk:k<l.length):∀n,Zcf w (l.set k x) n=Zcf w l n+if k<n then(x-l.getD k 0)*w.co.getD k 0 else 0
 |0=>by simp[Zcf]
 |n+1=>by simp only[Zcf,Zkx w l k x hk n,Zn5 l k x hk];by_cases e:n=k;{subst e;rw[Yx Kc,Yt rfl,Yt Kc,Int.sub_mul];omega};{rw[Yx e];by_cases h:k<n;{rw[Yt h,Yt Kc];omega};{rw[Yx h,Yx Kc];omega}}
def Zes(b:Bar)(k:Nat):Bar:={b with box:={b.box with fo:=b.box.fo.set k (b.box.fo.getD k 0-1)}}
def ZsL{b:Bar}(hB:Za5 b=true){k:Nat}(hk:k<b.box.fo.length):Za5 (Zes b k)=decide (b.box.ma.getD k 0<b.box.fo.getD k 0):=by unfold Za5 at hB;simp only[Yf,Yl]at hB;obtain⟨h1,h2,h3,h4,h5,h6⟩:=hB;simp only[bxB,Yf,Yl]at h1;obtain⟨⟨⟨⟨⟨⟨⟨k1,k2⟩,k3⟩,k4⟩,k5⟩,k6⟩,k7⟩,k8⟩:=h1;have q4:=ZaI k4;have q5:=ZaI k5;have hsg:=Zn5 b.box.fo k (b.box.fo.getD k 0-1) hk;by_cases hc:b.box.ma.getD k 0<b.box.fo.getD k 0;{rw[Yaa hc];(have hma:0<=b.box.ma.getD k 0:=by rw[Yb,Yd Kc];exact(q5.2 _ (Yv _)).1);(have hfo:b.box.fo.getD k 0<=12:=by rw[Yb,Yd hk];exact(q4.2 _ (Yv _)).2);(have z4:Zgq b.box.wh (b.box.fo.set k (b.box.fo.getD k 0-1))=true:=ZyF (by rw[Y7];exact q4.1) fun n hn=>by rcases List.mem_or_eq_of_mem_set hn with h|h;{exact q4.2 n h};{omega});(have z7:mkK (b.box.fo.set k (b.box.fo.getD k 0-1)) b.box.ma (b.box.fo.set k (b.box.fo.getD k 0-1)).length=true:=by rw[Zld];intro i hi;rw[Y7]at hi;have:=(Zld _).1 k7 i hi;rw[hsg];split;{rename_i e;subst e;omega};{exact this});(have z8:sumK (b.box.fo.set k (b.box.fo.getD k 0-1)) b.box.sl (b.box.fo.set k (b.box.fo.getD k 0-1)).length<=12:=by rw[Y7];refine Yb5 (Zt6 (fun i=>?_) _) k8;rw[hsg];split;{rename_i e;subst e;omega};{exact Yar _});show(bxB {b.box with fo:=b.box.fo.set k (b.box.fo.getD k 0-1)} &&_)=true;simp only[bxB,k1,k2,k3,z4,k5,k6,z7,z8,h2,h3,h4,h5,h6,Zes,Yb4,YcE]};{rw[YaL hc];(have z7:mkK (b.box.fo.set k (b.box.fo.getD k 0-1)) b.box.ma (b.box.fo.set k (b.box.fo.getD k 0-1)).length=false:=by(cases h:mkK (b.box.fo.set k (b.box.fo.getD k 0-1)) b.box.ma (b.box.fo.set k (b.box.fo.getD k 0-1)).length with|false=>rfl|true=>have:=(Zld _).1 h k (by rw[Y7];exact hk);rw[hsg,Yt rfl]at this;omega));show(bxB {b.box with fo:=b.box.fo.set k (b.box.fo.getD k 0-1)} &&_)=false;simp only[bxB,z7,Yai,Y9]}
def Zz9:List UInt8:=[108,111,115,101,32]
def ZwA{n:Nat}(h:n<10):Zgh (n:Int)=[UInt8.ofNat (48+n)]:=by unfold Zgh;rw[Yx Kc,Yr,Lib.decDigits_one h]
def Zqz{k:Nat}(h:k<4):ZaA (Zz9++Zgh (k:Int))=some (Zqu,[(k:Int)]):=by rw[ZwA Kc];(have:k=0\/k=1\/k=2\/k=3:=by omega);rcases this with rfl|rfl|rfl|rfl<;>(show _=_;kernel_rfl)
def ZsF{b:Bar}(hB:Za5 b=true){k:Nat}(hk:k<b.box.fo.length):Zao b (Zz9++Zgh (k:Int))=if b.box.ma.getD k 0<b.box.fo.getD k 0 then(Zgl,Zes b k)else(noS,b):=by(have q:bxB b.box=true:=by unfold Za5 at hB;simp only[Yf]at hB;exact hB.1);have hb:=Zbc q;(have h4:k<4:=by have:=hb.wh.cl;have:=hb.fl;omega);(have h1:Zao b (Zz9++Zgh (k:Int))=Zg9 b (Zer b (k:Int)):=by unfold Zao;rw[Zqz h4];rfl);(have h2:Zer b (k:Int)=some (Zes b k):=by unfold Zer;rw[Yt ⟨Kc,Kc⟩,Yr];rfl);rw[h1,h2];simp only[Zg9,ZsL hB hk,Yl]
def ZsK{b:Bar}{k:Nat}(hk:k<b.box.fo.length):ZaD b.box.wh (Zes b k).box.fo=ZaD b.box.wh b.box.fo-b.box.wh.co.getD k 0:=by unfold ZaD;show Zcf _ (b.box.fo.set k (b.box.fo.getD k 0-1)) (b.box.fo.set k (b.box.fo.getD k 0-1)).length=_;rw[Y7,Zkx _ _ _ _ hk,Yt hk,Int.sub_mul,Int.sub_mul];omega
end Go.Proofs.YtcggfogkfhlmlaaGreatDoor
