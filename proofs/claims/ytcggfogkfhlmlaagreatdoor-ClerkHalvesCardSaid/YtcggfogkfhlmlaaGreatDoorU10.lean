
import Derived.Test.YtcggfogkfhlmlaaGreatDoorU8
import Derived.Test.YtcggfogkfhlmlaaGreatDoorU9
set_option linter.unusedVariables false
set_option linter.defProp false
set_option linter.unusedSimpArgs false
set_option maxRecDepth 100000
set_option maxHeartbeats 8000000
namespace Go.Proofs.YtcggfogkfhlmlaaGreatDoor
open Go Go.V
def ZDS{p:Nat->Prop}:∀n:Nat,p n->∃u,u<=n/\p u/\∀v,v<u->¬p v:=fun n=>by(induction n using Nat.strongRecOn with|_ n ih=>intro h;by_cases hc:∃v,v<n/\p v;{obtain⟨v,hv,hh⟩:=hc;obtain⟨u,hu,h1,h2⟩:=ih v hv hh;exact⟨u,Kc,h1,h2⟩};{exact⟨n,Yi _,h,fun v hv hh=>hc ⟨v,hv,hh⟩⟩})
def Zqe{s w:List UInt8}(h:Zhm s=[w]):s=w:=by by_cases hc:∃j,j<s.length/\s.getD j 0=32;{obtain⟨j,hj⟩:=hc;obtain⟨u,_,h1,h2⟩:=ZDS (p:=fun j=>j<s.length/\s.getD j 0=32) j hj;have h3:=Zw7 h1.1 h1.2 fun v hv e=>h2 v hv ⟨by have:=h1.1;omega,e⟩;obtain⟨w',args,e⟩:=ZkV (s.drop (u+1));rw[h3,e]at h;cases h};{have h3:=ZoK (s:=s) fun j hj e=>hc ⟨j,hj,e⟩;rw[h3]at h;cases h;rfl}
def ZnP{s:List UInt8}{ns:List Int}(h:ZaA s=some (ZbQ,ns)):s=ZbQ:=by unfold ZaA at h;split at h;{cases h};{rename_i w args hc;split at h;{cases h};{rename_i e he;split at h;{rename_i h2;cases h;have e2:Za9 ZbQ=some ⟨0,206,183,none⟩:=rfl;rw[e2]at he;cases he;have h3:args=[]:=YE (by have:=h2.1;simp at this;simpa using this);subst h3;exact Zqe hc};{cases h}}}
def Zlf(b:Bar):Int:=b.box.pl-b.tray.pres.length-b.cr
def ZuL{b b':Bar}{s:List UInt8}(h:Chg b s b')(hs:s≠ZbQ):Zlf b'=Zlf b:=by obtain⟨w,ns,hp,h⟩:=h;(have hput:∀t k,ZeR t b k=some b'->Zlf b'=Zlf b:=fun t k h=>by unfold ZeR at h;split at h;{cases h;unfold Zlf;simp only;omega};{cases h});rcases h with⟨rfl,h⟩|⟨rfl,h⟩|⟨rfl,h⟩|⟨rfl,h⟩|⟨rfl,h⟩|⟨rfl,h⟩|⟨rfl,h⟩;{exact hput _ _ h};{exact hput _ _ h};{exact hput _ _ h};{unfold ZcD at h;split at h;{rename_i hc;obtain⟨_,h2,h3⟩:=hc;cases h;(have hr:Ze8 b.box.wh b.pl b.cr [-1]=(Zki b.box.wh b.pl b.cr [-1],0):=by unfold Ze8 at h2|-;split;{rfl};{rename_i hx;rw[Yx hx]at h2;exact absurd h2 hx});rw[hr]at h3;have h4:Zki b.box.wh b.pl b.cr [-1]=((ZeX b.box.wh b.pl b.cr (-1)).1,(ZeX b.box.wh b.pl b.cr (-1)).2,0+if(-1:Int)= -1/\0<b.cr then 1 else 0):=rfl;rw[h4]at h3 hr;(have hcr:0<b.cr:=by rcases Int.lt_or_le 0 b.cr with h|h;{exact h};{rw[Yx Kc]at h3;exact absurd rfl h3});(have h5:(Ze8 b.box.wh b.pl b.cr [-1]).1.2.1=b.cr-1:=by rw[hr];show(ZeX b.box.wh b.pl b.cr (-1)).2=_;unfold ZeX;rw[Yt rfl,Yt hcr]);unfold Zlf;simp only[Yw,Yo,YI,h5];omega};{cases h}};{unfold Zer at h;split at h;{cases h;rfl};{cases h}};{subst h;rfl};{exact absurd (ZnP hp) hs}
def Zpu:∀(l:List (List UInt8))(b:Bar),(∀s∈l,s≠ZbQ)->Zlf (ZaU Zao b l).2=Zlf b
 |[],b,_=>rfl
 |s::l,b,h=>by rw[ZbC];simp only;rw[Zpu l _ fun x hx=>h x (by simp[hx])];rcases ZdS b s with⟨h1,_⟩|⟨_,_,_,h1⟩;{rw[h1]};{exact ZuL h1 (h s Kd)}
def Zwl(F:Bar->List UInt8->List UInt8×Bar)(b:Bar){l:List (List UInt8)}{k:Nat}(h:k<l.length):(ZaU F b l).1.getD k []=(F (ZaU F b (l.take k)).2 (l.getD k [])).1:=by(have e:l=l.take k++l[k]::l.drop (k+1):=by rw[YbI,Yah]);(have hg:l.getD k []=l[k]:=by rw[Yb,Yd h];rfl);have hl:=ZhD F b l k Kc;(conv=>lhs;rw[e]);rw[ZdZ,ZbC,hg];simp only;rw[Yb,Yau Kc,hl,Yb6];rfl
def ZfX(l a:List (List UInt8)):Nat->List (List UInt8)
 |0=>[]
 |k+1=>ZfX l a k++if Zfm (l.getD k [])&&(a.getD k []==Zgl)then [l.getD k []]else []
def ZiC(l a:List (List UInt8)):∀k,(ZfX l a k).length<=k
 |0=>Yi _
 |k+1=>by have:=ZiC l a k;simp only[ZfX];split<;>simp<;>omega
def Zmq{l a:List (List UInt8)}{s:List UInt8}:∀k,k<=l.length->s∈ZfX l a k->s∈l
 |0,_,h=>by cases h
 |k+1,hk,h=>by simp only[ZfX]at h;rcases YD.1 h with h|h;{exact Zmq k Kc h};{split at h;{rw[Yk.1 h,Yb,Yd Kc];exact Yv _};{cases h}}
def Zpa(b:Bar)(l:List (List UInt8)):∀k,k<=l.length->(ZaU Zao b (ZfX l (ZaU Zao b l).1 k)).2=(ZaU Zao b (l.take k)).2/\∀x∈(ZaU Zao b (ZfX l (ZaU Zao b l).1 k)).1,x=Zgl
 |0,_=>⟨rfl,fun x hx=>by cases hx⟩
 |k+1,h=>by obtain⟨h1,h2⟩:=Zpa b l k Kc;have hs:=Zga Zao b (l:=l) (k:=k) Kc;have hg:=Zwl Zao b (l:=l) (k:=k) Kc;have hc:=ZdS (ZaU Zao b (l.take k)).2 (l.getD k []);rw[hs];simp only[ZfX];generalize l.getD k []=s at hs hg hc|-;rw[hg];rcases hc with⟨e1,e2⟩|⟨e1,e2,_,_⟩;{(have e3:(Zfm s&&((Zao (ZaU Zao b (l.take k)).2 s).1==Zgl))=false:=by cases hi:Zfm s;{rfl};{rw[e2 hi];rfl});rw[e3];simp only[Yp,YA,Yas,e1];exact⟨h1,h2⟩};{(have e3:(Zfm s&&((Zao (ZaU Zao b (l.take k)).2 s).1==Zgl))=true:=by rw[e1,e2];rfl);rw[e3];simp only[YJ];rw[ZdZ,ZbC,ZeS,h1];refine⟨rfl,fun x hx=>?_⟩;rcases YD.1 hx with hx|hx;{exact h2 x hx};{rw[Yk.1 hx];exact e2}}
end Go.Proofs.YtcggfogkfhlmlaaGreatDoor
