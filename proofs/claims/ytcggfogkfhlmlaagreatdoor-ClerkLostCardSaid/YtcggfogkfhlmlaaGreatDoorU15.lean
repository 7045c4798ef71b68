
import Derived.Test.YtcggfogkfhlmlaaGreatDoorU14
import Derived.Test.YtcggfogkfhlmlaaGreatDoorU9
set_option linter.unusedVariables false
set_option linter.defProp false
set_option linter.unusedSimpArgs false
set_option maxRecDepth 100000
set_option maxHeartbeats 8000000
namespace Go.Proofs.YtcggfogkfhlmlaaGreatDoor
open Go Go.V
def Zdo{b:Bar}(hB:Za5 b=true):BxOk b.box/\bxB b.box=true:=by(have q:bxB b.box=true:=by unfold Za5 at hB;simp only[Yf]at hB;exact hB.1);exact⟨Zbc q,q⟩
def ZrC{b:Bar}(hB:Za5 b=true):(0<=b.pl/\b.pl<b.box.wh.ro)/\(0<=b.cr/\b.cr<=20):=by unfold Za5 at hB;simp only[Yf,Yl]at hB;obtain⟨_,_,h3,h4,h5,h6⟩:=hB;exact⟨⟨h3,h4⟩,h5,h6⟩
def ZtP{b:Bar}(hB:Za5 b=true){k:Nat}(hk:k<b.box.wh.co.length):Ze8 b.box.wh b.pl b.cr [(k:Int)]=(((b.pl+b.box.wh.co.getD k 0) % b.box.wh.ro,b.cr+plays b.box.wh b.pl (b.box.wh.co.getD k 0),0),0):=by obtain⟨hb,q⟩:=Zdo hB;obtain⟨hp,hc⟩:=ZrC hB;(have hwB:whB b.box.wh=true:=by simp only[bxB,Yf]at q;exact q.1.1.1.1.1.1.1);(have hact:ZkE b.box.wh (k:Int)=true:=by unfold ZkE Zad;simp only[Yae,Yf,Yl];right;omega);(have hrb:Zi8 b.box.wh b.pl b.cr [(k:Int)]=true:=by unfold Zi8 Zrr Zad;simp only[Yo,YI,YaE,Ybr,hact,Yam,Yf,Yl];omega);unfold Ze8 Za1;rw[hwB,hrb];simp only[YJ];have e:Zki b.box.wh b.pl b.cr [(k:Int)]=((ZeX b.box.wh b.pl b.cr (k:Int)).1,(ZeX b.box.wh b.pl b.cr (k:Int)).2,0+if(k:Int)= -1/\0<b.cr then 1 else 0):=rfl;rw[e,Yx Kc];unfold ZeX;rw[Yx Kc,Yr];rfl
end Go.Proofs.YtcggfogkfhlmlaaGreatDoor
