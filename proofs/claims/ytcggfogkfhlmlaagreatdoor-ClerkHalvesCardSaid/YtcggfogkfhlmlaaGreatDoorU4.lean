
import Derived.Test.YtcggfogkfhlmlaaGreatDoorV2
import Derived.Test.YtcggfogkfhlmlaaGreatDoorV3
import Derived.Test.YtcggfogkfhlmlaaGreatDoorChecked
import Derived.Shelf.Strings.Split
import Derived.Shelf.Strings.Prefix
import Derived.Shelf.Strconv.Atoi
import Derived.Lib.AtoiErrMem
import Derived.Shelf.Strconv.Itoa3
import Derived.Shelf.Strings.OnBuilder
import Derived.Lib.AppendIntMem
import Derived.Lib.ItoaLen
import Derived.DeepKeys5
set_option linter.unusedVariables false
set_option linter.defProp false
set_option linter.unusedSimpArgs false
set_option maxRecDepth 100000
set_option maxHeartbeats 8000000
namespace Go.V
abbrev JS(d:Nat)(i:I):Ins:=⟨some d,i,none,true⟩
abbrev JN(i:I):Ins:=⟨none,i,none,true⟩
abbrev JF(d:Nat)(i:I):Ins:=⟨some d,i,none,false⟩
abbrev JE(i:I):Ins:=⟨none,i,none,false⟩
abbrev JG(d:Nat)(i:I)(g:Nat)(b:Bool):Ins:=⟨some d,i,some (g,b),true⟩
abbrev JH(d:Nat)(i:I)(g:Nat)(b:Bool):Ins:=⟨some d,i,some (g,b),false⟩
abbrev Jm(x:Nat):I:=.mv (.t x)
abbrev Jf(o x:Nat):I:=.fa o (.t x)
abbrev Jl(x:Nat):I:=.ld true 1 (.t x)
abbrev JL(n x:Nat):I:=.ld false n (.t x)
abbrev Jb(o:BinOp)(x y:Nat):I:=.bin o (.t x) (.t y)
abbrev Jk(o:BinOp)(x:Nat)(n:Int):I:=.bin o (.t x) (.k (.c (.int .i64 n)))
abbrev Je(x i:Nat):I:=.ext (.t x) i
abbrev Jn(x:Nat):I:=.len (.t x)
abbrev Ji(n:Int):I:=.mv (.k (.c (.int .i64 n)))
abbrev JB(b:Bool):I:=.mv (.k (.c (.bool b)))
abbrev Js(n x y:Nat):I:=.st n (.t x) (.t y)
abbrev Ja(n x i:Nat):I:=.ia n (.t x) (.t i)
abbrev Jc(f:FuncId)(l:List X):I:=.call (.k (.fn f [])) l
abbrev Jo(x y:Nat):I:=.pick (.t x) (.k (.c (.bool true))) (.t y)
abbrev Jp(x y:Nat):I:=.pick (.t x) (.t y) (.k (.c (.bool false)))
abbrev Jz(n:Int):AV:=.c (.int .i64 n)
abbrev J0:AV:=.c (.raw (.slice none 0 0))
end Go.V
namespace Go.V
abbrev Kj(d:Nat)(x:Nat):Ins:=JS d (Jm x)
abbrev KF(d:Nat)(o x:Nat):Ins:=JS d (Jf o x)
abbrev KA(d:Nat)(x:Nat):Ins:=JS d (Jl x)
abbrev Ku(d:Nat)(n x:Nat):Ins:=JS d (JL n x)
abbrev KB(d:Nat)(o:BinOp)(x y:Nat):Ins:=JS d (Jb o x y)
abbrev KC(d:Nat)(o:BinOp)(x:Nat)(n:Int):Ins:=JS d (Jk o x n)
abbrev Kk(d:Nat)(x i:Nat):Ins:=JS d (Je x i)
abbrev KD(d:Nat)(x:Nat):Ins:=JS d (Jn x)
abbrev KI(d:Nat)(n:Int):Ins:=JS d (Ji n)
abbrev Kq(d:Nat)(b:Bool):Ins:=JS d (JB b)
abbrev Kr(d:Nat)(x y:Nat):Ins:=JS d (Jo x y)
abbrev Kn(d:Nat)(x y:Nat):Ins:=JS d (Jp x y)
abbrev KN(d:Nat)(n x i:Nat):Ins:=JS d (Ja n x i)
abbrev Kl(d:Nat)(f:FuncId)(l:List X):Ins:=JS d (Jc f l)
abbrev Ko(d:Nat)(x:Nat):Ins:=JF d (Jm x)
abbrev KJ(d:Nat)(o x:Nat):Ins:=JF d (Jf o x)
abbrev KO(d:Nat)(x:Nat):Ins:=JF d (Jl x)
abbrev Ky(d:Nat)(n x:Nat):Ins:=JF d (JL n x)
abbrev JFk(d:Nat)(o:BinOp)(x:Nat)(n:Int):Ins:=JF d (Jk o x n)
abbrev Kv(d:Nat)(x i:Nat):Ins:=JF d (Je x i)
abbrev JFp(d:Nat)(x y:Nat):Ins:=JF d (Jp x y)
abbrev KP(d:Nat)(n x i:Nat):Ins:=JF d (Ja n x i)
abbrev KW(d:Nat)(f:FuncId)(l:List X):Ins:=JF d (Jc f l)
abbrev Kt(d:Nat)(x:Nat)(g:Nat):Ins:=JG d (Jm x) g true
abbrev Km(d:Nat)(o x:Nat)(g:Nat):Ins:=JG d (Jf o x) g true
abbrev Ks(d:Nat)(x:Nat)(g:Nat):Ins:=JG d (Jl x) g true
abbrev KH(d:Nat)(n x:Nat)(g:Nat):Ins:=JG d (JL n x) g true
abbrev KE(d:Nat)(o:BinOp)(x y:Nat)(g:Nat):Ins:=JG d (Jb o x y) g true
abbrev KQ(d:Nat)(o:BinOp)(x:Nat)(n:Int)(g:Nat):Ins:=JG d (Jk o x n) g true
abbrev KS(d:Nat)(x:Nat)(g:Nat):Ins:=JG d (Jn x) g true
abbrev KX(d:Nat)(x y:Nat)(g:Nat):Ins:=JG d (Jo x y) g true
abbrev KV(d:Nat)(n x i:Nat)(g:Nat):Ins:=JG d (Ja n x i) g true
abbrev Kw(d:Nat)(f:FuncId)(l:List X)(g:Nat):Ins:=JG d (Jc f l) g true
abbrev Kz(d:Nat)(x:Nat)(g:Nat):Ins:=JG d (Jm x) g false
abbrev KG(d:Nat)(o x:Nat)(g:Nat):Ins:=JG d (Jf o x) g false
abbrev KK(d:Nat)(x:Nat)(g:Nat):Ins:=JG d (Jl x) g false
abbrev KR(d:Nat)(n x:Nat)(g:Nat):Ins:=JG d (JL n x) g false
abbrev KT(d:Nat)(o:BinOp)(x y:Nat)(g:Nat):Ins:=JG d (Jb o x y) g false
abbrev KL(d:Nat)(o:BinOp)(x:Nat)(n:Int)(g:Nat):Ins:=JG d (Jk o x n) g false
abbrev KM(d:Nat)(x:Nat)(g:Nat):Ins:=JG d (Jn x) g false
abbrev KU(d:Nat)(f:FuncId)(l:List X)(g:Nat):Ins:=JG d (Jc f l) g false
abbrev Kx(n x y:Nat):Ins:=JN (Js n x y)
structure Lk(b:Prop):Prop where
 h:b
def vV{a b:Prop}(h:b)(e:Lk b->a:=by(intro hlk;(first|refine Va ?_|refine Vb ?_|refine Vc ?_|refine Vd ?_|refine Ve ?_|refine Vf ?_);exact hlk.h)):a:=e ⟨h⟩
def vQ{a b:Prop}(h:b)(e:Lk b->a:=by(intro hlk;(repeat refine qJ ?_);exact hlk.h)):a:=e ⟨h⟩
def vR{a b:Prop}(h:b)(e:Lk b->a:=by(intro hlk;(repeat((first|refine Va ?_|refine Vb ?_|refine Vc ?_|refine Vd ?_|refine Ve ?_|refine Vf ?_);(try simp only[go_sem,hP]);(repeat refine qJ ?_)));exact hlk.h)):a:=e ⟨h⟩
def vR0{a b:Prop}(h:b)(e:Lk b->a:=by(intro hlk;(repeat((first|refine Va ?_|refine Vb ?_|refine Vc ?_|refine Vd ?_|refine Ve ?_|refine Vf ?_);(try simp only[go_sem,hP,Zai,Yc]);(repeat refine qJ ?_)));exact hlk.h)):a:=e ⟨h⟩
def vR1{a b:Prop}(h:b)(e:Lk b->a:=by(intro hlk;(repeat((first|refine Va ?_|refine Vb ?_|refine Vc ?_|refine Vd ?_|refine Ve ?_|refine Vf ?_);(try simp only[go_sem,hP,Tray.av]);(repeat refine qJ ?_)));exact hlk.h)):a:=e ⟨h⟩
def vR2{a b:Prop}(h:b)(e:Lk b->a:=by(intro hlk;(repeat((first|refine Va ?_|refine Vb ?_|refine Vc ?_|refine Vd ?_|refine Ve ?_|refine Vf ?_);(try simp only[go_sem,hP,Zaw,Yc]);(repeat refine qJ ?_)));exact hlk.h)):a:=e ⟨h⟩
def vR3{a b:Prop}(h:b)(e:Lk b->a:=by(intro hlk;(repeat((first|refine Va ?_|refine Vb ?_|refine Vc ?_|refine Vd ?_|refine Ve ?_|refine Vf ?_);(try simp only[go_sem,hP,Wh.avs,Zai]);(repeat refine qJ ?_)));exact hlk.h)):a:=e ⟨h⟩
def vR4{a b:Prop}(h:b)(e:Lk b->a:=by(intro hlk;(repeat((first|refine Va ?_|refine Vb ?_|refine Vc ?_|refine Vd ?_|refine Ve ?_|refine Vf ?_);(try simp only[go_sem,hP,Yc]);(repeat refine qJ ?_)));exact hlk.h)):a:=e ⟨h⟩
def vR5{a b:Prop}(h:b)(e:Lk b->a:=by(intro hlk;(repeat((first|refine Va ?_|refine Vb ?_|refine Vc ?_|refine Vd ?_|refine Ve ?_|refine Vf ?_);(try simp only[go_sem,hP,Yc,hne]);(repeat refine qJ ?_)));exact hlk.h)):a:=e ⟨h⟩
def vR6{a b:Prop}(h:b)(e:Lk b->a:=by(intro hlk;(repeat((first|refine Va ?_|refine Vb ?_|refine Vc ?_|refine Vd ?_|refine Ve ?_|refine Vf ?_);(try simp only[go_sem,hP,Wh.av,Wh.avs,Zai]);(repeat refine qJ ?_)));exact hlk.h)):a:=e ⟨h⟩
def vR7{a b:Prop}(h:b)(e:Lk b->a:=by(intro hlk;(repeat((first|refine Va ?_|refine Vb ?_|refine Vc ?_|refine Vd ?_|refine Ve ?_|refine Vf ?_);(try simp only[go_sem,hP,Zai]);(repeat refine qJ ?_)));exact hlk.h)):a:=e ⟨h⟩
def vR8{a b:Prop}(h:b)(e:Lk b->a:=by(intro hlk;(repeat((first|refine Va ?_|refine Vb ?_|refine Vc ?_|refine Vd ?_|refine Ve ?_|refine Vf ?_);(try simp only[go_sem,hP,YN]);(repeat refine qJ ?_)));exact hlk.h)):a:=e ⟨h⟩
def vR9{a b:Prop}(h:b)(e:Lk b->a:=by(intro hlk;(repeat((first|refine Va ?_|refine Vb ?_|refine Vc ?_|refine Vd ?_|refine Ve ?_|refine Vf ?_);(try simp only[go_sem,hP,Zbb,Yc]);(repeat refine qJ ?_)));exact hlk.h)):a:=e ⟨h⟩
def vA{a b:Prop}(x:a)(y:b):a/\b:=⟨x,y⟩
inductive Tg:Prop->Prop
 |t:Tg True
 |a {b:Prop}:Tg b
def vEz{o:Nat->Ob}{e e':Nat->AV}{b:Prop}(h:b)(k:Lk b->ZfA o e e':=by(intro hlk;((repeat'(first|exact Zc8 _ _|refine Zco ?_ ?_))<;>((try simp only[ZbX,ZgW,Zg2,Nat.reduceEqDiff,reduceIte]);first|exact AWk.refl _ _|exact AWk.int (by omega)|exact AWk.int (by rw[w64 (by omega) (by omega)];omega)|exact AWk.grow rfl|exact AWk.nil _|exact hlk.h))))(_:Tg b:=by first|exact .t|exact .a):ZfA o e e':=k ⟨h⟩
def vW{w a b:Prop}(x:w)(h:b)(e:w->Lk b->a:=by(intro w hlk;(repeat((first|refine Va ?_|refine Vb ?_|refine Vc ?_|refine Vd ?_|refine Ve ?_|refine Vf ?_);(try simp only[go_sem,hP,w]);(repeat refine qJ ?_)));exact hlk.h)):a:=e x ⟨h⟩
def vT{a b:Prop}(h:b)(e:Lk b->a:=by(intro hlk;refine Zas ?_;simp only[Zaz,inQ,ZfE,Zcb,Zaq,ZbJ];simp only[go_sem,Zbu,AV.port,AV.portL,YU];(first|(refine(fun(_:True)=>AVle.of rfl) ?_;exact hlk.h)|(refine AVle.of ?_;exact hlk.h)|exact hlk.h))):a:=e ⟨h⟩
def vEr{o:Nat->Ob}{e e':Nat->AV}(h:ZfA o e e':=by((repeat'(first|exact Zc8 _ _|refine Zco ?_ ?_))<;>((try simp only[ZbX,ZgW,Zg2,Nat.reduceEqDiff,reduceIte]);first|exact AWk.refl _ _|exact AWk.int (by omega)|exact AWk.int (by rw[w64 (by omega) (by omega)];omega)|exact AWk.grow rfl|exact AWk.nil _|exact AWk.of (by rfl)))):ZfA o e e':=h
def vEi{o:Nat->Ob}{e e':Nat->AV}(h:ZfA o e e':=by((repeat'(first|exact Zc8 _ _|refine Zco ?_ ?_))<;>((try simp only[ZbX,ZgW,Zg2,Nat.reduceEqDiff,reduceIte]);first|exact AWk.refl _ _|exact AWk.int (by omega)|exact AWk.int (by rw[w64 (by omega) (by omega)];omega)|exact AWk.grow rfl|exact AWk.nil _|exact AWk.of (by simp[Zai])))):ZfA o e e':=h
def vC{C:Ctx}{Q:Exit->St->Prop}{σ:St}{x:X}{t f:VC}{b:Bool}(ht:b=true->WV C t Q σ)(hf:b=false->WV C f Q σ)(hx:σ.val x= .c (.bool b):=by rfl):WV C (.cond x t f) Q σ:=Zcy hx ht hf
end Go.V
namespace Go.V
def vM:maxLen=9223372036854775807:=rfl
def vw{n:Int}(h1: -9223372036854775808<=n:=by omega)(h2:n<=9223372036854775807:=by omega):IntKind.i64.wrap n=n:=w64 h1 h2
def vE{P:Program}{m:List Nat}{f:FuncId}{fc:FC}(hc:compM P m f=some fc){args:List AV}{r:AV}(h:∀C:Ctx,C.P=P->C.N=fc.N->C.Ok->AV.lensL args->WV C fc.body (ZfE fc.rs r) ⟨Zbj e0 0 args,o0⟩)(hn:args.length<=fc.np:=by exact Yi _)(hnp:fc.np<=fc.N:=by decide):FSpec P f args r:=Zok hc hn hnp fun C a b c d=>by rw[Zbh];exact h C a b c d
def vF{P:Program}{m:List Nat}{f:FuncId}{fc:FC}(hc:compM P m f=some fc){args:List AV}{l:List Ob}{wl:List (List AV)}{Post:AV->List Ob->Prop}(h:∀C:Ctx,C.P=P->C.N=fc.N->C.Ok->AV.lensL args->WV C fc.body (Zjj fc.rs l wl Post) ⟨Zbj e0 0 args,ZaB (ZaB o0 1000 l) 2000 (wl.map .win)⟩)(hl:l.length<=1000:=by first|simp|exact YT rfl)(hn:args.length<=fc.np:=by exact Yi _)(hnp:fc.np<=fc.N:=by decide)(hN:fc.N<=1000:=by decide):Zc9 P f args l wl Post:=Zq1 hc hl hn hnp hN fun C a b c d=>by rw[Zbm,ZdU hl];exact h C a b c d
def vL{a b:Prop}(h:b)(e:Lk b->a:=by(intro hlk;refine Zas ?_;simp only[Zaz,inQ,Zjj,ZgS,Zaq,ZbJ];simp only[go_sem,Zbu,AV.keepP,AV.keepPL];exact hlk.h)):a:=e ⟨h⟩
def vS{a b:Prop}(h:b)(e:Lk b->a:=by(intro hlk;simp only[go_sem,hP];(repeat refine qJ ?_);(repeat((first|refine Va ?_|refine Vb ?_|refine Vc ?_|refine Vd ?_|refine Ve ?_|refine Vf ?_);(try simp only[go_sem,hP]);(repeat refine qJ ?_)));exact hlk.h)):a:=e ⟨h⟩
def vS0{a b:Prop}(h:b)(e:Lk b->a:=by(intro hlk;simp only[go_sem,hP,Zai,Yc];(repeat refine qJ ?_);(repeat((first|refine Va ?_|refine Vb ?_|refine Vc ?_|refine Vd ?_|refine Ve ?_|refine Vf ?_);(try simp only[go_sem,hP,Zai,Yc]);(repeat refine qJ ?_)));exact hlk.h)):a:=e ⟨h⟩
def vS1{a b:Prop}(h:b)(e:Lk b->a:=by(intro hlk;simp only[go_sem,hP,Tray.av];(repeat refine qJ ?_);(repeat((first|refine Va ?_|refine Vb ?_|refine Vc ?_|refine Vd ?_|refine Ve ?_|refine Vf ?_);(try simp only[go_sem,hP,Tray.av]);(repeat refine qJ ?_)));exact hlk.h)):a:=e ⟨h⟩
def vS2{a b:Prop}(h:b)(e:Lk b->a:=by(intro hlk;simp only[go_sem,hP,Zaw,Yc];(repeat refine qJ ?_);(repeat((first|refine Va ?_|refine Vb ?_|refine Vc ?_|refine Vd ?_|refine Ve ?_|refine Vf ?_);(try simp only[go_sem,hP,Zaw,Yc]);(repeat refine qJ ?_)));exact hlk.h)):a:=e ⟨h⟩
def vS3{a b:Prop}(h:b)(e:Lk b->a:=by(intro hlk;simp only[go_sem,hP,Wh.avs,Zai];(repeat refine qJ ?_);(repeat((first|refine Va ?_|refine Vb ?_|refine Vc ?_|refine Vd ?_|refine Ve ?_|refine Vf ?_);(try simp only[go_sem,hP,Wh.avs,Zai]);(repeat refine qJ ?_)));exact hlk.h)):a:=e ⟨h⟩
def vS4{a b:Prop}(h:b)(e:Lk b->a:=by(intro hlk;simp only[go_sem,hP,Yc];(repeat refine qJ ?_);(repeat((first|refine Va ?_|refine Vb ?_|refine Vc ?_|refine Vd ?_|refine Ve ?_|refine Vf ?_);(try simp only[go_sem,hP,Yc]);(repeat refine qJ ?_)));exact hlk.h)):a:=e ⟨h⟩
def vS5{a b:Prop}(h:b)(e:Lk b->a:=by(intro hlk;simp only[go_sem,hP,Yc,hne];(repeat refine qJ ?_);(repeat((first|refine Va ?_|refine Vb ?_|refine Vc ?_|refine Vd ?_|refine Ve ?_|refine Vf ?_);(try simp only[go_sem,hP,Yc,hne]);(repeat refine qJ ?_)));exact hlk.h)):a:=e ⟨h⟩
def vS6{a b:Prop}(h:b)(e:Lk b->a:=by(intro hlk;simp only[go_sem,hP,Wh.av,Wh.avs,Zai];(repeat refine qJ ?_);(repeat((first|refine Va ?_|refine Vb ?_|refine Vc ?_|refine Vd ?_|refine Ve ?_|refine Vf ?_);(try simp only[go_sem,hP,Wh.av,Wh.avs,Zai]);(repeat refine qJ ?_)));exact hlk.h)):a:=e ⟨h⟩
def vS7{a b:Prop}(h:b)(e:Lk b->a:=by(intro hlk;simp only[go_sem,hP,Zai];(repeat refine qJ ?_);(repeat((first|refine Va ?_|refine Vb ?_|refine Vc ?_|refine Vd ?_|refine Ve ?_|refine Vf ?_);(try simp only[go_sem,hP,Zai]);(repeat refine qJ ?_)));exact hlk.h)):a:=e ⟨h⟩
def vS8{a b:Prop}(h:b)(e:Lk b->a:=by(intro hlk;simp only[go_sem,hP,YN];(repeat refine qJ ?_);(repeat((first|refine Va ?_|refine Vb ?_|refine Vc ?_|refine Vd ?_|refine Ve ?_|refine Vf ?_);(try simp only[go_sem,hP,YN]);(repeat refine qJ ?_)));exact hlk.h)):a:=e ⟨h⟩
def vS9{a b:Prop}(h:b)(e:Lk b->a:=by(intro hlk;simp only[go_sem,hP,Zbb,Yc];(repeat refine qJ ?_);(repeat((first|refine Va ?_|refine Vb ?_|refine Vc ?_|refine Vd ?_|refine Ve ?_|refine Vf ?_);(try simp only[go_sem,hP,Zbb,Yc]);(repeat refine qJ ?_)));exact hlk.h)):a:=e ⟨h⟩
def vX{w a b:Prop}(x:w)(h:b)(e:w->Lk b->a:=by(intro w hlk;simp only[go_sem,hP,w];(repeat refine qJ ?_);(repeat((first|refine Va ?_|refine Vb ?_|refine Vc ?_|refine Vd ?_|refine Ve ?_|refine Vf ?_);(try simp only[go_sem,hP,w]);(repeat refine qJ ?_)));exact hlk.h)):a:=e x ⟨h⟩
def vN{a b:Prop}(h:b)(e:Lk b->a:=by(intro hlk;simp only[go_sem,hP];(repeat refine qJ ?_);exact hlk.h)):a:=e ⟨h⟩
def vO{a b:Prop}(h:b)(e:Lk b->a:=by(intro hlk;simp only[go_sem,hP,Zae];(repeat refine qJ ?_);exact hlk.h)):a:=e ⟨h⟩
def vY{a b:Prop}(h:b)(e:Lk b->a:=by(intro hlk;(repeat(first|(refine Zcy rfl (fun hh=>?_) (fun hh=>?_);rotate_left;exact absurd hh (by decide))|((first|refine Va ?_|refine Vb ?_|refine Vc ?_|refine Vd ?_|refine Ve ?_|refine Vf ?_);(try simp only[go_sem,hP]))));exact hlk.h)):a:=e ⟨h⟩
def vM1{a b:Prop}(h:b)(e:Lk b->a:=by(intro hlk;(try simp only[Zaz,inQ,Zjj,ZgS,Zaq,ZbJ]);(try simp only[go_sem,Zbu,AV.keepP,AV.keepPL]);exact hlk.h)):a:=e ⟨h⟩
def vU{a b:Prop}(h:b)(e:Lk b->a:=by(intro hlk;(repeat((first|refine Va ?_|refine Vb ?_|refine Vc ?_|refine Vd ?_|refine Ve ?_|refine Vf ?_);(try simp only[go_sem,hP]);(repeat refine qJ ?_)));refine Zas ?_;simp only[Zaz,inQ,ZfE,Zcb,Zaq,ZbJ];simp only[go_sem,Zbu,AV.port,AV.portL,YU];(first|(refine(fun(_:True)=>AVle.of rfl) ?_;exact hlk.h)|(refine AVle.of ?_;exact hlk.h)|exact hlk.h))):a:=e ⟨h⟩
def vUt{a:Prop}(e:a:=by((repeat((first|refine Va ?_|refine Vb ?_|refine Vc ?_|refine Vd ?_|refine Ve ?_|refine Vf ?_);(try simp only[go_sem,hP]);(repeat refine qJ ?_)));refine Zas ?_;simp only[Zaz,inQ,ZfE,Zcb,Zaq,ZbJ];simp only[go_sem,Zbu,AV.port,AV.portL,YU];exact AVle.of rfl)):a:=e
def vTt{a:Prop}(e:a:=by(refine Zas ?_;simp only[Zaz,inQ,ZfE,Zcb,Zaq,ZbJ];simp only[go_sem,Zbu,AV.port,AV.portL,YU];exact AVle.of rfl)):a:=e
def vW0{w a b:Prop}(x:w)(h:b)(e:w->Lk b->a:=by(intro w hlk;(repeat((first|refine Va ?_|refine Vb ?_|refine Vc ?_|refine Vd ?_|refine Ve ?_|refine Vf ?_);(try simp only[go_sem,hP,YB,Ybz,Yr,Yc,Zai,w]);(repeat refine qJ ?_)));exact hlk.h)):a:=e x ⟨h⟩
def vX0{w a b:Prop}(x:w)(h:b)(e:w->Lk b->a:=by(intro w hlk;simp only[go_sem,hP,YB,Ybz,Yr,Yc,Zai,w];(repeat refine qJ ?_);(repeat((first|refine Va ?_|refine Vb ?_|refine Vc ?_|refine Vd ?_|refine Ve ?_|refine Vf ?_);(try simp only[go_sem,hP,YB,Ybz,Yr,Yc,Zai,w]);(repeat refine qJ ?_)));exact hlk.h)):a:=e x ⟨h⟩
def vW1{w a b:Prop}(x:w)(h:b)(e:w->Lk b->a:=by(intro w hlk;(repeat((first|refine Va ?_|refine Vb ?_|refine Vc ?_|refine Vd ?_|refine Ve ?_|refine Vf ?_);(try simp only[go_sem,hP,Yr,Yc,w]);(repeat refine qJ ?_)));exact hlk.h)):a:=e x ⟨h⟩
def vX1{w a b:Prop}(x:w)(h:b)(e:w->Lk b->a:=by(intro w hlk;simp only[go_sem,hP,Yr,Yc,w];(repeat refine qJ ?_);(repeat((first|refine Va ?_|refine Vb ?_|refine Vc ?_|refine Vd ?_|refine Ve ?_|refine Vf ?_);(try simp only[go_sem,hP,Yr,Yc,w]);(repeat refine qJ ?_)));exact hlk.h)):a:=e x ⟨h⟩
def vW2{w a b:Prop}(x:w)(h:b)(e:w->Lk b->a:=by(intro w hlk;(repeat((first|refine Va ?_|refine Vb ?_|refine Vc ?_|refine Vd ?_|refine Ve ?_|refine Vf ?_);(try simp only[go_sem,hP,Yc,w]);(repeat refine qJ ?_)));exact hlk.h)):a:=e x ⟨h⟩
def vX2{w a b:Prop}(x:w)(h:b)(e:w->Lk b->a:=by(intro w hlk;simp only[go_sem,hP,Yc,w];(repeat refine qJ ?_);(repeat((first|refine Va ?_|refine Vb ?_|refine Vc ?_|refine Vd ?_|refine Ve ?_|refine Vf ?_);(try simp only[go_sem,hP,Yc,w]);(repeat refine qJ ?_)));exact hlk.h)):a:=e x ⟨h⟩
def vW3{w a b:Prop}(x:w)(h:b)(e:w->Lk b->a:=by(intro w hlk;(repeat((first|refine Va ?_|refine Vb ?_|refine Vc ?_|refine Vd ?_|refine Ve ?_|refine Vf ?_);(try simp only[go_sem,hP,Yc,ZaT,w]);(repeat refine qJ ?_)));exact hlk.h)):a:=e x ⟨h⟩
def vX3{w a b:Prop}(x:w)(h:b)(e:w->Lk b->a:=by(intro w hlk;simp only[go_sem,hP,Yc,ZaT,w];(repeat refine qJ ?_);(repeat((first|refine Va ?_|refine Vb ?_|refine Vc ?_|refine Vd ?_|refine Ve ?_|refine Vf ?_);(try simp only[go_sem,hP,Yc,ZaT,w]);(repeat refine qJ ?_)));exact hlk.h)):a:=e x ⟨h⟩
def vK{p:Prop}(e:p:=by simp only[go_sem,Zag,Ob.keepP,AV.keepP,AV.keepPL]):p:=e
def vD{C:Ctx}{Q:Exit->St->Prop}{σ:St}{x:X}{t f:VC}(hf:WV C f Q σ)(hx:σ.val x= .c (.bool false):=by rfl):WV C (.cond x t f) Q σ:=Zcy hx (fun h=>by cases h) fun _=>hf
end Go.V
namespace Go.Proofs.YtcggfogkfhlmlaaGreatDoor
open Go Go.V
abbrev Cz:=Ec Tryz.prog
abbrev Kf(o:List Ins)(v:VC):VC:=.seq (.ops o) v
abbrev Kg(o:List Ins)(v:VC):VC:=.seq (.dops o) v
abbrev Kh(o:OT)(v:VC):VC:=.seq (.drw o) v
abbrev Ki(m:List Nat)(f:Nat)(i:FC):Prop:=compM Tryz.prog m f=some i
def Ke{m:List Nat}{f:Nat}{i:FC}(h:compM Tryz.prog m f=some i:=by kernel_rfl):Ki m f i:=h
abbrev Fq:=FSpec Tryz.prog
abbrev Fl:=Zc9 Tryz.prog
abbrev Fn:=ZfB Tryz.prog
abbrev iv(n:Int):AV:=.c (.int .i64 n)
def ic(n:Int):CD:=.int .i64 n
def Zai(l:List Int):CD:=.sl 1 (l.map fun n=>[.int .i64 n])
def Zad(n lo hi:Int):Bool:=decide (lo<=n)&&decide (n<=hi)
def ZfV{l:List Int}(h:(Zai l).lens):l.length<=9223372036854775807:=by simp only[Zai,CD.lens,Yc,maxLen]at h;omega
def Zax{α β:Type}{l:List α}{f:α->β}{k:Nat}{d:β}(h:k<l.length):(l.map f).getD k d=f l[k]:=by simp[h]
def Zgg{α:Type}{l:List α}{k:Nat}(p:α->Bool)(h:k<l.length):(l.take (k+1)).all p=((l.take k).all p&&p l[k]):=by rw[Yq h,YcJ];simp[YaE]
def ZGo(a b:Nat):((a:Int)==(b:Int))=(a==b):=by rw[Yaq];simp;omega
def ZDN(a b:Nat):((a:Int) !=(b:Int))= !(a==b):=by rw[bne,ZGo]
def ZFG:Cz [] 67:=ec
def ZBJ:Cz [] 139:=ec
attribute [local go_sem] Nat.reduceEqDiff Nat.reduceAdd Nat.reduceMul reduceIte Nat.reduceLeDiff Nat.reduceLT Nat.reduceBEq reduceCtorEq
structure Wh where
 ro:Int
 no:List Int
 co:List Int
def Wh.avs(w:Wh):List AV:=[.c (.int .i64 w.ro),.c (Zai w.no),.c (Zai w.co)]
def Wh.av(w:Wh):AV:=.agg w.avs
def Zau{l:List Int}{i:Nat}(hi:i<l.length):(l.map fun n=>[CD.int .i64 n]).getD i []=[.int .i64 (l.getD i 0)]:=by rw[Zax hi,Yb,Yd hi];rfl
def Zd4(a b c:Int):Fq 67 [iv a,iv b,iv c] (.c (.bool (Zad a b c))):=by refine vE ZFG.h fun C hP hN hC hL=>?_;simp only[ZFG];(refine vU ?_;try exact trivial)
def Zjy(lo hi:Int)(l:List Int):Nat->Bool
 |0=>true
 |k+1=>Zjy lo hi l k&&(Zad (l.getD k 0) lo hi&&(decide (k=0)||decide (l.getD (k-1) 0<l.getD k 0)))
def ZgN{lo hi:Int}{l:List Int}:∀{k m:Nat},Zjy lo hi l k=false->k<=m->Zjy lo hi l m=false
 |k,0,h,hm=>by rwa [show k=0 by omega]at h
 |k,m+1,h,hm=>by rcases YaG m k with h1|h1;{rwa [show k=m+1 by omega]at h};{unfold Zjy;rw[ZgN h h1];rfl}
def ZlB(lo hi:Int)(l:List Int):Bool:=Zjy lo hi l l.length
def Zn3{lo hi:Int}{l:List Int}(h:ZlB lo hi l=true):∀n∈l,lo<=n/\n<=hi:=by
 have key:∀k,Zjy lo hi l k=true->∀i,i<k->lo<=l.getD i 0/\l.getD i 0<=hi:=by
  intro k;induction k with
  |zero=>intro _ i hi;omega
  |succ k ih=>intro h i hi;simp only[Zjy,Yf,Zad,Yl]at h;rcases YaG i k with h1|h1;{exact ih h.1 i h1};{rw[show i=k by omega];exact h.2.1}
 intro n hn;obtain⟨i,hi,rfl⟩:=Ybb hn;have:=key _ h i hi;rwa [Yb,Yd hi]at this
def ZtH{lo hi:Int}{l:List Int}:∀k,Zjy lo hi l k=true->∀i:Nat,i<k->lo+i<=l.getD i 0
 |0,_,i,hi=>by omega
 |k+1,h,i,hi=>by simp only[Zjy,Yf,Yae,Zad,Yl]at h;have ih:=ZtH k h.1;rcases YaG i k with h1|h1;{exact ih i h1};{(obtain rfl:i=k:=by omega);rcases h.2.2 with h2|h2;{subst h2;have:=h.2.1.1;omega};{rcases Nat.eq_zero_or_pos i with h3|h3;{subst h3;have:=h.2.1.1;omega};{have:=ih (i-1) Kc;omega}}}
def Zwj{hi:Int}{l:List Int}(h:ZlB 1 hi l=true)(h0:0<=hi):(l.length:Int)<=hi:=by rcases Nat.eq_zero_or_pos l.length with h1|h1;{omega};{have h2:=ZtH _ h (l.length-1) Kc;have h3:=Zn3 h (l.getD (l.length-1) 0) (by rw[Yb,Yd Kc];exact Yv _);omega}
def Zpt(l:List Int)(many most:Int):Fq 139 [.c (Zai l),iv many,iv most] (.c (.bool (ZlB 1 most l&&decide ((l.length:Int)<=many)))):=by refine vE ZBJ.h fun C hP hN hC hL=>?_;(have hl:l.length<=9223372036854775807:=by simp only[AV.lensL,AV.lens]at hL;exact ZfV hL.1);simp only[ZBJ];refine vR ?_;refine ZaE (fun k:Nat=>⟨upd (upd (upd (upd (upd (upd e0 0 (.c (Zai l))) 1 (iv many)) 2 (iv most)) 9 (.c (Zai l))) 10 (iv l.length)) 11 (iv k),o0⟩) (fun k=>k<=l.length/\Zjy 1 most l k=true) (fun k=>l.length-k) 0 ⟨YC _,rfl⟩ ?_ ?_;{(refine Zaf (by simp only[go_sem];exact vEi) (by simp only[go_sem];exact Zaa))};rintro k ⟨hk,hr⟩;refine vR0 ?_;refine vC ?_ ?_<;>intro h;{(have hi:k<l.length:=by simpa using h);have hw:=vw (n:=(k:Int)+1);have hgd:=Zau hi;(have hs:Zjy 1 most l (k+1)=(Zad (l.getD k 0) 1 most&&(decide (k=0)||decide (l.getD (k-1) 0<l.getD k 0))):=by(conv=>lhs;unfold Zjy);rw[hr];rfl);have hfail:Zjy 1 most l (k+1)=false->ZlB 1 most l=false:=fun h=>ZgN h hi;generalize l.getD k 0=a at hgd hs;have hz0:(Go.IntKind.i64.wrap (((0:Nat):Int)-1)).toNat=0:=rfl;by_cases hz:k=0;{subst hz;have hd0:decide ((0:Int)<((0:Nat):Int))=false:=rfl;(have hs:Zjy 1 most l (0+1)=Zad a 1 most:=by rw[hs];simp);refine vW0 (vA hgd (vA hi (vA hd0 hz0))) ?_;(refine Zal (Zd4 a 1 most) ?_;simp only[go_sem,hP,hd0,hz0,hgd,Zai,Yc,Yr];refine vQ ?_;(repeat(refine vV ?_;(try simp only[go_sem,hP,hd0,hz0,hgd,Zai,Yc,Yr]);refine vQ ?_)));by_cases hin:Zad a 1 most=true;{rw[hin]at hs;refine vC ?_ ?_<;>intro h;{simp[hin]at h};refine vW hw ?_;refine⟨0+1,⟨Kc,hs⟩,Kc,?_⟩;(refine Zaf (by simp only[go_sem];exact vEi) (by simp only[go_sem];exact Zaa))};{(have hin:Zad a 1 most=false:=by simpa using hin);rw[hin]at hs;rw[hfail hs];refine vC ?_ ?_<;>intro h;{exact vUt};{simp[hin]at h}}};{have hgp:=Zau (l:=l) (i:=k-1) Kc;generalize l.getD (k-1) 0=b at hgp hs;(have hd1:decide ((0:Int)<(k:Int))=true:=by rw[Yl];omega);have wi:=vw (n:=(k:Int)-1);(have ei:((k:Int)-1).toNat=k-1:=by omega);(have hlt:(k:Int)-1<(l.length:Int):=by omega);(have hge:(0:Int)<=(k:Int)-1:=by omega);(have hs:Zjy 1 most l (k+1)=(Zad a 1 most&&decide (b<a)):=by rw[hs];simp[hz]);refine vW0 (vA hgd (vA hi hd1)) ?_;(refine Zal (Zd4 a 1 most) ?_;refine vX0 (vA hd1 (vA hgd (vA hgp (vA wi (vA ei (vA hlt (vA hge hi))))))) ?_);by_cases hin:(Zad a 1 most&&decide (b<a))=true;{rw[hin]at hs;rw[Yf,Yl]at hin;refine vC ?_ ?_<;>intro h;{rw[hin.1]at h;simp at h;omega};refine vW hw ?_;refine⟨k+1,⟨Kc,hs⟩,Kc,?_⟩;(refine Zaf (by simp only[go_sem];exact vEi) (by simp only[go_sem];exact Zaa))};{(have hin:(Zad a 1 most&&decide (b<a))=false:=by simpa using hin);rw[hin]at hs;rw[hfail hs];refine vC ?_ ?_<;>intro h;{exact vUt};{(cases h1:Zad a 1 most with|false=>rw[h1]at h;simp at h|true=>rw[h1]at h hin;simp at h hin;omega)}}}};{(have hi:k=l.length:=by simp at h;omega);subst hi;unfold ZlB;rw[hr];refine vR0 ?_;(refine vT ?_;try exact trivial)}
def ZBr:Cz [] 106:=ec
def ZFE:Cz [] 65:=ec [(5,50331648,[])]
abbrev ZDy:List Nat:=[1,3,8,16,17]
def ZFB:Cz [] 62:=ec
def ZFD:Cz [] 64:=ec
def ZFV:Cz [] 87:=ec
def whB(w:Wh):Bool:=Zad w.ro 1 200&&(ZlB 1 w.ro w.no&&decide ((w.no.length:Int)<=12))&&(ZlB 1 100 w.co&&decide ((w.co.length:Int)<=4))
structure WhOk(w:Wh):Prop where
 ro:1<=w.ro/\w.ro<=200
 no:∀n∈w.no,1<=n/\n<=w.ro
 nl:w.no.length<=12
 nr:(w.no.length:Int)<=w.ro
 co:∀n∈w.co,1<=n/\n<=100
 cl:w.co.length<=4
def ZdL{w:Wh}(h:whB w=true):WhOk w:=by simp only[whB,Yf,Yl,Zad]at h;exact⟨h.1.1,Zn3 h.1.2.1,Kc,Zwj h.1.2.1 Kc,Zn3 h.2.1,Kc⟩
def whE(w:Wh):Int:=if whB w then 0 else 10
def ZkJ(w:Wh):Fq 106 [w.av] (iv (whE w)):=by refine vE ZBr.h fun C hP hN hC hL=>?_;simp only[ZBr,Wh.av,Wh.avs];refine vR3 ?_;(refine Zal (Zd4 w.ro 1 200) ?_;refine vS7 ?_);by_cases h1:Zad w.ro 1 200=true;{simp only[go_sem,h1];(refine ZaV (fun hG=>Zpt w.no 12 w.ro) ?_;simp only[go_sem,hP,Zai,h1];refine vQ ?_;(repeat(refine vV ?_;(try simp only[go_sem,hP,Zai,h1]);refine vQ ?_)));by_cases h2:(ZlB 1 w.ro w.no&&decide ((w.no.length:Int)<=12))=true;{simp only[go_sem,h2];(refine ZaV (fun hG=>Zpt w.co 4 100) ?_;simp only[go_sem,hP,Zai,h1,h2];refine vQ ?_;(repeat(refine vV ?_;(try simp only[go_sem,hP,Zai,h1,h2]);refine vQ ?_)));by_cases h3:(ZlB 1 100 w.co&&decide ((w.co.length:Int)<=4))=true;{refine vC ?_ ?_<;>intro h;{simp[h3]at h};{refine vR ?_;(have:whE w=0:=by unfold whE whB;rw[h1,h2,h3];rfl);rw[this];(refine vT ?_;try exact trivial)}};{(have h3:(ZlB 1 100 w.co&&decide ((w.co.length:Int)<=4))=false:=by simpa using h3);(have:whE w=10:=by unfold whE whB;rw[h1,h2,h3];rfl);rw[this];refine vC ?_ ?_<;>intro h;{exact vUt};{simp[h3]at h}}};{(have h2:(ZlB 1 w.ro w.no&&decide ((w.no.length:Int)<=12))=false:=by simpa using h2);(have:whE w=10:=by unfold whE whB;rw[h1,h2];rfl);rw[this];simp only[go_sem,h2];(refine Zay ?_;refine vS ?_);refine vC ?_ ?_<;>intro h;{exact vUt};{simp at h}}};{(have h1:Zad w.ro 1 200=false:=by simpa using h1);(have:whE w=10:=by unfold whE whB;rw[h1];rfl);rw[this];simp only[go_sem,h1];(refine Zay ?_;refine vS ?_);(refine Zay ?_;refine vS ?_);refine vC ?_ ?_<;>intro h;{exact vUt};{simp at h}}
def ZnG(r p c n:Int):Int:=(p+c-n+r)/r-(p-n+r)/r
def plK(w:Wh)(p c:Int)(k:Nat):Int:=((w.no.take k).map (ZnG w.ro p c)).sum
def plays(w:Wh)(p c:Int):Int:=(w.no.map (ZnG w.ro p c)).sum
def Zsq{r p c n:Int}(hr:1<=r)(hc:0<=c):0<=ZnG r p c n/\ZnG r p c n<=c/r+1:=by unfold ZnG;have h1:(p-n+r)/r<=(p+c-n+r)/r:=Int.ediv_le_ediv Kc Kc;refine⟨Kc,?_⟩;have h2:=Int.lt_ediv_add_one_mul_self (p-n+r) (b:=r) Kc;have h3:=Int.lt_ediv_add_one_mul_self c (b:=r) Kc;(have h4:(p+c-n+r)/r<(p-n+r)/r+c/r+2:=by refine Int.ediv_lt_of_lt_mul Kc ?_;rw[Yc2]at h2 h3;rw[Yc2,Yc2];omega);omega
def ZpA{r p c:Int}(hr:1<=r)(hc:0<=c):∀l:List Int,0<=(l.map (ZnG r p c)).sum/\(l.map (ZnG r p c)).sum<=l.length*(c/r+1)
 |[]=>by simp
 |n::l=>by have h1:=Zsq (p:=p) (n:=n) hr hc;have h2:=ZpA (p:=p) hr hc l;simp only[Ye,YaF,Yo,Int.natCast_add,Int.natCast_one,Yc2,Int.one_mul];omega
def Zs6{w:Wh}(hw:WhOk w){p c:Int}(hc:0<=c)(k:Nat):0<=plK w p c k/\plK w p c k<=c+12:=by have h1:=ZpA (p:=p) hw.ro.1 hc (w.no.take k);refine⟨h1.1,Yb5 h1.2 ?_⟩;(have hl:((w.no.take k).length:Int)<=w.no.length:=by rw[Y4];omega);have h0:0<=c/w.ro:=YcH hc (by have:=hw.ro;omega);have h2:((w.no.take k).length:Int)*(c/w.ro)<=w.ro*(c/w.ro):=Int.mul_le_mul_of_nonneg_right (by have:=hw.nr;omega) h0;(have h3:w.ro*(c/w.ro)<=c:=by have:=Int.mul_ediv_add_emod c w.ro;have:=Yb9 c (b:=w.ro) (by have:=hw.ro;omega);omega);have:=hw.nl;rw[Int.mul_add,Int.mul_one];omega
def Zs7(w:Wh)(p c:Int):plays w p c=plK w p c w.no.length:=by unfold plays plK;rw[YL]
def Zdk{w:Wh}(hw:WhOk w){p c:Int}(hc:0<=c):0<=plays w p c/\plays w p c<=c+12:=by rw[Zs7];exact Zs6 hw hc _
def ZvV{w:Wh}{p c:Int}{k:Nat}(h:k<w.no.length):plK w p c (k+1)=plK w p c k+ZnG w.ro p c (w.no.getD k 0):=by unfold plK;rw[Yq h,Yy,Ya4,Yb,Yd h];simp
def tdv{a r:Int}(h:0<=a):a.tdiv r=a/r:=Ybl h
def Zxu{w:Wh}(hw:WhOk w){p c:Int}(hp:0<=p/\p<w.ro)(hc:0<=c/\c<=100000):Fq 65 [w.av,iv p,iv c] (.tup [iv ((p+c) % w.ro),iv (plays w p c)]):=by have hro:=hw.ro;have hl:=hw.nl;have w1:=vw (n:=p+c);refine vE ZFE.h fun C hP hN hC hL=>?_;simp only[ZFE,Wh.av,Wh.avs];(repeat(refine vV ?_;(try simp only[go_sem,hP,Wh.avs,Zai,w1]);refine vQ ?_));(refine Zam ZDy [] (fun k:Nat=>k<=w.no.length) (fun k=>w.no.length-k) (fun k=>[(18,iv k),(7,iv (plK w p c k))]) (fun _=>[]) 0 (YC _) ?_ ?_);{(refine Zaf (by simp only[go_sem];(refine vEz ?_;first|trivial|exact AWk.of (by simp[plK]))) (by simp only[go_sem];exact Zaa))};{intro k hk;refine vR ?_;refine vC ?_ ?_<;>intro h;{(have hi:k<w.no.length:=by simpa using h);have hgd:=Zau hi;have hs:=ZvV (p:=p) (c:=c) hi;have hb1:=Zs6 hw (p:=p) hc.1 k;have hb2:=Zs6 hw (p:=p) hc.1 (k+1);have hn:=hw.no (w.no.getD k 0) (by rw[Yb,Yd hi];exact Yv _);generalize w.no.getD k 0=n at hgd hs hn;have hh:=Zsq (p:=p) (n:=n) hro.1 hc.1;have w2:=vw (n:=p+c-n);have w3:=vw (n:=p+c-n+w.ro);have w4:=vw (n:=p-n);have w5:=vw (n:=p-n+w.ro);have t1:=tdv (a:=p+c-n+w.ro) (r:=w.ro) Kc;have t2:=tdv (a:=p-n+w.ro) (r:=w.ro) Kc;have q1:0<=(p+c-n+w.ro)/w.ro/\(p+c-n+w.ro)/w.ro<=p+c-n+w.ro:=⟨YcH Kc Kc,Int.ediv_le_self _ Kc⟩;have q2:0<=(p-n+w.ro)/w.ro/\(p-n+w.ro)/w.ro<=p-n+w.ro:=⟨YcH Kc Kc,Int.ediv_le_self _ Kc⟩;have w6:=vw (n:=(p+c-n+w.ro)/w.ro);have w7:=vw (n:=(p-n+w.ro)/w.ro);have w8:IntKind.i64.wrap ((p+c-n+w.ro)/w.ro-(p-n+w.ro)/w.ro)=ZnG w.ro p c n:=w64 Kc Kc;(have w9:IntKind.i64.wrap (plK w p c k+ZnG w.ro p c n)=plK w p c (k+1):=by rw[hs];exact w64 Kc Kc);have w10:=vw (n:=(k:Int)+1);(have hz:w.ro≠0:=by omega);refine vW0 (vA hgd (vA hi (vA w1 (vA w2 (vA w3 (vA w4 (vA w5 (vA t1 (vA t2 (vA w6 (vA w7 (vA w8 (vA w9 (vA w10 hz)))))))))))))) ?_;refine⟨k+1,Kc,Kc,?_⟩;exact Zak};{(have hi:k=w.no.length:=by simp at h;omega);subst hi;(have hz:w.ro≠0:=by omega);have m1:(p+c).tmod w.ro=(p+c) % w.ro:=Ybm Kc;have w2:=w64 (n:=(p+c) % w.ro) (by have:=Yb9 (p+c) hz;omega) (by have:=Yb8 (p+c) (b:=w.ro) Kc;omega);refine vW (vA m1 (vA w2 hz)) ?_;rw[Zs7];(refine vT ?_;try exact trivial)}}
def Zmn{w:Wh}(hw:WhOk w)(p:Int):Fq 62 [w.av,iv p] (.c (.bool (Zad p 0 (w.ro-1)))):=by have hro:=hw.ro;have w1:=vw (n:=w.ro-1);refine vE ZFB.h fun C hP hN hC hL=>?_;simp only[ZFB,Wh.av,Wh.avs];(repeat(refine vV ?_;(try simp only[go_sem,hP,Wh.avs,Zai,w1]);refine vQ ?_));(refine Zal (Zd4 p 0 (w.ro-1)) ?_;refine vS ?_);(refine vT ?_;try exact trivial)
def Zo5{w:Wh}(hw:WhOk w)(n:Int):Fq 64 [w.av,iv n] (.c (.bool (Zad n 0 (w.co.length-1)))):=by have hcl:=hw.cl;have w1:=vw (n:=(w.co.length:Int)-1);refine vE ZFD.h fun C hP hN hC hL=>?_;simp only[ZFD,Wh.av,Wh.avs];(repeat(refine vV ?_;(try simp only[go_sem,hP,Wh.avs,Zai,w1,Yc]);refine vQ ?_));(refine Zal (Zd4 n 0 (w.co.length-1)) ?_;refine vX w1 ?_);(refine vT ?_;try exact trivial)
def ZkE(w:Wh)(n:Int):Bool:=(n== -1)||Zad n 0 (w.co.length-1)
def ZyA{w:Wh}(hw:WhOk w)(n:Int):Fq 87 [w.av,iv n] (.c (.bool (ZkE w n))):=by have hcl:=hw.cl;refine vE ZFV.h fun C hP hN hC hL=>?_;simp only[ZFV,Wh.av,Wh.avs];refine vR3 ?_;by_cases h1:n= -1;{subst h1;have hb:((-1:Int)== -1)=true:=rfl;refine vW hb ?_;(refine Zay ?_;refine vS ?_);(refine Zas ?_;simp only[Zaz,inQ,ZfE,Zcb,Zaq,ZbJ];simp only[go_sem,Zbu,AV.port,AV.portL,YU,ZkE,hb];(first|exact AVle.of rfl|refine AVle.of ?_|skip))};{(have hb:(n== -1)=false:=by simpa using h1);simp only[go_sem,hb];(refine ZaV (fun hG=>Zo5 hw n) ?_;simp only[go_sem,hP,Wh.av,Wh.avs,Zai,hb];refine vQ ?_;(repeat(refine vV ?_;(try simp only[go_sem,hP,Wh.av,Wh.avs,Zai,hb]);refine vQ ?_)));(refine Zas ?_;simp only[Zaz,inQ,ZfE,Zcb,Zaq,ZbJ];simp only[go_sem,Zbu,AV.port,AV.portL,YU,ZkE,hb,Ybp];(first|exact AVle.of rfl|refine AVle.of ?_|skip))}
def ZFH:Cz [] 68:=ec [(2,17920,[])]
def Zvk:Cz [] 140:=ec
abbrev ZAo:List Nat:=[0,1,7]
def Zvh:Cz [] 107:=ec
def ZeX(w:Wh)(pl cr a:Int):Int×Int:=if a= -1 then(if 0<cr then(0,cr-1)else(pl,cr))else((pl+w.co.getD a.toNat 0) % w.ro,cr+plays w pl (w.co.getD a.toNat 0))
def Zx7{w:Wh}(hw:WhOk w){a:Int}(h:0<=a/\a<=w.co.length-1):1<=w.co.getD a.toNat 0/\w.co.getD a.toNat 0<=100:=by(have hi:a.toNat<w.co.length:=by omega);exact hw.co _ (by rw[Yb,Yd hi];exact Yv _)
def ZxP{w:Wh}(hw:WhOk w){pl cr a:Int}(hp:0<=pl/\pl<w.ro)(hc:0<=cr/\cr<=1000000)(ha:ZkE w a=true):Fq 68 [w.av,.agg [iv pl,iv cr],iv a] (.agg [iv (ZeX w pl cr a).1,iv (ZeX w pl cr a).2]):=by have hcl:=hw.cl;refine vE ZFH.h fun C hP hN hC hL=>?_;simp only[ZFH,Wh.av,Wh.avs];refine vR3 ?_;by_cases h1:a= -1;{subst h1;have hb:((-1:Int) != -1)=false:=rfl;simp only[go_sem,hb];refine vC ?_ ?_<;>intro h;{simp at h};{refine vW hb ?_;by_cases h2:0<cr;{have w1:=vw (n:=cr-1);refine vC ?_ ?_<;>intro h;{refine vW w1 ?_;(refine Zas ?_;simp only[Zaz,inQ,ZfE,Zcb,Zaq,ZbJ];simp only[go_sem,Zbu,AV.port,AV.portL,YU,ZeX,h2,YJ];(first|exact AVle.of rfl|refine AVle.of ?_|skip))};{simp at h;omega}};{refine vC ?_ ?_<;>intro h;{simp at h;omega};{refine vR ?_;(refine Zas ?_;simp only[Zaz,inQ,ZfE,Zcb,Zaq,ZbJ];simp only[go_sem,Zbu,AV.port,AV.portL,YU,ZeX,h2,YJ,YA];(first|exact AVle.of rfl|refine AVle.of ?_|skip))}}}};{(have hk:0<=a/\a<=w.co.length-1:=by simp only[ZkE,Yae,Zad,Yf,Yl,YaX]at ha;rcases ha with h|h;{exact absurd h h1};{exact h});(have hb:(a != -1)=true:=by simpa using h1);(have hi:a.toNat<w.co.length:=by omega);(have hi2:a<(w.co.length:Int):=by omega);have hgd:=Zau hi;have hco:=Zx7 hw hk;have hb1:=Zdk hw (p:=pl) (c:=w.co.getD a.toNat 0) Kc;(have e1:ZeX w pl cr a=((pl+w.co.getD a.toNat 0) % w.ro,cr+plays w pl (w.co.getD a.toNat 0)):=by unfold ZeX;rw[Yx h1]);have w1:=vw (n:=cr+plays w pl (w.co.getD a.toNat 0));rw[e1];generalize w.co.getD a.toNat 0=c at*;simp only[go_sem,hb];refine vC ?_ ?_<;>intro h;{(repeat(refine vV ?_;(try simp only[go_sem,hP,hgd,Zai,Yc,hi2,hk.1]);refine vQ ?_));(refine Zal (Zxu hw hp (by omega:0<=c/\c<=100000)) ?_;simp only[go_sem,hP,Wh.av,Wh.avs,Zai,w1];refine vQ ?_;(repeat(refine vV ?_;(try simp only[go_sem,hP,Wh.av,Wh.avs,Zai,w1]);refine vQ ?_)));(refine vT ?_;try exact trivial)};{simp at h}}
def ZqY(p:Int->Bool)(l:List Int):Int:=match l.findIdx? p with|some i=>i|none=> -1
def Zk6(p:Int->Bool)(l:List Int):decide (ZqY p l≥0)=l.any p:=by(unfold ZqY;cases h:l.findIdx? p with|none=>rw[YbV]at h;(have:l.any p=false:=by rw[YaU];intro x hx;simp[h x hx]);rw[this];rfl|some i=>obtain⟨hi,h1,_⟩:=Ybs.1 h;(have:l.any p=true:=by rw[Ybn];exact⟨_,Yv hi,h1⟩);rw[this];simp)
def Zbg{l:List Int}{k:Nat}(h:k<l.length):l.getD k 0=l[k]:=by rw[Yb,Yd h];rfl
def Zyr(l:List Int)(f:FuncId)(p:Int->Bool)(hf:∀n∈l,Fq f [iv n] (.c (.bool (p n)))):Fq 140 [.c (Zai l),.fn f []] (iv (ZqY p l)):=by refine vE Zvk.h fun C hP hN hC hL=>?_;(have hl:l.length<=9223372036854775807:=by simp only[AV.lensL,AV.lens]at hL;exact ZfV hL.1);simp only[Zvk];refine vR0 ?_;refine ZaE (fun k:Nat=>⟨upd (upd (upd (upd e0 0 (.c (Zai l))) 1 (.fn f [])) 7 (iv l.length)) 8 (iv k),o0⟩) (fun k=>k<=l.length/\∀i (h:i<l.length),i<k->p l[i]=false) (fun k=>l.length-k) 0 ⟨YC _,fun _ _ h=>Kc⟩ ?_ ?_;{(refine Zaf (by simp only[go_sem];exact vEi) (by simp only[go_sem];exact Zaa))};rintro k ⟨hk,hr⟩;refine vR ?_;refine vC ?_ ?_<;>intro h;{(have hi:k<l.length:=by simpa using h);have hw:=vw (n:=(k:Int)+1);have hgd:=Zau hi;rw[Zbg hi]at hgd;refine vW0 (vA hgd hi) ?_;(refine Zal (hf l[k] (Yv hi)) ?_;refine vS ?_);refine vC ?_ ?_<;>intro h;{(have e1:l.findIdx? p=some k:=by rw[Ybs];exact⟨hi,h,fun i hi2=>by simp[hr i Kc hi2]⟩);(have e3:ZqY p l=k:=by unfold ZqY;rw[e1]);rw[e3];(refine vU ?_;try exact trivial)};{refine vW hw ?_;refine⟨k+1,⟨Kc,fun i hi2 hik=>?_⟩,Kc,?_⟩;{rcases YaG i k with h1|h1;{exact hr i hi2 h1};{(have:i=k:=by omega);subst this;exact h}};{(refine Zaf (by simp only[go_sem];exact vEi) (by simp only[go_sem];exact Zaa))}}};{(have hi:k=l.length:=by simp at h;omega);subst hi;(have e3:ZqY p l= -1:=by unfold ZqY;rw[YbV.2 fun x hx=>by obtain⟨i,hi,rfl⟩:=Ybb hx;exact hr i hi hi]);rw[e3];(refine vU ?_;try exact trivial)}
def Zqc(l:List Int)(f:FuncId)(p:Int->Bool)(hf:∀n∈l,Fq f [iv n] (.c (.bool (p n)))):Fq 107 [.c (Zai l),.fn f []] (.c (.bool (l.any p))):=by refine vE Zvh.h fun C hP hN hC hL=>?_;simp only[Zvh];refine vR7 ?_;(refine Zal (Zyr l f p hf) ?_;simp only[go_sem,hP,Zk6];refine vQ ?_;(repeat(refine vV ?_;(try simp only[go_sem,hP,Zk6]);refine vQ ?_)));(refine Zas ?_;simp only[Zaz,inQ,ZfE,Zcb,Zaq,ZbJ];simp only[go_sem,Zbu,AV.port,AV.portL,YU,Zk6];(first|exact AVle.of rfl|refine AVle.of ?_|skip))
def ZBs:Cz [] 108:=ec
def ZFC:Cz [] 63:=ec
def ZnB(p:Int->Bool)(n:Int):Ent:=⟨[iv n],[],.c (.bool (p n))⟩
def ZD1(p:Int->Bool)(n:Int)(g:Gst)(rem:List Ent):Fl 108 [iv n,.bp 1000 0] [.box [.c (.raw g.fv)],.guest g (ZnB p n::rem)] [] (fun r l'=>r= .c (.bool (!p n))/\l'=[.box [.c (.raw g.fv)],.guest g rem]):=by refine vF ZBs.h fun C hP hN hC hL=>?_;simp only[ZBs,Zbj,ZaB,Yg,Ye,Nat.reduceAdd,];refine vR ?_;refine Zoi 1001 [] (g:=g) (e:=ZnB p n) (rem:=rem) rfl rfl rfl rfl Kb rfl trivial ?_;simp only[go_sem,hP,ZnB];refine vR ?_;(refine vL ?_;refine⟨_,[.box [.c (.raw g.fv)],.guest g rem],rfl,Zab rfl rfl ?_ ?_ rfl,?_⟩);{exact vK};{trivial};{exact⟨rfl,rfl⟩}
def Zvd(p:Int->Bool)(l:List Int)(g:Gst):Fl 140 [.c (Zai l),.fn 108 [.bp 1000 0]] [.box [.c (.raw g.fv)],.guest g (l.map (ZnB p))] [] (fun r l'=>r=iv (ZqY (fun n=> !p n) l)/\∃rem,l'=[.box [.c (.raw g.fv)],.guest g rem]):=by refine vF Zvk.h fun C hP hN hC hL=>?_;simp only[Zvk,Zbj,ZaB,Yg,Ye,Nat.reduceAdd,];(have hl:l.length<=9223372036854775807:=by simp only[AV.lensL,AV.lens]at hL;exact ZfV hL.1);refine vR0 ?_;refine Zam ZAo [1001] (fun k:Nat=>k<=l.length/\∀i (h:i<l.length),i<k->p l[i]=true) (fun k=>l.length-k) (fun k=>[(8,iv k)]) (fun k=>[(1001,.guest g ((l.drop k).map (ZnB p)))]) 0 ⟨YC _,fun _ _ h=>Kc⟩ ?_ ?_;{(refine Zaf (by simp only[go_sem];exact vEi) (by simp only[go_sem];exact Zaa))};rintro k ⟨hk,hr⟩;refine vR ?_;refine vC ?_ ?_<;>intro h;{(have hi:k<l.length:=by simpa using h);have hw:=vw (n:=(k:Int)+1);have hgd:=Zau hi;rw[Zbg hi]at hgd;(have hdr:(l.drop k).map (ZnB p)=ZnB p l[k]::(l.drop (k+1)).map (ZnB p):=by rw[Yan hi];rfl);rw[hdr];refine vW0 (vA hgd hi) ?_;refine Zah [1000,1001] (ZD1 p l[k] g _) rfl rfl rfl Kb rfl rfl ?_;rintro r l' ⟨rfl,rfl⟩;refine⟨_,_,rfl,rfl,?_⟩;simp only[go_sem,hP,Zae];refine vR ?_;refine vC ?_ ?_<;>intro h;{(have h:p l[k]=false:=by simpa using h);(have e1:l.findIdx? (fun n=> !p n)=some k:=by rw[Ybs];exact⟨hi,by simp[h],fun i hi2=>by simp[hr i Kc hi2]⟩);(have e3:ZqY (fun n=> !p n) l=k:=by unfold ZqY;rw[e1]);rw[e3];refine vR ?_;(refine vL ?_;refine⟨_,[.box [.c (.raw g.fv)],.guest g ((l.drop (k+1)).map (ZnB p))],rfl,Zab rfl rfl ?_ ?_ rfl,?_⟩);{exact vK};{trivial};{exact⟨rfl,_,rfl⟩}};{(have h:p l[k]=true:=by simpa using h);refine vW hw ?_;refine⟨k+1,⟨Kc,fun i hi2 hik=>?_⟩,Kc,?_⟩;{rcases YaG i k with h1|h1;{exact hr i hi2 h1};{(have:i=k:=by omega);subst this;exact h}};{(refine Zaf (by simp only[go_sem];exact vEi) (by simp only[go_sem];exact Zaa))}}};{(have hi:k=l.length:=by simp at h;omega);subst hi;(have e3:ZqY (fun n=> !p n) l= -1:=by unfold ZqY;rw[YbV.2 fun x hx=>by obtain⟨i,hi,rfl⟩:=Ybb hx;simp[hr i hi hi]]);rw[e3];refine vR ?_;(refine vL ?_;refine⟨_,[.box [.c (.raw g.fv)],.guest g ((l.drop l.length).map (ZnB p))],rfl,Zab rfl rfl ?_ ?_ rfl,?_⟩);{exact vK};{trivial};{exact⟨rfl,_,rfl⟩}}
def Zny(p:Int->Bool)(l:List Int)(g:Gst):Fl 107 [.c (Zai l),.fn 108 [.bp 1000 0]] [.box [.c (.raw g.fv)],.guest g (l.map (ZnB p))] [] (fun r l'=>r= .c (.bool (l.any fun n=> !p n))/\∃rem,l'=[.box [.c (.raw g.fv)],.guest g rem]):=by refine vF Zvh.h fun C hP hN hC hL=>?_;simp only[Zvh,Zbj,ZaB,Yg,Ye,Nat.reduceAdd,];refine vR7 ?_;refine Zah [1000,1001] (Zvd p l g) rfl rfl rfl Kb rfl rfl ?_;rintro r l' ⟨rfl,rem,rfl⟩;refine⟨_,_,rfl,rfl,?_⟩;simp only[go_sem,hP,Zae];refine vR ?_;(refine vL ?_;refine⟨_,[.box [.c (.raw g.fv)],.guest g rem],rfl,Zab rfl rfl ?_ ?_ rfl,?_⟩);{exact vK};{trivial};{exact⟨by rw[<-Zk6],_,rfl⟩}
def ZxR(p:Int->Bool)(l:List Int):(!l.any fun n=> !p n)=l.all p:=by(induction l with|nil=>rfl|cons n l ih=>simp only[List.any_cons,YaE,Bool.not_or,Bool.not_not,ih])
def Zrr(p:Int->Bool)(l:List Int):Bool:=decide ((l.length:Int)<=20)&&l.all p
def ZAH(p:Int->Bool)(l:List Int)(g:Gst):Fl 63 [.c (Zai l),.c (.raw g.fv)] [.guest g (l.map (ZnB p))] [] (fun r l'=>r= .c (.bool (Zrr p l))/\∃rem,l'=[.guest g rem]):=by refine vF ZFC.h fun C hP hN hC hL=>?_;simp only[ZFC,Zbj,ZaB,Yg,Ye,Nat.reduceAdd,];refine vR0 ?_;refine .inr (.inr ⟨fun hG=>?_,fun hG=>?_⟩);{refine Zah [3,1000] (Zny p l g) rfl (by simp[hG,go_sem]) rfl Kb rfl rfl ?_;rintro r l' ⟨rfl,rem,rfl⟩;refine⟨_,_,rfl,rfl,?_⟩;simp only[go_sem,hP,Zae,hG];refine vW hG ?_;(refine vL ?_;refine⟨_,[.guest g rem],rfl,Zab rfl rfl ?_ ?_ rfl,?_⟩);{exact vK};{trivial};{exact⟨by unfold Zrr;rw[hG,<-ZxR];rfl,_,rfl⟩}};{simp only[go_sem,hP,hG];refine vW hG ?_;(refine vL ?_;refine⟨_,[.guest g (l.map (ZnB p))],rfl,Zab rfl rfl ?_ ?_ rfl,?_⟩);{exact vK};{trivial};{exact⟨by unfold Zrr;rw[hG];rfl,_,rfl⟩}}
def ZFU:Cz [] 86:=ec
def Zi8(w:Wh)(pl cr:Int)(acts:List Int):Bool:=Zad pl 0 (w.ro-1)&&Zad cr 0 20&&Zrr (ZkE w) acts
def ZEx{w:Wh}(hw:WhOk w)(pl cr:Int)(acts:List Int):Fl 86 [w.av,.bp 1000 0,.bp 1001 0] [.box [iv pl,iv cr],.box [.c (Zai acts)]] [] (fun r l'=>r= .c (.bool (Zi8 w pl cr acts))/\l'=[.box [iv pl,iv cr],.box [.c (Zai acts)]]):=by refine vF ZFU.h fun C hP hN hC hL=>?_;simp only[ZFU,Zbj,ZaB,Yg,Ye,Nat.reduceAdd,];simp only[Wh.av,Wh.avs];refine vR3 ?_;(refine Zal (Zmn hw pl) ?_;refine vS6 ?_);by_cases h1:Zad pl 0 (w.ro-1)=true;{simp only[go_sem,h1];(refine ZaV (fun hG=>Zd4 cr 0 20) ?_;refine vX h1 ?_);by_cases h2:Zad cr 0 20=true;{simp only[go_sem,h1,h2];refine vW (vA h1 h2) ?_;refine ZmM (av:=w.av) (acts.map (ZnB (ZkE w))) rfl rfl rfl rfl rfl ?_ ?_;{intro e he;obtain⟨n,_,rfl⟩:=Ys.1 he;exact⟨rfl,rfl,ZyA hw n⟩};intro g;simp only[go_sem,hP];refine .inr (.inr ?_);refine Zah [17] (ZAH (ZkE w) acts g) rfl rfl rfl Kb rfl rfl ?_;rintro r l' ⟨rfl,rem,rfl⟩;refine⟨_,_,rfl,rfl,?_⟩;simp only[go_sem,hP,Zae];refine vR ?_;(refine vL ?_;refine⟨_,[.box [iv pl,iv cr],.box [.c (Zai acts)]],rfl,Zab rfl rfl ?_ ?_ rfl,?_⟩);{simp only[go_sem,Zag,Ob.keepP,AV.keepP,AV.keepPL,Zai]};{trivial};{exact⟨by unfold Zi8;rw[h1,h2];rfl,rfl⟩}};{(have h2:Zad cr 0 20=false:=by simpa using h2);simp only[go_sem,h2];refine vW h2 ?_;(refine Zay ?_;refine vS ?_);(refine vL ?_;refine⟨_,[.box [iv pl,iv cr],.box [.c (Zai acts)]],rfl,Zab rfl rfl ?_ ?_ rfl,?_⟩);{simp only[go_sem,Zag,Ob.keepP,AV.keepP,AV.keepPL,Zai]};{trivial};{exact⟨by unfold Zi8;rw[h1,h2];rfl,rfl⟩}}};{(have h1:Zad pl 0 (w.ro-1)=false:=by simpa using h1);simp only[go_sem,h1];(refine Zay ?_;refine vS ?_);(refine Zay ?_;refine vS ?_);(refine vL ?_;refine⟨_,[.box [iv pl,iv cr],.box [.c (Zai acts)]],rfl,Zab rfl rfl ?_ ?_ rfl,?_⟩);{simp only[go_sem,Zag,Ob.keepP,AV.keepP,AV.keepPL,Zai]};{trivial};{exact⟨by unfold Zi8;rw[h1];rfl,rfl⟩}}
def Zz4:Cz [] 60:=ec
def ZFm:Cz [] 40:=ec
abbrev ZDv:List Nat:=[4,6,9,22,23]
def Za1(w:Wh)(b:Bool):Int:=if whB w then(if b then 0 else 1)else 10
def whZ:AV:=.agg [.c (.int .i64 0),.c (.raw (.slice none 0 0)),.c (.raw (.slice none 0 0))]
def ZCt(w:Wh)(pl cr:Int)(acts:List Int):Fl 60 [w.av,.fn 86 [.bp 1000 0,.bp 1001 0]] [.box [iv pl,iv cr],.box [.c (Zai acts)]] [] (fun r l'=>r= .tup [if Za1 w (Zi8 w pl cr acts)=0 then w.av else whZ,iv (Za1 w (Zi8 w pl cr acts))]/\l'=[.box [iv pl,iv cr],.box [.c (Zai acts)]]):=by refine vF Zz4.h fun C hP hN hC hL=>?_;simp only[Zz4,Zbj,ZaB,Yg,Ye,Nat.reduceAdd,];simp only[Wh.av,Wh.avs];refine vR3 ?_;(refine Zal (ZkJ w) ?_;refine vS6 ?_);by_cases h1:whB w=true;{(have e0:whE w=0:=by unfold whE;rw[Yt h1]);rw[e0];refine vC ?_ ?_<;>intro h;{simp at h};{refine vR ?_;refine Zah [1000,1001] (ZEx (ZdL h1) pl cr acts) rfl rfl rfl Kb rfl rfl ?_;rintro r l' ⟨rfl,rfl⟩;refine⟨_,_,rfl,rfl,?_⟩;simp only[go_sem,hP,Zae];refine vR ?_;by_cases h2:Zi8 w pl cr acts=true;{(have e1:Za1 w (Zi8 w pl cr acts)=0:=by unfold Za1;rw[Yt h1,Yt h2]);rw[e1];refine vC ?_ ?_<;>intro h;{rw[h2]at h;simp at h};{refine vR ?_;(refine vL ?_;refine⟨_,[.box [iv pl,iv cr],.box [.c (Zai acts)]],rfl,Zab rfl rfl ?_ ?_ rfl,?_⟩);{simp only[go_sem,Zag,Ob.keepP,AV.keepP,AV.keepPL,Zai]};{trivial};{exact⟨rfl,rfl⟩}}};{(have h2:Zi8 w pl cr acts=false:=by simpa using h2);(have e1:Za1 w (Zi8 w pl cr acts)=1:=by unfold Za1;rw[Yt h1,h2];rfl);rw[e1];refine vC ?_ ?_<;>intro h;{refine vR ?_;(refine vL ?_;refine⟨_,[.box [iv pl,iv cr],.box [.c (Zai acts)]],rfl,Zab rfl rfl ?_ ?_ rfl,?_⟩);{simp only[go_sem,Zag,Ob.keepP,AV.keepP,AV.keepPL,Zai]};{trivial};{exact⟨rfl,rfl⟩}};{rw[h2]at h;simp at h}}}};{(have h1:whB w=false:=by simpa using h1);(have e0:whE w=10:=by unfold whE;rw[h1];rfl);(have e1:∀b,Za1 w b=10:=fun b=>by unfold Za1;rw[h1];rfl);rw[e0,e1];refine vC ?_ ?_<;>intro h;{refine vR ?_;(refine vL ?_;refine⟨_,[.box [iv pl,iv cr],.box [.c (Zai acts)]],rfl,Zab rfl rfl ?_ ?_ rfl,?_⟩);{simp only[go_sem,Zag,Ob.keepP,AV.keepP,AV.keepPL,Zai]};{trivial};{exact⟨rfl,rfl⟩}};{simp at h}}
def Zfw(w:Wh)(s:Int×Int×Int)(a:Int):Int×Int×Int:=((ZeX w s.1 s.2.1 a).1,(ZeX w s.1 s.2.1 a).2,s.2.2+if a= -1/\0<s.2.1 then 1 else 0)
def Zki(w:Wh)(pl cr:Int)(acts:List Int):Int×Int×Int:=acts.foldl (Zfw w) (pl,cr,0)
def Zrn{w:Wh}(hw:WhOk w){pl cr a:Int}(hp:0<=pl/\pl<w.ro)(hc:0<=cr)(ha:ZkE w a=true):(0<=(ZeX w pl cr a).1/\(ZeX w pl cr a).1<w.ro)/\0<=(ZeX w pl cr a).2/\(ZeX w pl cr a).2<=cr+112:=by have hro:=hw.ro;unfold ZeX;by_cases h1:a= -1;{rw[Yt h1];split;{exact⟨⟨Kd,by simp;omega⟩,by simp;omega,by simp;omega⟩};{exact⟨hp,hc,by simp;omega⟩}};{rw[Yx h1];(have hk:0<=a/\a<=w.co.length-1:=by simp only[ZkE,Yae,Zad,Yf,Yl,YaX]at ha;rcases ha with h|h;{exact absurd h h1};{exact h});have hco:=Zx7 hw hk;have hb:=Zdk hw (p:=pl) (c:=w.co.getD a.toNat 0) Kc;refine⟨⟨Yb9 _ Kc,Yb8 _ Kc⟩,?_,?_⟩<;>simp only<;>omega}
def ZtN{w:Wh}(hw:WhOk w){pl cr:Int}(hp:0<=pl/\pl<w.ro)(hc:0<=cr):∀(acts:List Int)(s:Int×Int×Int),(0<=s.1/\s.1<w.ro)->0<=s.2.1->0<=s.2.2->acts.all (ZkE w)=true->
  (0<=(acts.foldl (Zfw w) s).1/\(acts.foldl (Zfw w) s).1<w.ro)/\(0<=(acts.foldl (Zfw w) s).2.1/\(acts.foldl (Zfw w) s).2.1<=s.2.1+112*acts.length)/\(0<=(acts.foldl (Zfw w) s).2.2/\(acts.foldl (Zfw w) s).2.2<=s.2.2+acts.length)
 |[],s,h1,h2,h3,_=>by simp only[Ycr,YI];omega
 |a::acts,s,h1,h2,h3,h4=>by simp only[YaE,Yf]at h4;have h5:=Zrn hw h1 h2 h4.1;have h6:=ZtN hw hp hc acts (Zfw w s a) h5.1 h5.2.1 (by simp only[Zfw];split<;>omega) h4.2;simp only[Yav,Yo];simp only[Zfw]at h6|-;refine⟨h6.1,⟨h6.2.1.1,Kc⟩,h6.2.2.1,?_⟩;have:=h6.2.2.2;split at this<;>(rename_i hc;simp only[hc,YJ,YA]at*;omega)
def ZtO{w:Wh}{pl cr:Int}{acts:List Int}{k:Nat}(h:k<acts.length):Zki w pl cr (acts.take (k+1))=Zfw w (Zki w pl cr (acts.take k)) acts[k]:=by unfold Zki;rw[Yq h,YaO];rfl
def Ze8(w:Wh)(pl cr:Int)(acts:List Int):(Int×Int×Int)×Int:=if Za1 w (Zi8 w pl cr acts)=0 then(Zki w pl cr acts,0)else((0,0,0),Za1 w (Zi8 w pl cr acts))
def Zwk(w:Wh)(pl cr:Int)(acts:List Int):Fq 40 [w.av,.agg [iv pl,iv cr],.c (Zai acts)] (.tup [.agg [iv (Ze8 w pl cr acts).1.1,iv (Ze8 w pl cr acts).1.2.1],iv (Ze8 w pl cr acts).1.2.2,iv (Ze8 w pl cr acts).2]):=by refine vE ZFm.h fun C hP hN hC hL=>?_;simp only[ZFm,Wh.av,Wh.avs];refine vR3 ?_;refine Zah [4,5] (ZCt w pl cr acts) rfl rfl rfl Kb rfl rfl ?_;rintro r l' ⟨rfl,rfl⟩;by_cases h1:Za1 w (Zi8 w pl cr acts)=0;{(have e1:Ze8 w pl cr acts=(Zki w pl cr acts,0):=by unfold Ze8;rw[Yt h1]);rw[e1,Yt h1,h1];(have hb:whB w=true/\Zi8 w pl cr acts=true:=by unfold Za1 at h1;split at h1;{split at h1;{rename_i a b;exact⟨a,b⟩};{cases h1}};{cases h1});have hw:=ZdL hb.1;have hro:=hw.ro;have hb2:=hb.2;simp only[Zi8,Zrr,Zad,Yf,Yl]at hb2;refine⟨_,_,rfl,rfl,?_⟩;simp only[go_sem,hP,Zae];refine vR ?_;refine vC ?_ ?_<;>intro h;{simp at h};{refine vR4 ?_;refine Zam ZDv [4] (fun k:Nat=>k<=acts.length) (fun k=>acts.length-k) (fun k=>[(24,iv k),(7,iv (Zki w pl cr (acts.take k)).2.2)]) (fun k=>[(4,.box [iv (Zki w pl cr (acts.take k)).1,iv (Zki w pl cr (acts.take k)).2.1])]) 0 (YC _) ?_ ?_;{(refine Zaf (by simp only[go_sem];(refine vEz ?_;first|trivial|exact AWk.of (by simp[Zki]))) (by simp only[go_sem];exact Zaa))};{intro k hk;refine vR ?_;refine vC ?_ ?_<;>intro h;{(have hi:k<acts.length:=by simpa using h);have hgd:=Zau hi;rw[Zbg hi]at hgd;have hall:ZkE w acts[k]=true:=Yn.1 hb2.2.2 _ (Yv hi);have hok:=ZtN hw (pl:=pl) (cr:=cr) Kc Kc (acts.take k) (pl,cr,0) (by simp only;omega) (by simp only;omega) Kd (Yn.2 fun x hx=>Yn.1 hb2.2.2 x (List.mem_of_mem_take hx));rw[show(acts.take k).foldl (Zfw w) (pl,cr,0)=Zki w pl cr (acts.take k)from rfl]at hok;have hsu:=ZtO (w:=w) (pl:=pl) (cr:=cr) hi;(have hlen:((acts.take k).length:Int)=k:=by rw[Y4];omega);rw[hlen]at hok;generalize Zki w pl cr (acts.take k)=s at hok hsu;obtain⟨s1,s2,s3⟩:=s;simp only at hok;(have hk20:(k:Int)<20:=by omega);have w1:=vw (n:=(k:Int)+1);have w2:=vw (n:=s3+1);have hact:=ZxP hw (pl:=s1) (cr:=s2) (a:=acts[k]) hok.1 Kc hall;generalize acts[k]=x at*;refine vW0 (vA hgd hi) ?_;by_cases hm:x= -1/\0<s2;{(have e2:Zki w pl cr (acts.take (k+1))=((ZeX w s1 s2 x).1,(ZeX w s1 s2 x).2,s3+1):=by rw[hsu];simp only[Zfw,hm,and_self,YJ]);refine vC ?_ ?_<;>intro h;{refine vW w2 ?_;(refine Zal (hact) ?_;refine vS6 ?_);refine vW w1 ?_;refine⟨k+1,Kc,Kc,?_⟩;rw[e2];exact Zak};{exfalso;simp only[hm.1]at h;simp at h;omega}};{(have e2:Zki w pl cr (acts.take (k+1))=((ZeX w s1 s2 x).1,(ZeX w s1 s2 x).2,s3):=by rw[hsu];simp only[Zfw,hm,YA,YcK]);refine vC ?_ ?_<;>intro h;{exfalso;apply hm;simp at h;exact h};{refine vR ?_;(refine Zal (hact) ?_;refine vS6 ?_);refine vW w1 ?_;refine⟨k+1,Kc,Kc,?_⟩;rw[e2];exact Zak}}};{(have hi:k=acts.length:=by simp at h;omega);subst hi;rw[YL];(refine vU ?_;try exact trivial)}}}};{(have e1:Ze8 w pl cr acts=((0,0,0),Za1 w (Zi8 w pl cr acts)):=by unfold Ze8;rw[Yx h1]);rw[e1,Yx h1];generalize Za1 w (Zi8 w pl cr acts)=e at*;refine⟨_,_,rfl,rfl,?_⟩;simp only[go_sem,hP,Zae,whZ];refine vR ?_;refine vC ?_ ?_<;>intro h;{exact vUt};{simp at h;exact absurd h h1}}
def ZBO:Cz [] 146:=ec
def ZBP:Cz [] 147:=ec
def ZBx:Cz [] 115:=ec
abbrev ZAj:List Nat:=[1,47,48]
structure Bx where
 wh:Wh
 fo:List Int
 ma:List Int
 sl:List Int
 pl:Int
 sk:Int
def Bx.cds(b:Bx):List CD:=[.int .i64 b.wh.ro,Zai b.wh.no,Zai b.wh.co,Zai b.fo,Zai b.ma,Zai b.sl,.int .i64 b.pl,.int .i64 b.sk]
def Bx.avs(b:Bx):List AV:=[.c (.int .i64 b.wh.ro),.c (Zai b.wh.no),.c (Zai b.wh.co),.c (Zai b.fo),.c (Zai b.ma),.c (Zai b.sl),.c (.int .i64 b.pl),.c (.int .i64 b.sk)]
def Bx.av(b:Bx):AV:=.agg b.avs
def ZhE(a b c:Int):Fq 146 [iv a,iv b,iv c] (.c (.bool (Zad a b c))):=by refine vE ZBO.h fun C hP hN hC hL=>?_;simp only[ZBO];(refine vU ?_;try exact trivial)
def Zhi(n:Int):Bool:=!Zad n 0 12
def ZCu(n:Int):Fq 147 [iv n] (.c (.bool (Zhi n))):=by refine vE ZBP.h fun C hP hN hC hL=>?_;simp only[ZBP];refine vR ?_;(refine Zal (ZhE n 0 12) ?_;refine vS ?_);(refine vT ?_;try exact trivial)
def Zgq(w:Wh)(l:List Int):Bool:=!(!(l.length==w.co.length)||l.any Zhi)
def mkK(fo ma:List Int):Nat->Bool
 |0=>true
 |k+1=>mkK fo ma k&&decide (ma.getD k 0<=fo.getD k 0)
def sumK(a b:List Int):Nat->Int
 |0=>0
 |k+1=>sumK a b k+(a.getD k 0+b.getD k 0)
def bxB(b:Bx):Bool:=whB b.wh&&Zad b.pl 0 9999&&Zad b.sk 0 9&&Zgq b.wh b.fo&&Zgq b.wh b.ma&&Zgq b.wh b.sl&&mkK b.fo b.ma b.fo.length&&decide (sumK b.fo b.sl b.fo.length<=12)
def bxE(b:Bx):Int:=if bxB b then 0 else 50
def Zmv{fo ma:List Int}:∀{k m:Nat},mkK fo ma k=false->k<=m->mkK fo ma m=false
 |k,0,h,hm=>by rwa [show k=0 by omega]at h
 |k,m+1,h,hm=>by rcases YaG m k with h1|h1;{rwa [show k=m+1 by omega]at h};{unfold mkK;rw[Zmv h h1];rfl}
def ZaI{w:Wh}{l:List Int}(h:Zgq w l=true):l.length=w.co.length/\∀n∈l,0<=n/\n<=12:=by simp only[Zgq,Bool.not_or,Bool.not_not,Yf,YaX,YaB,YaU,Zhi,Zad,Yl]at h;exact⟨h.1,fun n hn=>by have:=h.2 n hn;simpa using this⟩
def ZaY{l:List Int}{k:Nat}{P:Int->Prop}(h:∀n∈l,P n)(hk:k<l.length):P (l.getD k 0):=by rw[Zbg hk];exact h _ (Yv hk)
def Zt7{a b:List Int}(ha:∀n∈a,0<=n/\n<=12)(hb:∀n∈b,0<=n/\n<=12):∀k:Nat,k<=a.length->k<=b.length->0<=sumK a b k/\sumK a b k<=24*k
 |0,_,_=>by simp[sumK]
 |k+1,h1,h2=>by have ih:=Zt7 ha hb k Kc Kc;have e1:=ZaY ha (k:=k) Kc;have e2:=ZaY hb (k:=k) Kc;simp only[sumK];omega
def ZrS(b:Bx):Fq 115 [b.av] (iv (bxE b)):=by
 refine vE ZBx.h fun C hP hN hC hL=>?_;simp only[ZBx,Bx.av,Bx.avs];(repeat(refine vV ?_;(try simp only[go_sem,hP,Bx.avs,Zai]);refine vQ ?_));(refine Zal (ZkJ b.wh) ?_;refine vS6 ?_);have hE:∀{c:Bool},bxB b=c->bxE b=if c then 0 else 50:=fun h=>by unfold bxE;rw[h]
 by_cases h1:whB b.wh=true;case neg=>
  have h1:whB b.wh=false:=by simpa using h1
  have e0:whE b.wh=10:=by unfold whE;rw[h1];rfl
  have e1:bxE b=50:=hE (c:=false) (by unfold bxB;rw[h1];rfl);rw[e0,e1];(refine Zay ?_;refine vS ?_);(refine Zay ?_;refine vS ?_)
  refine vC ?_ ?_<;>intro h
  ·exact vUt
  ·simp at h
 have e0:whE b.wh=0:=by unfold whE;rw[Yt h1]
 rw[e0];have hb0:((0:Int) !=0)=false:=rfl;have hw:=ZdL h1;have hcl:=hw.cl;simp only[go_sem,hb0];(refine ZaV (fun hG=>ZhE b.pl 0 9999) ?_;refine vX hb0 ?_);by_cases h2:Zad b.pl 0 9999=true;case neg=>
  have h2:Zad b.pl 0 9999=false:=by simpa using h2
  have e1:bxE b=50:=hE (c:=false) (by unfold bxB;rw[h1,h2];rfl);rw[e1];simp only[go_sem,h2,hb0];(refine Zay ?_;refine vS ?_);refine vC ?_ ?_<;>intro h
  ·exact vUt
  ·simp at h
 simp only[go_sem,h2,hb0];(refine ZaV (fun hG=>ZhE b.sk 0 9) ?_;refine vX (vA h2 hb0) ?_);by_cases h3:Zad b.sk 0 9=true;case neg=>
  have h3:Zad b.sk 0 9=false:=by simpa using h3
  have e1:bxE b=50:=hE (c:=false) (by unfold bxB;rw[h1,h2,h3];rfl);rw[e1];refine vC ?_ ?_<;>intro h
  ·exact vUt
  ·rw[h3]at h;simp at h
 refine vC ?_ ?_<;>intro h;{rw[h3]at h;simp at h};clear h;refine vR ?_;refine Zf6 (e:=22) (n:=3) (sz:=1) (z:=List.replicate 3 (.c (.raw (.slice none 0 0)))) (ps:=[(0,1,.t 25),(1,1,.t 27),(2,1,.t 29)]) (r:=[b.fo,b.ma,b.sl].map fun l=> .c (Zai l)) Ka Ka Ka rfl ?_ rfl ?_ ?_;{intro i q hq;(have:i=0\/i=1\/i=2\/3<=i:=by omega);rcases this with rfl|rfl|rfl|h;(case inr.inr.inr=>rw[YW (by exact h)]at hq;cases hq);all_goals(cases hq;exact⟨_,rfl,rfl⟩)};{simp only[go_sem]};simp only[go_sem,hP];refine vR ?_;(have hin:∀l∈[b.fo,b.ma,b.sl],Zgq b.wh l=false->bxB b=false:=fun l hl h=>by unfold bxB;simp only[YF,Yag,Ybt]at hl;rcases hl with rfl|rfl|rfl<;>rw[h]<;>simp);refine Zam [1,3,30] [] (fun k:Nat=>k<=3/\([b.fo,b.ma,b.sl].take k).all (Zgq b.wh)=true) (fun k=>3-k) (fun k=>[(31,iv k)]) (fun _=>[]) 0 ⟨Kc,rfl⟩ ?_ ?_;{exact Zak};{rintro k ⟨hk,hr⟩;refine vR ?_;refine vC ?_ ?_<;>intro h;{(have hi:k<3:=by simp at h;omega);have hi2:k<[b.fo,b.ma,b.sl].length:=hi;obtain⟨l,hl⟩:∃l,[b.fo,b.ma,b.sl][k]? =some l:=⟨_,Yd hi2⟩;(have hc:[AV.c (Zai b.fo),.c (Zai b.ma),.c (Zai b.sl)][((k:Int)).toNat]? =some (.c (Zai l)):=by have:=congrArg (Option.map fun l=>AV.c (Zai l)) hl;rwa [<-Y0]at this);have hlm:=Yu hl;(have hts:([b.fo,b.ma,b.sl].take (k+1)).all (Zgq b.wh)=Zgq b.wh l:=by rw[List.take_add_one,hl,YcJ,hr];simp);have w1:=vw (n:=(k:Int)+1);(refine Zbq ?_;simp only[go_sem]);refine Zat (Zbe (Zat ?_));(refine ZcF ?_;refine vN ?_);refine ZbS (e:=22) (n:=3) (x':=.t 30) (i':=.t 31) (k:=.i64) (j:=k) Ka Ka Ka rfl rfl rfl rfl rfl rfl Kc hc ?_;have hne:((l.length:Int) !=(b.wh.co.length:Int))= !(l.length==b.wh.co.length):=ZDN _ _;simp only[go_sem,hP];(repeat(refine vV ?_;(try simp only[go_sem,hP,Zai,Yc,hne]);refine vQ ?_));by_cases hl2:l.length=b.wh.co.length;{(have hb2:(l.length==b.wh.co.length)=true:=by simpa using hl2);simp only[go_sem,hb2];(refine ZaV (fun hG=>Zqc l 147 Zhi (fun n _=>ZCu n)) ?_;simp only[go_sem,hP,Zai,hb2];refine vQ ?_;(repeat(refine vV ?_;(try simp only[go_sem,hP,Zai,hb2]);refine vQ ?_)));by_cases h5:l.any Zhi=true;{(have e1:Zgq b.wh l=false:=by unfold Zgq;rw[hb2,h5];rfl);have e2:bxE b=50:=hE (c:=false) (hin l hlm e1);rw[e2];refine vC ?_ ?_<;>intro h;{exact vUt};{rw[h5]at h;simp at h}};{(have h5:l.any Zhi=false:=by simpa using h5);(have e1:Zgq b.wh l=true:=by unfold Zgq;rw[hb2,h5];rfl);refine vC ?_ ?_<;>intro h;{rw[h5]at h;simp at h};{refine vW w1 ?_;refine⟨k+1,⟨Kc,by rw[hts,e1]⟩,Kc,?_⟩;(refine Zaf (by simp only[go_sem];exact vEi) (by simp only[go_sem];exact Zaa))}}};{(have hb2:(l.length==b.wh.co.length)=false:=by simpa using hl2);(have e1:Zgq b.wh l=false:=by unfold Zgq;rw[hb2];rfl);have e2:bxE b=50:=hE (c:=false) (hin l hlm e1);rw[e2];simp only[go_sem,hb2];(refine Zay ?_;refine vS ?_);refine vC ?_ ?_<;>intro h;{exact vUt};{simp at h}}};{(have hi:k=3:=by simp at h;omega);subst hi;simp only[Y8,Yaz,YaE,Ybr,Yam,Yf]at hr;obtain⟨g1,g2,g3⟩:=hr;have k1:=ZaI g1;have k2:=ZaI g2;have k3:=ZaI g3;(have hbx:bxB b=(mkK b.fo b.ma b.fo.length&&decide (sumK b.fo b.sl b.fo.length<=12)):=by unfold bxB;rw[h1,h2,h3,g1,g2,g3];rfl);refine vR0 ?_;refine Zam ZAj [] (fun k:Nat=>k<=b.fo.length/\mkK b.fo b.ma k=true) (fun k=>b.fo.length-k) (fun k=>[(49,iv k),(3,iv (sumK b.fo b.sl k))]) (fun _=>[]) 0 ⟨Kc,rfl⟩ ?_ ?_;{(refine Zaf (by simp only[go_sem];(refine vEz ?_;first|trivial|exact AWk.of (by simp[sumK]))) (by simp only[go_sem];exact Zaa))};{rintro k ⟨hk,hr⟩;refine vR ?_;refine vC ?_ ?_<;>intro h;{(have hi:k<b.fo.length:=by simpa using h);(have hi2:k<b.ma.length:=by omega);(have hi3:k<b.sl.length:=by omega);have gf:=Zau hi;have gm:=Zau hi2;have gs:=Zau hi3;have hs:=Zt7 k1.2 k3.2 k Kc Kc;have rf:=ZaY k1.2 hi;have rm:=ZaY k2.2 hi2;have rs:=ZaY k3.2 hi3;(have hms:mkK b.fo b.ma (k+1)=decide (b.ma.getD k 0<=b.fo.getD k 0):=by(conv=>lhs;unfold mkK);rw[hr];rfl);have hss:sumK b.fo b.sl (k+1)=sumK b.fo b.sl k+(b.fo.getD k 0+b.sl.getD k 0):=rfl;have w1:=vw (n:=(k:Int)+1);have w2:=vw (n:=b.fo.getD k 0+b.sl.getD k 0);have w3:=vw (n:=sumK b.fo b.sl k+(b.fo.getD k 0+b.sl.getD k 0));(have hfail:mkK b.fo b.ma (k+1)=false->bxB b=false:=fun h=>by rw[hbx,Zmv h hi];rfl);generalize b.fo.getD k 0=x at*;generalize b.ma.getD k 0=y at*;generalize b.sl.getD k 0=z at*;refine vW0 (vA gf (vA gm (vA gs (vA hi (vA hi2 hi3))))) ?_;by_cases hxy:y<=x;{refine vC ?_ ?_<;>intro h;{simp at h;omega};{refine vW0 (vA gf (vA gm (vA gs (vA hi (vA hi2 (vA hi3 (vA w1 (vA w2 w3)))))))) ?_;refine⟨k+1,⟨Kc,by rw[hms];simpa using hxy⟩,Kc,?_⟩;rw[hss];(refine Zaf (by simp only[go_sem];exact vEi) (by simp only[go_sem];exact Zaa))}};{have e2:bxE b=50:=hE (c:=false) (hfail (by rw[hms];simpa using hxy));rw[e2];refine vC ?_ ?_<;>intro h;{exact vUt};{simp at h;omega}}};{(have hi:k=b.fo.length:=by simp at h;omega);subst hi;rw[hr]at hbx;refine vR ?_;by_cases hs:sumK b.fo b.sl b.fo.length<=12;{have e2:bxE b=0:=hE (c:=true) (by rw[hbx];simpa using hs);rw[e2];refine vC ?_ ?_<;>intro h;{simp at h;omega};{exact vUt}};{have e2:bxE b=50:=hE (c:=false) (by rw[hbx];simpa using hs);rw[e2];refine vC ?_ ?_<;>intro h;{exact vUt};{simp at h;omega}}}}}}
def ZFM:Cz [] 77:=ec
def ZFN:Cz [] 78:=ec
abbrev ZDB:List Nat:=[0,8,9]
def ZBA:Cz [] 120:=ec
abbrev ZAm:List Nat:=[0,2,3,10,11]
structure BxOk(b:Bx):Prop where
 wh:WhOk b.wh
 pl:0<=b.pl/\b.pl<=9999
 sk:0<=b.sk/\b.sk<=9
 fl:b.fo.length=b.wh.co.length
 fo:∀n∈b.fo,0<=n/\n<=12
 ml:b.ma.length=b.wh.co.length
 ma:∀n∈b.ma,0<=n/\n<=12
 sl:b.sl.length=b.wh.co.length
 sn:∀n∈b.sl,0<=n/\n<=12
 mm:mkK b.fo b.ma b.fo.length=true
 sum:sumK b.fo b.sl b.fo.length<=12
def Zbc{b:Bx}(h:bxB b=true):BxOk b:=by simp only[bxB,Yf,Yl,Zad]at h;obtain⟨⟨⟨⟨⟨⟨⟨h1,h2⟩,h3⟩,h4⟩,h5⟩,h6⟩,h7⟩,h8⟩:=h;have k1:=ZaI h4;have k2:=ZaI h5;have k3:=ZaI h6;exact⟨ZdL h1,h2,h3,k1.1,k1.2,k2.1,k2.2,k3.1,k3.2,h7,h8⟩
def ZuF(b:Bx):AV:=if bxB b then .c (.pt b.cds)else .c (.raw (.pointer none))
def Zmz(b:Bx):Fq 77 [b.av] (.tup [ZuF b,iv (bxE b)]):=by refine vE ZFM.h fun C hP hN hC hL=>?_;simp only[ZFM,Bx.av,Bx.avs];(repeat(refine vV ?_;(try simp only[go_sem,hP,Bx.avs,Zai]);refine vQ ?_));(refine Zal (ZrS b) ?_;simp only[go_sem,hP,Bx.av,Bx.avs,Zai];refine vQ ?_;(repeat(refine vV ?_;(try simp only[go_sem,hP,Bx.av,Bx.avs,Zai]);refine vQ ?_)));by_cases h1:bxB b=true;{(have e0:bxE b=0:=by unfold bxE;rw[Yt h1]);(have e1:ZuF b= .c (.pt b.cds):=by unfold ZuF;rw[Yt h1]);rw[e0,e1];refine vC ?_ ?_<;>intro h;{simp at h};{refine vR ?_;refine Zeg 12 (ds:=b.cds) rfl rfl ?_;simp only[go_sem];exact vTt}};{(have h1:bxB b=false:=by simpa using h1);(have e0:bxE b=50:=by unfold bxE;rw[h1];rfl);(have e1:ZuF b= .c (.raw (.pointer none)):=by unfold ZuF;rw[h1];rfl);rw[e0,e1];refine vC ?_ ?_<;>intro h;{exact vUt};{simp at h}}
def Zcf(w:Wh)(l:List Int):Nat->Int
 |0=>0
 |k+1=>Zcf w l k+l.getD k 0*w.co.getD k 0
def ZaD(w:Wh)(l:List Int):Int:=Zcf w l l.length
def Zje{w:Wh}(hw:WhOk w){l:List Int}(hl:l.length<=w.co.length)(hn:∀n∈l,0<=n/\n<=14):∀k:Nat,k<=l.length->0<=Zcf w l k/\Zcf w l k<=1400*k
 |0,_=>by simp[Zcf]
 |k+1,h=>by have ih:=Zje hw hl hn k Kc;have e1:=ZaY hn (k:=k) Kc;have e2:=ZaY hw.co (k:=k) Kc;simp only[Zcf];have h1:0<=l.getD k 0*w.co.getD k 0:=Int.mul_nonneg Kc Kc;have h2:l.getD k 0*w.co.getD k 0<=14*100:=YcY e1.2 e2.2 Kc Kc;omega
def Zd5{w:Wh}(hw:WhOk w){l:List Int}(hl:l.length<=w.co.length)(hn:∀n∈l,0<=n/\n<=14):0<=ZaD w l/\ZaD w l<=5600:=by have:=Zje hw hl hn l.length (Yi _);have:=hw.cl;unfold ZaD;omega
def ZgP{b:Bx}(hw:WhOk b.wh){l:List Int}(hl:l.length<=b.wh.co.length)(hn:∀n∈l,0<=n/\n<=14):Fq 78 [.c (.pt b.cds),.c (Zai l)] (iv (ZaD b.wh l)):=by have hcl:=hw.cl;refine vE ZFN.h fun C hP hN hC hL=>?_;simp only[ZFN];refine vR0 ?_;(refine Zam ZDB [] (fun k:Nat=>k<=l.length) (fun k=>l.length-k) (fun k=>[(10,iv k),(5,iv (Zcf b.wh l k))]) (fun _=>[]) 0 (YC _) ?_ ?_);{(refine Zaf (by simp only[go_sem];(refine vEz ?_;first|trivial|exact AWk.of (by simp[Zcf]))) (by simp only[go_sem];exact Zaa))};{intro k hk;refine vR ?_;refine vC ?_ ?_<;>intro h;{(have hi:k<l.length:=by simpa using h);(have hi2:k<b.wh.co.length:=by omega);have g1:=Zau hi;have g2:=Zau hi2;have e1:=ZaY hn hi;have e2:=ZaY hw.co hi2;have hb:=Zje hw hl hn k Kc;have hs:Zcf b.wh l (k+1)=Zcf b.wh l k+l.getD k 0*b.wh.co.getD k 0:=rfl;generalize l.getD k 0=x at*;generalize b.wh.co.getD k 0=y at*;have h1:0<=x*y:=Int.mul_nonneg Kc Kc;have h2:x*y<=14*100:=YcY e1.2 e2.2 Kc Kc;have w1:=vw (n:=(k:Int)+1);have w2:=vw (n:=x*y);have w3:=vw (n:=Zcf b.wh l k+x*y);(repeat(refine vV ?_;(try simp only[go_sem,hP,g1,g2,Zai,Bx.cds,Yc,Yr,Ybz,hi,hi2,YB,w1,w2,w3]);refine vQ ?_));refine⟨k+1,Kc,Kc,?_⟩;rw[hs];(refine Zaf (by simp only[go_sem];exact vEi) (by simp only[go_sem];exact Zaa))};{(have hi:k=l.length:=by simp at h;omega);subst hi;refine vR ?_;(refine Zas ?_;simp only[Zaz,inQ,ZfE,Zcb,Zaq,ZbJ];simp only[go_sem,Zbu,AV.port,AV.portL,YU,ZaD];(first|exact AVle.of rfl|refine AVle.of ?_|skip))}}
def ZxZ{b:Bx}(h:bxB b=false):ZuF b= .c (.raw (.pointer none)):=by unfold ZuF;rw[h];rfl
def ZhX{b:Bx}(h:bxB b=true):ZuF b= .c (.pt b.cds):=by unfold ZuF;rw[Yt h]
def Zw3{b:Bx}(h:bxB b=false):bxE b=50:=by unfold bxE;rw[h];rfl
def ZlQ{b:Bx}(h:bxB b=true):bxE b=0:=by unfold bxE;rw[Yt h]
def Zgs(l:List Int):List Int:=[l.getD 0 0,l.getD 1 0,l.getD 2 0,l.getD 3 0]
def ZaW(a:List Int):List AV:=a.map fun n=> .c (.int .i64 n)
def Zgm(a b:List Int):List Int:=List.zipWith (·+ ·) a b
def ZbN(b:Bx):List Int:=Zgm b.fo b.sl
def ZuE{n:Int}:∀{p:List Int},p.length<4->(ZaW (Zgs p)).set p.length (.c (.int .i64 n))=ZaW (Zgs (p++[n]))
 |[],_=>rfl
 |[a],_=>rfl
 |[a,b],_=>rfl
 |[a,b,c],_=>rfl
 |a::b::c::d::p,h=>by simp at h;omega
def ZCB{b:Bx}(hb:BxOk b):Fq 120 [.c (.pt b.cds)] (.agg (ZaW (Zgs (ZbN b)))):=by have hcl:=hb.wh.cl;have hfl:=hb.fl;have hsl:=hb.sl;refine vE ZBA.h fun C hP hN hC hL=>?_;simp only[ZBA];(repeat(refine vV ?_;(try simp only[go_sem,hP,Bx.cds,Zai,Yc]);refine vQ ?_));refine Zam ZAm [3] (fun k:Nat=>k<=b.fo.length) (fun k=>b.fo.length-k) (fun k=>[(12,iv k)]) (fun k=>[(3,.box (ZaW (Zgs ((ZbN b).take k))))]) 0 Kc ?_ ?_;{exact Zak};{intro k hk;(repeat(refine vV ?_;(try simp only[go_sem,hP,ZaW,Zgs,Ye,Yg]);refine vQ ?_));refine vC ?_ ?_<;>intro h;{(have hi:k<b.fo.length:=by simpa using h);(have hi2:k<b.sl.length:=by omega);have g1:=Zau hi;have g2:=Zau hi2;have e1:=ZaY hb.fo hi;have e2:=ZaY hb.sn hi2;(have hs:(ZbN b).take (k+1)=(ZbN b).take k++[b.fo.getD k 0+b.sl.getD k 0]:=by(have hp:k<(ZbN b).length:=by simp[ZbN,Zgm];omega);rw[Yq hp];simp only[ZbN,Zgm,Ybx,Zbg hi,Zbg hi2]);(have hlk:((ZbN b).take k).length=k:=by simp[ZbN,Zgm];omega);generalize(ZbN b).take k=p at hs hlk;generalize b.fo.getD k 0=x at*;generalize b.sl.getD k 0=y at*;have w1:=vw (n:=(k:Int)+1);have w2:=vw (n:=x+y);(have hk4:(k:Int)<4:=by omega);(repeat(refine vV ?_;(try simp only[go_sem,hP,g1,g2,Zai,Bx.cds,Yc,Yr,Ybz,hi,hi2,YB,w1,w2,hk4]);refine vQ ?_));refine⟨k+1,Kc,Kc,?_⟩;rw[hs];have hset:=ZuE (p:=p) (n:=x+y) Kc;rw[hlk]at hset;simp only[ZaW,Zgs,Ye,Yg]at hset;rw[Yab,hset];(refine Zaf (by simp only[go_sem];exact vEi) (by simp only[go_sem];exact Zaa))};{(have hi:k=b.fo.length:=by simp at h;omega);subst hi;rw[YG (by simp[ZbN,Zgm];omega)];(refine vU ?_;try exact trivial)}}
def ZFX:Cz [] 89:=ec
def ZBn:Cz [] 102:=ec
def ZBG:Cz [] 136:=ec [(4,14684096,[])]
abbrev ZAn:List Nat:=[0,1,2]
def Zsv:Cz [] 100:=ec
def ZBo:Cz [] 103:=ec [(5,6144,[])]
abbrev ZAg:List Nat:=[0,1]
def i1s(l:List Int):List (List CD):=l.map fun n=>[.int .i64 n]
def Zd3(a b c:Int):Fq 89 [iv a,iv b,iv c] (.c (.bool (Zad a b c))):=by refine vE ZFX.h fun C hP hN hC hL=>?_;simp only[ZFX];(refine vU ?_;try exact trivial)
def Zly(a b c:Int):Fq 102 [iv a,iv b,iv c] (.c (.bool (Zad a b c))):=by refine vE ZBn.h fun C hP hN hC hL=>?_;simp only[ZBn];refine vR ?_;(refine Zal (Zd3 a b c) ?_;refine vS ?_);(refine vT ?_;try exact trivial)
def Zps(l:List Int)(lo most:Int):Fq 136 [.c (Zai l),iv lo,iv most] (.c (.bool (ZlB lo most l))):=by refine vE ZBG.h fun C hP hN hC hL=>?_;(have hl:l.length<=9223372036854775807:=by simp only[AV.lensL,AV.lens]at hL;exact ZfV hL.1);simp only[ZBG];refine vR ?_;refine Zam ZAn [] (fun k:Nat=>k<=l.length/\Zjy lo most l k=true) (fun k=>l.length-k) (fun k=>[(7,iv k)]) (fun _=>[]) 0 ⟨YC _,rfl⟩ ?_ ?_;{(refine Zaf (by simp only[go_sem];exact vEi) (by simp only[go_sem];exact Zaa))};rintro k ⟨hk,hr⟩;refine vR0 ?_;refine vC ?_ ?_<;>intro h;{(have hi:k<l.length:=by simpa using h);have hw:=vw (n:=(k:Int)+1);have hgd:=Zau hi;(have hs:Zjy lo most l (k+1)=(Zad (l.getD k 0) lo most&&(decide (k=0)||decide (l.getD (k-1) 0<l.getD k 0))):=by(conv=>lhs;unfold Zjy);rw[hr];rfl);have hfail:Zjy lo most l (k+1)=false->ZlB lo most l=false:=fun h=>ZgN h hi;generalize l.getD k 0=a at hgd hs;have hz0:(Go.IntKind.i64.wrap (((0:Nat):Int)-1)).toNat=0:=rfl;by_cases hz:k=0;{subst hz;have hd0:decide ((0:Int)<((0:Nat):Int))=false:=rfl;(have hs:Zjy lo most l (0+1)=Zad a lo most:=by rw[hs];simp);refine vW0 (vA hgd (vA hi (vA hd0 hz0))) ?_;(refine Zal (Zd3 a lo most) ?_;simp only[go_sem,hP,hd0,hz0,hgd,Zai,Yc,Yr];refine vQ ?_;(repeat(refine vV ?_;(try simp only[go_sem,hP,hd0,hz0,hgd,Zai,Yc,Yr]);refine vQ ?_)));by_cases hin:Zad a lo most=true;{rw[hin]at hs;refine vC ?_ ?_<;>intro h;{simp[hin]at h};refine vW hw ?_;refine⟨0+1,⟨Kc,hs⟩,Kc,?_⟩;(refine Zaf (by simp only[go_sem];exact vEi) (by simp only[go_sem];exact Zaa))};{(have hin:Zad a lo most=false:=by simpa using hin);rw[hin]at hs;rw[hfail hs];refine vC ?_ ?_<;>intro h;{exact vUt};{simp[hin]at h}}};{have hgp:=Zau (l:=l) (i:=k-1) Kc;generalize l.getD (k-1) 0=b at hgp hs;(have hd1:decide ((0:Int)<(k:Int))=true:=by rw[Yl];omega);have wi:=vw (n:=(k:Int)-1);(have ei:((k:Int)-1).toNat=k-1:=by omega);(have hlt:(k:Int)-1<(l.length:Int):=by omega);(have hge:(0:Int)<=(k:Int)-1:=by omega);(have hs:Zjy lo most l (k+1)=(Zad a lo most&&decide (b<a)):=by rw[hs];simp[hz]);refine vW0 (vA hgd (vA hi hd1)) ?_;(refine Zal (Zd3 a lo most) ?_;refine vX0 (vA hd1 (vA hgd (vA hgp (vA wi (vA ei (vA hlt (vA hge hi))))))) ?_);by_cases hin:(Zad a lo most&&decide (b<a))=true;{rw[hin]at hs;rw[Yf,Yl]at hin;refine vC ?_ ?_<;>intro h;{rw[hin.1]at h;simp at h;omega};refine vW hw ?_;refine⟨k+1,⟨Kc,hs⟩,Kc,?_⟩;(refine Zaf (by simp only[go_sem];exact vEi) (by simp only[go_sem];exact Zaa))};{(have hin:(Zad a lo most&&decide (b<a))=false:=by simpa using hin);rw[hin]at hs;rw[hfail hs];refine vC ?_ ?_<;>intro h;{exact vUt};{(cases h1:Zad a lo most with|false=>rw[h1]at h;simp at h|true=>rw[h1]at h hin;simp at h hin;omega)}}}};{(have hi:k=l.length:=by simp at h;omega);subst hi;unfold ZlB;rw[hr];refine vR0 ?_;(refine vT ?_;try exact trivial)}
def Zx4(w:Wh):Fq 100 [w.av] (iv (whE w)):=by
 refine vE Zsv.h fun C hP hN hC hL=>?_;simp only[Zsv,Wh.av,Wh.avs];refine vR3 ?_;(refine Zal (Zd3 w.ro 1 200) ?_;refine vS0 ?_);have hbad:whB w=false->whE w=10:=fun h=>by unfold whE;rw[h];rfl
 by_cases h1:Zad w.ro 1 200=true;case neg=>
  have h1:Zad w.ro 1 200=false:=by simpa using h1
  rw[hbad (by unfold whB;rw[h1];rfl)];simp only[go_sem,h1];(refine Zay ?_;refine vS4 ?_);(refine Zay ?_;refine vS4 ?_)
  refine vC ?_ ?_<;>intro h
  ·exact vUt
  ·simp at h
 by_cases h2:(w.no.length:Int)<=12;case neg=>
  have d2:decide ((12:Int)<(w.no.length:Int))=true:=by rw[Yl];omega
  rw[hbad (by unfold whB;rw[YaL h2];simp)];simp only[go_sem,h1,d2];(refine Zay ?_;refine vX2 d2 ?_);(refine Zay ?_;refine vX2 d2 ?_)
  refine vC ?_ ?_<;>intro h
  ·exact vUt
  ·simp at h
 have d2:decide ((12:Int)<(w.no.length:Int))=false:=by rw[Yax];omega
 simp only[go_sem,h1,d2];(refine ZaV (fun hG=>Zps w.no 1 w.ro) ?_;simp only[go_sem,hP,Zai,h1,d2,Yc];refine vQ ?_;(repeat(refine vV ?_;(try simp only[go_sem,hP,Zai,h1,d2,Yc]);refine vQ ?_)));by_cases h3:ZlB 1 w.ro w.no=true;case neg=>
  have h3:ZlB 1 w.ro w.no=false:=by simpa using h3
  rw[hbad (by unfold whB;rw[h3];simp)];simp only[go_sem,h3];(refine Zay ?_;refine vS4 ?_);refine vC ?_ ?_<;>intro h
  ·exact vUt
  ·simp at h
 by_cases h4:(w.co.length:Int)<=4;case neg=>
  have d4:decide ((4:Int)<(w.co.length:Int))=true:=by rw[Yl];omega
  rw[hbad (by unfold whB;rw[YaL h4];simp)];simp only[go_sem,h3,d4];(refine Zay ?_;refine vX2 d4 ?_);refine vC ?_ ?_<;>intro h
  ·exact vUt
  ·simp at h
 (have d4:decide ((4:Int)<(w.co.length:Int))=false:=by rw[Yax];omega);simp only[go_sem,h3,d4];(refine ZaV (fun hG=>Zps w.co 1 100) ?_;simp only[go_sem,hP,Zai,h3,d4,Yc];refine vQ ?_;(repeat(refine vV ?_;(try simp only[go_sem,hP,Zai,h3,d4,Yc]);refine vQ ?_)));by_cases h5:ZlB 1 100 w.co=true;{(have:whE w=0:=by unfold whE whB;rw[h1,h3,h5,Yaa h2,Yaa h4];rfl);rw[this];refine vC ?_ ?_<;>intro h;{simp[h5]at h};{exact vUt}};{(have h5:ZlB 1 100 w.co=false:=by simpa using h5);rw[hbad (by unfold whB;rw[h5];simp)];refine vC ?_ ?_<;>intro h;{exact vUt};{simp[h5]at h}}
def Zw2{a b:List Int}(hl:a.length=b.length)(h5:a.length<=5)(ha:∀n∈a,0<=n/\n<=12)(hb:∀n∈b,0<=n/\n<=12):Fq 103 [.c (Zai a),.c (Zai b)] (.c (Zai (Zgm a b))):=by have hmax:=vM;(have hal:(Zgm a b).length=a.length:=by simp[Zgm];omega);refine vE ZBo.h fun C hP hN hC hL=>?_;simp only[ZBo];refine vR0 ?_;refine Zbn 5 24 3 1 Kb Kb rfl rfl ?_;simp only[go_sem];refine Zam ZAg [24] (fun k:Nat=>k<=a.length) (fun k=>a.length-k) (fun k=>[(6,iv k),(5,.gr 24)]) (fun k=>[(24,.grow 3 1 (i1s ((Zgm a b).take k)))]) 0 Kc ?_ ?_;{(refine Zaf (by simp only[go_sem];(refine vEz ?_;first|trivial|exact AWk.of (by simp[i1s]))) (by simp only[go_sem];exact Zaa))};{intro k hk;refine vR0 ?_;refine vC ?_ ?_<;>intro h;{(have hi:k<a.length:=by simpa using h);(have hi2:k<b.length:=by omega);have g1:=Zau hi;have g2:=Zau hi2;have e1:=ZaY ha hi;have e2:=ZaY hb hi2;(have hs:i1s ((Zgm a b).take (k+1))=i1s ((Zgm a b).take k)++[[.int .i64 (a.getD k 0+b.getD k 0)]]:=by rw[Yq Kc];simp only[i1s,Yy,Ye,Yg,Zgm,Ybx,Zbg hi,Zbg hi2]);(have hlk:(i1s ((Zgm a b).take k)).length=k:=by simp[i1s,hal];omega);(have hon:((i1s ((Zgm a b).take k)).all fun e=>e.length==1)=true:=by rw[Yn];intro e he;obtain⟨n,_,rfl⟩:=Ys.1 he;rfl);generalize i1s ((Zgm a b).take k)=L at hs hlk hon;generalize a.getD k 0=x at*;generalize b.getD k 0=y at*;have w1:=vw (n:=(k:Int)+1);have w2:=vw (n:=x+y);refine vW0 (vA g1 (vA g2 (vA hi (vA hi2 (vA w1 (vA w2 (vA hlk hon))))))) ?_;refine⟨k+1,Kc,Kc,?_⟩;rw[hs];exact Zak};{(have hi:k=a.length:=by simp at h;omega);subst hi;rw[YG Kc];(refine vU ?_;try exact trivial)}}
def ZBm:Cz [] 101:=ec
abbrev ZAf:List Nat:=[1]
def Zvj:Cz [] 123:=ec [(1,3072,[.b [0,1,3,4,7,8] [.b [2] [.l [5,6,9,10,11],.l [6,5,9,10,11]],.l [6,2,5,9,10,11]]])]
def ZDm:Cz [] 84:=ec [(3,253952,[.b [1,2,5,6,9,10] [.b [0] [.b [3,12] [.b [4] [.l [7,8,11,13,14,15,16,17],.l [8,7,11,13,14,15,16,17]],.l [8,4,7,11,13,14,15,16,17]],.b [4] [.b [3,12] [.l [7,8,11,13,14,15,16,17],.l [8,7,11,13,14,15,16,17]],.l [8,3,7,11,12,13,14,15,16,17]],.b [8] [.l [3,4,7,11,12,13,14,15,16,17],.l [4,3,7,11,12,13,14,15,16,17]]],.b [4] [.b [0] [.b [3,12] [.l [7,8,11,13,14,15,16,17],.l [8,7,11,13,14,15,16,17]],.l [8,3,7,11,12,13,14,15,16,17]],.l [8,0,3,7,11,12,13,14,15,16,17]],.b [8] [.b [0] [.l [3,4,7,11,12,13,14,15,16,17],.l [4,3,7,11,12,13,14,15,16,17]],.l [4,0,3,7,11,12,13,14,15,16,17]]]])]
def ZiR(w:Wh)(l:List Int):Bool:=Zgq w l&&decide (l.sum<=12)
def Zll{w:Wh}(hw:WhOk w)(l:List Int):Fq 101 [w.av,.c (Zai l)] (.c (.bool (ZiR w l))):=by
 have hcl:=hw.cl;refine vE ZBm.h fun C hP hN hC hL=>?_
 simp only[ZBm,Wh.av,Wh.avs];have hne:((l.length:Int) !=(w.co.length:Int))= !(l.length==w.co.length):=ZDN _ _;(repeat(refine vV ?_;(try simp only[go_sem,hP,Wh.avs,Zai,Yc,hne]);refine vQ ?_));by_cases hlen:l.length=w.co.length;case neg=>
  have hb2:(l.length==w.co.length)=false:=by simpa using hlen
  have e1:ZiR w l=false:=by unfold ZiR Zgq;rw[hb2];rfl
  rw[e1];refine vC ?_ ?_<;>intro h
  ·exact vUt
  ·simp[hb2]at h
 (have hb2:(l.length==w.co.length)=true:=by simpa using hlen);refine vC ?_ ?_<;>intro h;{simp[hb2]at h};(have hlst:Zgq w l=l.all fun n=>Zad n 0 12:=by unfold Zgq;rw[hb2,Ybq,Ybp,List.not_any_eq_all_not];congr 1;funext n;simp[Zhi]);refine vR0 ?_;refine Zam ZAf [] (fun k:Nat=>k<=l.length/\(∀n∈l.take k,Zad n 0 12=true)/\0<=(l.take k).sum/\(l.take k).sum<=12*k) (fun k=>l.length-k) (fun k=>[(6,iv k),(5,iv (l.take k).sum)]) (fun _=>[]) 0 ⟨Kc,Kd,Kd,Kd⟩ ?_ ?_;{exact Zak};{rintro k ⟨hk,hin,hs1,hs2⟩;refine vR0 ?_;refine vC ?_ ?_<;>intro h;{(have hi:k<l.length:=by simpa using h);have g1:=Zau hi;(have hm:l.getD k 0∈l:=by rw[Zbg hi];exact Yv _);(have hs:(l.take (k+1)).sum=(l.take k).sum+l.getD k 0:=by rw[Yq hi,Ya4,Zbg hi];simp);(have ht:∀n∈l.take (k+1),n∈l.take k\/n=l.getD k 0:=fun n hn=>by rw[Yq hi,YD,Yk]at hn;rw[Zbg hi];exact hn);generalize l.getD k 0=x at*;generalize(l.take k).sum=y at*;refine vW0 (vA g1 hi) ?_;(refine Zal (Zd3 x 0 12) ?_;refine vS7 ?_);by_cases hx:Zad x 0 12=true;{(have hx2:0<=x/\x<=12:=by simpa [Zad]using hx);have w1:=vw (n:=(k:Int)+1);have w2:=vw (n:=y+x);refine vC ?_ ?_<;>intro h;{simp[hx]at h};refine vW0 (vA g1 (vA hi (vA w1 w2))) ?_;refine⟨k+1,⟨Kc,fun n hn=>?_,Kc,Kc⟩,Kc,?_⟩;{rcases ht n hn with h1|rfl;{exact hin n h1};{exact hx}};{rw[hs];(refine Zaf (by simp only[go_sem];exact vEi) (by simp only[go_sem];exact Zaa))}};{(have hx:Zad x 0 12=false:=by simpa using hx);(have e1:ZiR w l=false:=by unfold ZiR;rw[hlst,Yco.2 ⟨x,hm,by simp[hx]⟩];rfl);rw[e1];refine vC ?_ ?_<;>intro h;{exact vUt};{simp[hx]at h}}};{(have hi:k=l.length:=by simp at h;omega);subst hi;rw[YL]at hin|-;(have e1:ZiR w l=decide (l.sum<=12):=by unfold ZiR;rw[hlst,Yn.2 hin];rfl);rw[e1];(refine vU ?_;try exact trivial)}}
def ones(l:List Int):((l.map fun n=>[CD.int .i64 n]).all fun e=>e.length==1)=true:=by rw[Yn];intro e he;obtain⟨n,_,rfl⟩:=Ys.1 he;rfl
def ZA3{w:Wh}(h1:w.no.length<=1000)(h2:w.co.length<=1000):Fq 123 [w.av] w.av:=by have hmax:=vM;refine vE Zvj.h fun C hP hN hC hL=>?_;simp only[Zvj,Wh.av,Wh.avs];(repeat(refine vV ?_;(try simp only[go_sem,hP,Wh.avs,Zai,Yc]);refine vQ ?_));(refine ZaS ?_;simp only[go_sem,hP,Zai,Yc,ones];(repeat'(refine And.intro ?_ ?_)));(all_goals first|omega|skip);all_goals((refine Zas ?_;simp only[Zaz,inQ,ZfE,Zcb,Zaq,ZbJ];simp only[go_sem,Zbu,AV.port,AV.portL,YU,Zai];(first|exact AVle.of rfl|refine AVle.of ?_|skip)))
def copy10{b:Bx}(h1:b.wh.no.length<=1000)(h2:b.wh.co.length<=1000)(h3:b.fo.length<=1000)(h4:b.ma.length<=1000)(h5:b.sl.length<=1000):Fq 84 [b.av] b.av:=by have hmax:=vM;refine vE ZDm.h fun C hP hN hC hL=>?_;simp only[ZDm,Bx.av,Bx.avs];(repeat(refine vV ?_;(try simp only[go_sem,hP,Bx.avs,Zai,Yc]);refine vQ ?_));(refine Zal (ZA3 h1 h2) ?_;simp only[go_sem,hP,Wh.av,Wh.avs,Zai,Yc];refine vQ ?_;(repeat(refine vV ?_;(try simp only[go_sem,hP,Wh.av,Wh.avs,Zai,Yc]);refine vQ ?_)));(refine ZaS ?_;simp only[go_sem,hP,Zai,Yc,ones];(repeat'(refine And.intro ?_ ?_)));(all_goals first|omega|skip);(all_goals(refine vR ?_));all_goals((refine Zas ?_;simp only[Zaz,inQ,ZfE,Zcb,Zaq,ZbJ];simp only[go_sem,Zbu,AV.port,AV.portL,YU,Zai];(first|exact AVle.of rfl|refine AVle.of ?_|skip)))
def ZB3:Cz [] 188:=ec
def ZB7:Cz [] 193:=ec
def ZB8:Cz [] 194:=ec
def ZnS(f:FuncId):Fn 188 [.fn f []] (fun r os=>∃b:Nat,r= .agg [iv 0,.c (.raw (.iface 204 (fnV 217 [Zf5 b 0])))]/\os=[vbox (fnV f []) b]):=by refine ZaL ZB3.h (Yi _) Kb fun C hP hN hC hL=>?_;rw[Zbh];simp only[ZB3];(refine ZgU ?_;refine vN ?_);refine Zhk 10 Kb (by simp only[go_sem]) ?_;simp only[go_sem];refine Znh 10 1 1 (v:=fnV f []) Kb (by simp only[go_sem]) (by simp only[go_sem]) (by simp only[go_sem]) (fun w M loc u h=>Zlq h) fun b=>?_;simp only[go_sem];refine Zav (σ':=⟨upd (upd e0 1 (.c (.raw (Zf5 b 0)))) 2 (.bp 2 0),upd (upd o0 2 (.box [iv 0,.c (.raw .nilIface)])) 10 (vbox (fnV f []) b)⟩) (Zaf (by simp only[go_sem];exact Zaj) (by simp only[go_sem];exact Zaa)) ?_;refine vR ?_;refine Zlo (v:=fnV 217 [Zf5 b 0]) Ka rfl rfl (fun w M loc u h=>Zn2 h) ?_;simp only[go_sem,hP];refine vR ?_;(refine Zas ?_;simp only[Zaz,inQ,Zbk,ZaN,Zaq,ZbJ];simp only[go_sem,Zbu]);exact⟨[10],_,_,_,Kd,Kd,rfl,AVle.refl _,rfl,b,rfl,rfl⟩
def ZrG(f:FuncId):Fn 193 [.fn f []] (fun r os=>∃b:Nat,r= .agg [iv 0,.c (.raw (.iface 204 (fnV 219 [Zf5 b 0])))]/\os=[vbox (fnV f []) b]):=by refine ZaL ZB7.h (Yi _) Kb fun C hP hN hC hL=>?_;rw[Zbh];simp only[ZB7];(refine ZgU ?_;refine vN ?_);refine Zhk 10 Kb (by simp only[go_sem]) ?_;simp only[go_sem];refine Znh 10 1 1 (v:=fnV f []) Kb (by simp only[go_sem]) (by simp only[go_sem]) (by simp only[go_sem]) (fun w M loc u h=>Zlq h) fun b=>?_;simp only[go_sem];refine Zav (σ':=⟨upd (upd e0 1 (.c (.raw (Zf5 b 0)))) 2 (.bp 2 0),upd (upd o0 2 (.box [iv 0,.c (.raw .nilIface)])) 10 (vbox (fnV f []) b)⟩) (Zaf (by simp only[go_sem];exact Zaj) (by simp only[go_sem];exact Zaa)) ?_;refine vR ?_;refine Zlo (v:=fnV 219 [Zf5 b 0]) Ka rfl rfl (fun w M loc u h=>Zn2 h) ?_;simp only[go_sem,hP];refine vR ?_;(refine Zas ?_;simp only[Zaz,inQ,Zbk,ZaN,Zaq,ZbJ];simp only[go_sem,Zbu]);exact⟨[10],_,_,_,Kd,Kd,rfl,AVle.refl _,rfl,b,rfl,rfl⟩
def ZxX(f:FuncId):Fn 194 [.fn f []] (fun r os=>∃b:Nat,r= .agg [iv 0,.c (.raw (.iface 204 (fnV 220 [Zf5 b 0])))]/\os=[vbox (fnV f []) b]):=by refine ZaL ZB8.h (Yi _) Kb fun C hP hN hC hL=>?_;rw[Zbh];simp only[ZB8];(refine ZgU ?_;refine vN ?_);refine Zhk 10 Kb (by simp only[go_sem]) ?_;simp only[go_sem];refine Znh 10 1 1 (v:=fnV f []) Kb (by simp only[go_sem]) (by simp only[go_sem]) (by simp only[go_sem]) (fun w M loc u h=>Zlq h) fun b=>?_;simp only[go_sem];refine Zav (σ':=⟨upd (upd e0 1 (.c (.raw (Zf5 b 0)))) 2 (.bp 2 0),upd (upd o0 2 (.box [iv 0,.c (.raw .nilIface)])) 10 (vbox (fnV f []) b)⟩) (Zaf (by simp only[go_sem];exact Zaj) (by simp only[go_sem];exact Zaa)) ?_;refine vR ?_;refine Zlo (v:=fnV 220 [Zf5 b 0]) Ka rfl rfl (fun w M loc u h=>Zn2 h) ?_;simp only[go_sem,hP];refine vR ?_;(refine Zas ?_;simp only[Zaz,inQ,Zbk,ZaN,Zaq,ZbJ];simp only[go_sem,Zbu]);exact⟨[10],_,_,_,Kd,Kd,rfl,AVle.refl _,rfl,b,rfl,rfl⟩
def ZBU:Cz [] 157:=ec
def wv(n:Int)(t:Nat)(v:Value):Value:=.agg #[.int .i64 n,.iface t v]
def Zve{σ:St}{K:St->Prop}(n:Nat){b s:Nat}{l:SL}{key:ByteArray}{m:Int}{t:TypeId}{v:Value}(hown:σ.own n=smap l b)(hm:σ.env 1= .c (.raw (.map (some b))))(hs:σ.env s= .agg [iv m,.c (.raw (.iface t v))])(hlen:decide (key.data.toList.length<=100)=true)(hls:(l.all fun p=>decide (p.1.length<=100))=true)(hnew:Zge l key.data.toList=none)(hK:K ⟨σ.env,upd σ.own n (smap (l++[(key.data.toList,wv m t v)]) b)⟩):Zcn Tryz.prog none (.raw (.insert 233 (.tmp 1) (.const (.string key)) (.tmp s))) K σ:=by(have hml:100<=maxLen:=by decide);refine Zwa (k:=9) (e:=200) (x':=.t 1) (i':=.k (.c (.str key.data.toList))) (v':=.t s) (val:=wv m t v) (.inr rfl) Ka Ka rfl rfl rfl ?_ rfl ?_ ?_ rfl ?_ hown ?_ ?_ hnew hK;{simp only[go_sem,hm]};{simp only[go_sem,hs]};{simp only[go_sem,hm]};{intro w M loc u h;simp only[go_sem,hs,RepA,RepAs,RepC]at h;obtain⟨l,rfl,v1,vs,rfl,rfl,v2,vs2,rfl,⟨rfl,_⟩,rfl⟩:=h;rfl};{exact YaP (YY hlen) hml};{intro p hp;exact YaP (YY (Yn.1 hls p hp)) hml}
def mkW{σ:St}{K:St->Prop}{d:Nat}{t f:Nat}(ht:(Tryz.prog.underlying t).map ZvP=some true)(hK:K (σ.put (some d) (.c (.raw (.iface t (fnV f [])))))):Zcn Tryz.prog (some d) (.raw (.makeInterface t (.func f))) K σ:=
 Zlo (x':=.k (.fn f [])) ht rfl rfl (fun w M loc u h=>Zlq h) hK
def ZwC:(Tryz.prog.underlying 206).map ZvP=some true:=by kernel_rfl
def u99:(Tryz.prog.underlying 204).map ZvP=some true:=by kernel_rfl
def ZAb(q:Nat->Nat):SL:=[
 ([99,111,105,110],wv 1 206 (fnV 176 [])),
 ([109,97,114,107],wv 1 206 (fnV 178 [])),
 ([115,108,117,103],wv 1 206 (fnV 179 [])),
 ([112,114,101,115,115],wv 2 206 (fnV 180 [])),
 ([108,111,115,101],wv 1 206 (fnV 181 [])),
 ([115,107,105,112,115],wv 1 206 (fnV 182 [])),
 ([101,109,112,116,121],wv 0 206 (fnV 183 [])),
 ([115,116,97,110,100],wv 0 204 (fnV 184 [])),
 ([103,105,118,101,115],wv 1 204 (fnV 185 [])),
 ([99,104,101,97,112,101,115,116],wv 1 204 (fnV 186 [])),
 ([119,97,105,116],wv 1 204 (fnV 187 [])),
 ([108,111,110,103,101,115,116],wv 0 204 (fnV 217 [Zf5 (q 0) 0])),
 ([101,110,100],wv 0 204 (fnV 217 [Zf5 (q 1) 0])),
 ([97,116],wv 1 204 (fnV 189 [])),
 ([108,97,116,101,115,116],wv 2 204 (fnV 190 [])),
 ([115,111,111,110,101,115,116],wv 0 204 (fnV 217 [Zf5 (q 2) 0])),
 ([99,97,115,104],wv 0 204 (fnV 192 [])),
 ([99,97,110],wv 0 204 (fnV 219 [Zf5 (q 3) 0])),
 ([109,105,115,115,105,110,103],wv 0 204 (fnV 220 [Zf5 (q 4) 0])),
 ([119,104,105,99,104],wv 0 204 (fnV 219 [Zf5 (q 5) 0])),
 ([115,107,105,112,112,101,100],wv 0 204 (fnV 220 [Zf5 (q 6) 0])),
 ([115,104,111,114,116],wv 0 204 (fnV 220 [Zf5 (q 7) 0]))]
def ZGH(b:Nat)(q:Nat->Nat):List Ob:=[smap (ZAb q) b,vbox (fnV 26 []) (q 0),vbox (fnV 27 []) (q 1),vbox (fnV 191 []) (q 2),vbox (fnV 31 []) (q 3),vbox (fnV 32 []) (q 4),vbox (fnV 33 []) (q 5),vbox (fnV 34 []) (q 6),vbox (fnV 35 []) (q 7)]
def words67:Fn 157 [] (fun r os=>∃(b:Nat)(q:Nat->Nat),r= .c (.raw (.map (some b)))/\os=ZGH b q):=by refine ZaL ZBU.h (Yi _) Kb fun C hP hN hC hL=>?_;rw[Zbh];simp only[ZBU];(refine ZgU ?_;refine vN ?_);refine ZgU ?_;refine vN ?_;refine Zzp rfl fun b=>?_;simp only[go_sem,hP];refine vQ ?_;(repeat(first|(refine mkW ZwC ?_;refine vN ?_)|(refine mkW u99 ?_;refine vN ?_)|(refine Zve 1 rfl rfl rfl rfl rfl rfl ?_;refine vN ?_)));refine ZaK (ZnS 26) rfl rfl rfl rfl ?_;rintro r os ⟨b0,rfl,rfl⟩;refine⟨[101],_,_,Kd,rfl,rfl,rfl,rfl,?_⟩;refine vO ?_;(repeat(first|(refine mkW ZwC ?_;refine vN ?_)|(refine mkW u99 ?_;refine vN ?_)|(refine Zve 1 rfl rfl rfl rfl rfl rfl ?_;refine vN ?_)));refine ZaK (ZnS 27) rfl rfl rfl rfl ?_;rintro r os ⟨b1,rfl,rfl⟩;refine⟨[102],_,_,Kd,rfl,rfl,rfl,rfl,?_⟩;refine vO ?_;(repeat(first|(refine mkW ZwC ?_;refine vN ?_)|(refine mkW u99 ?_;refine vN ?_)|(refine Zve 1 rfl rfl rfl rfl rfl rfl ?_;refine vN ?_)));refine ZaK (ZnS 191) rfl rfl rfl rfl ?_;rintro r os ⟨b2,rfl,rfl⟩;refine⟨[103],_,_,Kd,rfl,rfl,rfl,rfl,?_⟩;refine vO ?_;(repeat(first|(refine mkW ZwC ?_;refine vN ?_)|(refine mkW u99 ?_;refine vN ?_)|(refine Zve 1 rfl rfl rfl rfl rfl rfl ?_;refine vN ?_)));refine ZaK (ZrG 31) rfl rfl rfl rfl ?_;rintro r os ⟨b3,rfl,rfl⟩;refine⟨[104],_,_,Kd,rfl,rfl,rfl,rfl,?_⟩;refine vO ?_;(repeat(first|(refine mkW ZwC ?_;refine vN ?_)|(refine mkW u99 ?_;refine vN ?_)|(refine Zve 1 rfl rfl rfl rfl rfl rfl ?_;refine vN ?_)));refine ZaK (ZxX 32) rfl rfl rfl rfl ?_;rintro r os ⟨b4,rfl,rfl⟩;refine⟨[105],_,_,Kd,rfl,rfl,rfl,rfl,?_⟩;refine vO ?_;(repeat(first|(refine mkW ZwC ?_;refine vN ?_)|(refine mkW u99 ?_;refine vN ?_)|(refine Zve 1 rfl rfl rfl rfl rfl rfl ?_;refine vN ?_)));refine ZaK (ZrG 33) rfl rfl rfl rfl ?_;rintro r os ⟨b5,rfl,rfl⟩;refine⟨[106],_,_,Kd,rfl,rfl,rfl,rfl,?_⟩;refine vO ?_;(repeat(first|(refine mkW ZwC ?_;refine vN ?_)|(refine mkW u99 ?_;refine vN ?_)|(refine Zve 1 rfl rfl rfl rfl rfl rfl ?_;refine vN ?_)));refine ZaK (ZxX 34) rfl rfl rfl rfl ?_;rintro r os ⟨b6,rfl,rfl⟩;refine⟨[107],_,_,Kd,rfl,rfl,rfl,rfl,?_⟩;refine vO ?_;(repeat(first|(refine mkW ZwC ?_;refine vN ?_)|(refine mkW u99 ?_;refine vN ?_)|(refine Zve 1 rfl rfl rfl rfl rfl rfl ?_;refine vN ?_)));refine ZaK (ZxX 35) rfl rfl rfl rfl ?_;rintro r os ⟨b7,rfl,rfl⟩;refine⟨[108],_,_,Kd,rfl,rfl,rfl,rfl,?_⟩;refine vO ?_;(repeat(first|(refine mkW ZwC ?_;refine vN ?_)|(refine mkW u99 ?_;refine vN ?_)|(refine Zve 1 rfl rfl rfl rfl rfl rfl ?_;refine vN ?_)));(refine Zas ?_;simp only[Zaz,inQ,Zbk,ZaN,Zaq,ZbJ];simp only[go_sem,Zbu]);exact⟨[1,101,102,103,104,105,106,107,108],_,_,_,Kd,Kd,rfl,AVle.refl _,rfl,b,fun i=>[b0,b1,b2,b3,b4,b5,b6,b7].getD i 0,rfl,rfl⟩
open Go.RowKit Go.Shelf
def ZBT:Cz [] 156:=ec
def Zzv:Ren:=⟨fun|101=>195|208=>221|206=>241|n=>n,
 fun x=>x,
 fun x=>x⟩
def Zwi:Ren:=⟨fun|221=>175|268=>213|138=>214|143=>215|195=>234|197=>235|218=>236|219=>237|260=>254|217=>255|225=>256|224=>257|267=>258|266=>268|314=>269|n=>n,
 fun|31=>35|105=>288|46=>245|119=>318|139=>321|138=>320|146=>322|51=>270|n=>n,
 fun|1=>0|3=>4|4=>5|n=>n⟩
def Zzt:Ren:=⟨fun|172=>196|244=>222|245=>223|247=>242|279=>243|280=>244|281=>245|282=>246|287=>261|316=>262|171=>159|205=>263|321=>270|322=>271|243=>197|246=>224|283=>247|284=>248|285=>249|286=>250|129=>212|317=>264|318=>265|319=>266|320=>267|337=>272|338=>273|n=>n,
 fun|75=>255|76=>256|167=>294|37=>100|85=>295|168=>297|53=>272|175=>310|46=>245|210=>313|127=>281|145=>327|143=>325|171=>300|173=>302|212=>316|51=>270|213=>317|232=>328|233=>329|80=>261|n=>n,
 fun|15=>1|16=>2|17=>3|18=>6|19=>7|n=>n⟩
def ZcU{P:Program}{f:Nat}{B:Func}(h:P.funcs[f]? = some B)(hb:B.body.isSome = true)(hn:(B.name == "runtime.NumGoroutine") = false):ZbF P f :=
 ⟨_,h,hb,by simpa using hn⟩
def ZsD:Lays.n101 Tryz.prog Zzv:=by constructor<;>first|kernel_rfl|(intro w;kernel_rfl)
def Zht:Lays.n221 Tryz.prog Zwi:=by constructor<;>first|kernel_rfl|(intro w;kernel_rfl)
def ZsB:Lays.n172 Tryz.prog Zzt:=by constructor<;>first|kernel_rfl|(intro w;kernel_rfl)
def ZzN(s p:List UInt8):Fq 195 [.c (.str s),.c (.str p)] (.c (.str (Lib.trimPrefix s p))):=by refine⟨ZcU ZsD.f101 Ka Ka,fun w M vs hM hr=>?_⟩;simp only[RepAs,RepA,RepC]at hr;obtain⟨_,_,rfl,rfl,_,_,rfl,rfl,rfl⟩:=hr;refine(Any.strings_TrimPrefix ZsD ⟨s.toArray⟩ ⟨p.toArray⟩ w).mono ?_;rintro e w' ⟨rfl,rfl⟩;exact⟨_,rfl,by simp only[RepA,RepC],rfl,rfl,rfl,Yi _,fun k _=>rfl⟩
def ZxT{s:List UInt8}{n:Int}(hl:s.length<=18)(h:Lib.atoi s=some n):Fq 196 [.c (.str s)] (.tup [iv n,.c (.raw .nilIface)]):=by refine⟨ZcU ZsB.f172 Ka Ka,fun w M vs hM hr=>?_⟩;simp only[RepAs,RepA,RepC]at hr;obtain⟨_,_,rfl,rfl,rfl⟩:=hr;refine(Any.strconv_Atoi ZsB ⟨s.toArray⟩ n (by simpa [ByteArray.size]using hl) h w).mono ?_;rintro e w' ⟨rfl,t,rfl⟩;refine⟨_,rfl,?_,Lib.bytesWorld_below w _ _⟩;simp only[RepA,RepAs,RepC];exact⟨[_,_],rfl,_,_,rfl,rfl,_,_,rfl,⟨rfl,rfl⟩,rfl⟩
def ZmO{w:World}{M:Cells}{loc:Nat->Value}:∀(l:List (List UInt8)),RepAs w M loc (l.map fun s=> .c (.str s)) (l.map sv)
 |[]=>by simp[RepAs]
 |s::l=>by simp only[Ye,RepAs,RepA,RepC];exact⟨_,_,rfl,rfl,ZmO l⟩
def Zip:∀l:List (List UInt8),(l.map fun s=>[CD.str s]).flatten.map AV.c=l.map fun s=>AV.c (.str s)
 |[]=>rfl
 |x::l=>by simp only[Ye,YaC,Yy,Zip l];rfl
def Zhm(s:List UInt8):List (List UInt8):=Lib.split s [32]
def Zaw(l:List (List UInt8)):CD:=.sl 1 (l.map fun x=>[.str x])
def ZzH{s:List UInt8}(hs:s.length<4294967281):Fq 175 [.c (.str s),.c (.str [32]),iv 0,iv (-1)] (.c (Zaw (Zhm s))):=by
 refine⟨ZcU Zht.f221 Ka Ka,fun w M vs hM hr=>?_⟩;simp only[RepAs,RepA,RepC]at hr;obtain⟨_,_,rfl,rfl,_,_,rfl,rfl,_,_,rfl,rfl,_,_,rfl,rfl,rfl⟩:=hr;obtain⟨S,hS⟩:∃S:ByteArray,S=⟨s.toArray⟩:=⟨_,rfl⟩;(have hSd:S.data.toList=s:=by rw[hS]);have hSs:S.size=s.length:=by rw[hS];simp[ByteArray.size]
 rw[<-hS];have h1:1<=(⟨#[32]⟩:ByteArray).size:=Yi 1;have hle:=Lib.countB_le ⟨#[32]⟩ h1 S.size S (Yi _);have hlen:=Lib.splitB_all ⟨#[32]⟩ h1 0 _ S rfl;have c:=Any.strings_genSplit_core Zht Ka S ⟨#[32]⟩ 0 (-1) (Lib.countB S ⟨#[32]⟩+1) w Kc h1 (YC _)
  (fun x c hx=>(Any.strings_Index_one {Zht with} x 32 _).mono fun e w' ⟨he,hw⟩=>⟨by rw[he];show _=Ending.returned (Value.int .i64 (Lib.index x.data.toList [32]));rw[Lib.index_one],hw⟩)
  ((Any.strings_Count_one {Zht with} S 32 w).mono fun e w' ⟨he,hw⟩=>⟨by rw[he];show _=Ending.returned (Value.int .i64 ((Lib.count S.data.toList [32]:Nat):Int));rw[Lib.count_one];rfl,hw⟩)
  Kb Kb (by rw[Yt Kb];omega)
 rw[YcM,hlen]at c;(have e2:Lib.cellsOf (Lib.splitB ⟨#[32]⟩ 0 (Lib.countB S ⟨#[32]⟩) S) (Lib.countB S ⟨#[32]⟩+1)=((Lib.splitB ⟨#[32]⟩ 0 (Lib.countB S ⟨#[32]⟩) S).map Value.string).toArray:=by rw[<-hlen];exact Lib.cellsOf_full _);rw[e2]at c;(have e3:(Lib.splitB ⟨#[32]⟩ 0 (Lib.countB S ⟨#[32]⟩) S).map Value.string=(Zhm s).map sv:=by have:=Lib.splitB_data ⟨#[32]⟩ 0 (Lib.countB S ⟨#[32]⟩) S;unfold Zhm Lib.split;rw[<-hSd];rw[<-this,Ya0];rfl);(have e4:(Zhm s).length=Lib.countB S ⟨#[32]⟩+1:=by have:=congrArg List.length e3;simpa [hlen]using this.symm);rw[e3,<-e4]at c;refine(show Calls Tryz.prog 175 _ w _ from c).mono ?_;rintro e w' ⟨rfl,rfl⟩;refine⟨_,rfl,?_,(Below.refl _ _).alloc (Yi _) _⟩;(have hmax:s.length<=maxLen:=by have:=vM;omega);simp only[RepA,RepC,Zaw,Yc];refine⟨_,_,rfl,Yi _,?_,.inr ⟨_,rfl,?_⟩⟩;{have:=vM;omega};{refine repE_of _ ((Zhm s).map sv) 0 (fun e he=>?_) ?_ (fun j u hj=>?_) (fun j hj hm=>?_);{obtain⟨n,_,rfl⟩:=Ys.1 he;rfl};{rw[Zip];exact ZmO _};{rw[cell_of_row _ _ _ _ _ _ (heap_alloc_new w _),YaH,<-Yay];exact hj};{have:=hM _ _ hm;omega}}
def ZzG{s:List UInt8}(hs:s.length<4294967281):Fq 156 [.c (.str s),.c (.str [32])] (.c (Zaw (Zhm s))):=by refine vE ZBT.h fun C hP hN hC hL=>?_;simp only[ZBT];refine vR ?_;(refine Zal (ZzH hs) ?_;refine vS ?_);(refine vU ?_;try exact trivial)
def ZBV:Cz [] 158:=ec [(11,20,[.b [1] [.b [0] [.l [2,3,4],.l [3,2,4]],.l [2,0,3,4]]])]
def Zbp(s:List UInt8):List UInt8:=Lib.trimPrefix s [45]
def dgt(b:UInt8):Bool:=decide (48<=b.toNat)&&decide (b.toNat<=57)
def ZdF(s:List UInt8):Bool:=(((Zbp s).length:Int)==0||decide (9<((Zbp s).length:Int))||((((Zbp s).getD 0 0).toNat:Int)==48&&(decide (1<((Zbp s).length:Int))||decide (1<(s.length:Int)))))
def Zb4(s:List UInt8):Bool:=!ZdF s&&(Zbp s).all dgt
def ZlA(s:List UInt8):Int:=if Zb4 s then(Lib.atoi s).getD 0 else 0
def ZcJ(p:UInt8->Bool):∀(l:List UInt8)(k:Nat),k<l.length->(l.take (k+1)).all p=((l.take k).all p&&p (l.getD k 0))
 |[],k,h=>by simp at h
 |b::l,0,_=>by simp
 |b::l,k+1,h=>by have:=ZcJ p l k (by simpa using h);simp only[Y8,YaE,this,Yak,YcP]
def ZdQ:∀(l:List UInt8)(acc:Nat),l.all dgt=true->∃m,Lib.decFrom acc l=some m
 |[],acc,_=>⟨acc,rfl⟩
 |b::l,acc,h=>by simp only[YaE,Yf]at h;(have hb:Lib.digitVal b=some (b.toNat-48):=by have:=h.1;unfold dgt at this;simp only[Yf,Yl]at this;unfold Lib.digitVal;rw[Yt this]);obtain⟨m,hm⟩:=ZdQ l (acc*10+(b.toNat-48)) h.2;exact⟨m,by unfold Lib.decFrom;rw[hb];exact hm⟩
def ZiG{s:List UInt8}(h:Zb4 s=true):0<(Zbp s).length/\(Zbp s).length<=9/\s.length<=10/\(Zbp s).all dgt=true:=by unfold Zb4 at h;rw[Yf]at h;obtain⟨h1,h2⟩:=h;(have hb':ZdF s=false:=by simpa using h1);unfold ZdF at hb';simp at hb';have h3:=YaJ.2 hb'.1.1;(have h4:s.length<=(Zbp s).length+1:=by unfold Zbp Lib.trimPrefix;split<;>simp;omega);exact⟨h3,Kc,Kc,h2⟩
def Zry{s:List UInt8}(h:Zb4 s=true):Lib.atoi s=some (ZlA s):=by obtain⟨h1,h2,h3,h4⟩:=ZiG h;(have:∃n,Lib.atoi s=some n:=by(cases s with|nil=>exact absurd h1 (by simp[Zbp,Lib.trimPrefix])|cons b r=>unfold Lib.atoi;by_cases hb:b=45;{subst hb;(have hd:Zbp (45::r)=r:=by simp[Zbp,Lib.trimPrefix,Lib.hasPrefix]);rw[hd]at h1 h4;obtain⟨m,hm⟩:=ZdQ r 0 h4;(have:r.isEmpty=false:=by cases r<;>simp at h1|-);simp[Lib.decNat,this,hm]};{(have hd:Zbp (b::r)=b::r:=by have:(45:UInt8)≠b:=fun e=>hb e.symm;simp[Zbp,Lib.trimPrefix,Lib.hasPrefix,this]);rw[hd]at h4;obtain⟨m,hm⟩:=ZdQ (b::r) 0 h4;(have h43:b≠43:=by rintro rfl;simp[dgt]at h4);simp[Lib.decNat,hb,h43,hm]}));obtain⟨n,hn⟩:=this;unfold ZlA;rw[Yt h,hn];rfl
def ZvQ{s:List UInt8}(hs:s.length<=1000):Fq 158 [.c (.str s)] (.tup [iv (ZlA s),.c (.bool (Zb4 s))]):=by
 have hm:=vM;have hdl:(Zbp s).length<=s.length:=by unfold Zbp Lib.trimPrefix;split<;>simp
 refine vE ZBV.h fun C hP hN hC hL=>?_
 simp only[ZBV];refine vR ?_;(refine Zal (ZzN s [45]) ?_;refine vS ?_);rw[show Lib.trimPrefix s [45]=Zbp s from rfl];refine⟨fun h=>⟨h,Yar 0,by simp at h;have:=YaJ.2 h.1;omega⟩,fun h=>⟨h,fun h2=>⟨h,by simp[h2]⟩⟩,fun h=>⟨h,fun h2=>⟨h,h2⟩⟩,fun h=>by rw[h];rfl,?_⟩;refine Zav (σ':=⟨upd (upd (upd (upd (upd e0 0 (.c (.str s))) 4 (.c (.str (Zbp s)))) 32 (.c (.bool (ZdF s)))) 2 (iv 0)) 3 (.c (.bool false)),o0⟩) (Zaf (by simp only[go_sem];exact vEr) (by simp only[go_sem];exact Zaa)) ?_;by_cases hb:ZdF s=true
 ·have hok:Zb4 s=false:=by unfold Zb4;rw[hb];rfl
  have hv:ZlA s=0:=by unfold ZlA;rw[hok];rfl
  rw[hok,hv];refine vR ?_;refine vC ?_ ?_<;>intro h
  ·exact vUt
  ·rw[hb]at h;cases h
 ·have hb':ZdF s=false:=by simpa using hb
  have hd9:(Zbp s).length<=9:=by
   unfold ZdF at hb';simp at hb';omega
  have hd0:0<(Zbp s).length:=by
   unfold ZdF at hb';simp at hb';exact YaJ.2 hb'.1.1
  refine vR ?_;refine vC ?_ ?_<;>intro h
  ·exact absurd h hb
  refine vR ?_;refine ZaE (fun k:Nat=>⟨upd (upd (upd (upd (upd (upd e0 0 (.c (.str s))) 4 (.c (.str (Zbp s)))) 2 (iv 0)) 3 (.c (.bool false))) 34 (iv (Zbp s).length)) 35 (iv k),o0⟩) (fun k=>k<=(Zbp s).length/\((Zbp s).take k).all dgt=true) (fun k=>(Zbp s).length-k) 0 ⟨YC _,rfl⟩ ?_ ?_
  ·exact Zak
  rintro k ⟨hk,hr⟩;refine vR ?_;refine vC ?_ ?_<;>intro h
  ·have hi:k<(Zbp s).length:=by simpa using h
   have hw:=vw (n:=(k:Int)+1);have hts:=ZcJ dgt (Zbp s) k hi;rw[hr,YV]at hts;have hfail:dgt ((Zbp s).getD k 0)=false->Zb4 s=false:=fun h=>by
    unfold Zb4;have:(Zbp s).all dgt=false:=by
     cases hx:(Zbp s).all dgt with
     |false=>rfl
     |true=>
      have:=Yn.1 hx ((Zbp s).getD k 0) (by rw[Yb,Yd hi];exact Yv hi);rw[h]at this;cases this
    rw[this,Yai]
   (repeat(refine vV ?_;(try simp only[go_sem,hP,Yr]);refine vQ ?_))
   by_cases hdg:dgt ((Zbp s).getD k 0)=true
   ·rw[hdg]at hts;unfold dgt at hdg;simp only[Yf,Yl]at hdg;generalize(Zbp s).getD k 0=z at hdg|-;refine vC ?_ ?_<;>intro h
    ·simp at h;omega
    refine vW hw ?_;refine⟨k+1,⟨Kc,hts⟩,Kc,?_⟩;exact Zak
   ·have hdg':dgt ((Zbp s).getD k 0)=false:=by simpa using hdg
    have hok:=hfail hdg';have hv:ZlA s=0:=by unfold ZlA;rw[hok];rfl
    rw[hok,hv];unfold dgt at hdg';simp only[YbM,Yax]at hdg';generalize(Zbp s).getD k 0=z at hdg'|-;refine vC ?_ ?_<;>intro h
    ·exact vUt
    ·simp at h;omega
  ·have hkl:k=(Zbp s).length:=by
    have:¬(k<(Zbp s).length):=by simpa using h
    omega
   subst hkl;rw[YL]at hr;have hok:Zb4 s=true:=by unfold Zb4;rw[hb',hr];rfl
   have h10:=ZiG hok;rw[hok];refine vR ?_;(refine Zal (ZxT Kc (Zry hok)) ?_;refine vS ?_);refine vR ?_;refine ZaS ?_;simp only[go_sem,hP];(repeat'(refine And.intro ?_ ?_));all_goals(
    refine Zzo Ka rfl rfl rfl ?_;simp only[go_sem,hP];(try(refine⟨?_,?_⟩<;>first|trivial|skip));all_goals(try((refine vT ?_;try exact trivial))))
def ZBE:Cz [13] 126:=ec [(2,561,[.b [] [.l [0,1,2,3,4,5,6,7,8,9],.b [1] [.l [0,2,3,4,5,6,7,8,9],.b [2] [.l [0,3,4,5,6,7,8,9],.l [3,0,4,5,6,7,8,9]]]]])]
structure Wd where
 many:Int
 t:Nat
 f:Nat
 cap:Option Nat
def Wd.caps(e:Wd)(q:Nat->Nat):List Value:=match e.cap with|none=>[]|some i=>[Zf5 (q i) 0]
def Wd.v(e:Wd)(q:Nat->Nat):Value:=.iface e.t (fnV e.f (e.caps q))
def Ze3:List (List UInt8×Wd):=[
 ([99,111,105,110],⟨1,206,176,none⟩),
 ([109,97,114,107],⟨1,206,178,none⟩),
 ([115,108,117,103],⟨1,206,179,none⟩),
 ([112,114,101,115,115],⟨2,206,180,none⟩),
 ([108,111,115,101],⟨1,206,181,none⟩),
 ([115,107,105,112,115],⟨1,206,182,none⟩),
 ([101,109,112,116,121],⟨0,206,183,none⟩),
 ([115,116,97,110,100],⟨0,204,184,none⟩),
 ([103,105,118,101,115],⟨1,204,185,none⟩),
 ([99,104,101,97,112,101,115,116],⟨1,204,186,none⟩),
 ([119,97,105,116],⟨1,204,187,none⟩),
 ([108,111,110,103,101,115,116],⟨0,204,217,some 0⟩),
 ([101,110,100],⟨0,204,217,some 1⟩),
 ([97,116],⟨1,204,189,none⟩),
 ([108,97,116,101,115,116],⟨2,204,190,none⟩),
 ([115,111,111,110,101,115,116],⟨0,204,217,some 2⟩),
 ([99,97,115,104],⟨0,204,192,none⟩),
 ([99,97,110],⟨0,204,219,some 3⟩),
 ([109,105,115,115,105,110,103],⟨0,204,220,some 4⟩),
 ([119,104,105,99,104],⟨0,204,219,some 5⟩),
 ([115,107,105,112,112,101,100],⟨0,204,220,some 6⟩),
 ([115,104,111,114,116],⟨0,204,220,some 7⟩)]
def Za9(k:List UInt8):Option Wd:=(Ze3.find? fun p=>p.1==k).map (·.2)
def Zug(q:Nat->Nat):ZAb q=Ze3.map fun p=>(p.1,.agg #[.int .i64 p.2.many,p.2.v q]):=rfl
def ZmW(g:Wd->Value)(k:List UInt8):∀l:List (List UInt8×Wd),Zge (l.map fun p=>(p.1,g p.2)) k=((l.find? fun p=>p.1==k).map (·.2)).map g
 |[]=>rfl
 |p::l=>by(have ih:=ZmW g k l;unfold Zge at ih|-;simp only[Ye,List.find?_cons];cases h:(p.1==k)with|true=>rfl|false=>exact ih)
def ZtY(q:Nat->Nat)(k:List UInt8):Zge (ZAb q) k=(Za9 k).map fun e=> .agg #[.int .i64 e.many,e.v q]:=by rw[Zug];exact ZmW (fun e=> .agg #[.int .i64 e.many,e.v q]) k Ze3
def wM(k:List UInt8):Int:=match Za9 k with|some e=>e.many|none=>0
def wV(q:Nat->Nat)(k:List UInt8):Value:=match Za9 k with|some e=>e.v q|none=> .nilIface
def ZC9(q:Nat->Nat)(k:List UInt8):(wV q k).oneCell'=true:=by unfold wV;split<;>rfl
def ZGI(q:Nat->Nat)(k:List UInt8)(w:World)(M:Cells)(loc:Nat->Value):RepA w M loc (.agg [iv (wM k),.c (.raw (wV q k))]) ((Zge (ZAb q) k).getD (.agg #[.int .i64 0,.nilIface])):=by have h1:=ZC9 q k;rw[ZtY];simp only[RepA,RepAs,RepC];refine⟨[.int .i64 (wM k),wV q k],?_,_,_,rfl,rfl,_,_,rfl,⟨rfl,h1⟩,rfl⟩;unfold wM wV;cases Za9 k<;>rfl
def ZGG(q:Nat->Nat):List Ob:=[vbox (fnV 26 []) (q 0),vbox (fnV 27 []) (q 1),vbox (fnV 191 []) (q 2),vbox (fnV 31 []) (q 3),vbox (fnV 32 []) (q 4),vbox (fnV 33 []) (q 5),vbox (fnV 34 []) (q 6),vbox (fnV 35 []) (q 7)]
def ZwE(q:Nat->Nat):∀p∈ZAb q,p.1.length<=maxLen:=by intro p hp;rw[Zug]at hp;obtain⟨x,hx,rfl⟩:=Ys.1 hp;have h:(Ze3.all fun p=>decide (p.1.length<=100))=true:=rfl;have:=YY (Yn.1 h x hx);exact YaP this Kb
def Zkm(sep:List UInt8):∀(k:Nat)(s w:List UInt8),w∈Lib.splitK sep 0 k s->w.length<=s.length
 |0,s,w,h=>by simp only[Lib.splitK,Yk]at h;rw[h];exact Yi _
 |k+1,s,w,h=>by unfold Lib.splitK at h;split at h;{simp only[Yk]at h;rw[h];exact Yi _};{rcases YF.1 h with h|h;{rw[h,Y4];omega};{have:=Zkm sep k _ w h;rw[Yac]at this;omega}}
def ZkW{s w:List UInt8}(h:w∈Zhm s):w.length<=s.length:=Zkm _ _ _ _ h
def ZkV(s:List UInt8):∃w args,Zhm s=w::args:=by(unfold Zhm Lib.split;cases Lib.count s [32]with|zero=>exact⟨_,_,rfl⟩|succ k=>unfold Lib.splitK;split;{exact⟨_,_,rfl⟩};{exact⟨_,_,rfl⟩})
def ZEX(w:List UInt8):0<=wM w/\wM w<=2:=by(unfold wM Za9;cases h:Ze3.find? fun p=>p.1==w with|none=>simp|some p=>have h2:(Ze3.all fun p=>decide (0<=p.2.many)&&decide (p.2.many<=2))=true:=rfl;have:=Yn.1 h2 p (Yap h);simpa using this)
def Zul(q:Nat->Nat)(o:Nat->Ob):Nat->Ob:=upd (upd (upd (upd (upd (upd (upd (upd o 101 (vbox (fnV 26 []) (q 0))) 102 (vbox (fnV 27 []) (q 1))) 103 (vbox (fnV 191 []) (q 2))) 104 (vbox (fnV 31 []) (q 3))) 105 (vbox (fnV 32 []) (q 4))) 106 (vbox (fnV 33 []) (q 5))) 107 (vbox (fnV 34 []) (q 6))) 108 (vbox (fnV 35 []) (q 7))
def Zlx{l:List (List UInt8)}{k:Nat}{d:List CD}(h:k<l.length):(l.map fun x=>[CD.str x]).getD k d=[CD.str (l.getD k [])]:=by rw[Yb,Y0,Yd h,Yb,Yd h];rfl
def ZaA(s:List UInt8):Option (List UInt8×List Int):=match Zhm s with
 |[]=>none
 |w::args=>match Za9 w with
  |none=>none
  |some e=>if(args.length:Int)=e.many/\args.all Zb4=true then some (w,args.map ZlA)else none
def Zb6(s:List UInt8)(r:AV)(os:List Ob):Prop:=match ZaA s with
 |some (w,ns)=>∃(q:Nat->Nat)(e:Wd),Za9 w=some e/\r= .tup [.agg [iv e.many,.c (.raw (e.v q))],.c (Zai ns),.c (.bool true)]/\os=ZGG q
 |none=>∃(m:Int)(v:Value),r= .tup [.agg [iv m,.c (.raw v)],.c (.raw (.slice none 0 0)),.c (.bool false)]/\os=[]
def ZeP{s w:List UInt8}{args:List (List UInt8)}(hc:Zhm s=w::args)(h:Za9 w=none\/(args.length:Int)≠wM w\/args.all Zb4=false):ZaA s=none:=by
 unfold ZaA;rw[hc];simp only;unfold wM at h;cases hw:Za9 w with
 |none=>rfl
 |some e=>rw[hw]at h;simp only at h|-;rw[Yx];rintro⟨h1,h2⟩;rcases h with h|h|h;{cases h};{exact h h1};{rw[h2]at h;cases h}
def parse53{s:List UInt8}(hs:s.length<=1000):Fn 126 [.c (.str s)] (Zb6 s):=by
 obtain⟨w,args,hc⟩:=ZkV s;have hm:=vM;have hwl:w.length<=maxLen:=by have:=ZkW (s:=s) (w:=w) (by rw[hc];exact YbJ ..);omega
 have hsp:=ZzG (s:=s) Kc;rw[hc]at hsp;refine ZaL ZBE.h (Yi _) Kb fun C hP hN hC hL=>?_;rw[Zbh]
 simp only[ZBE];refine vR ?_;(refine Zal (hsp) ?_;simp only[go_sem,hP,Zaw];refine vQ ?_;(repeat(refine vV ?_;(try simp only[go_sem,hP,Zaw]);refine vQ ?_)));refine ZcB (fun σ'=>∃q:Nat->Nat,Sub σ' ⟨upd (upd (upd (upd e0 2 (.bp 2 0)) 3 (.c (.raw (.slice none 0 0)))) 4 (.c (.bool (Za9 w).isSome))) 5 (.c (Zaw (w::args))),upd (Zul q o0) 2 (.box [iv (wM w),.c (.raw (wV q w))])⟩) ?_ ?_
 ·refine ZaS ?_;simp only[go_sem,hP];(repeat'(refine And.intro ?_ ?_));all_goals(first|exact Yar 0|exact Nat.one_pos|exact Int.natCast_pos.2 (Nat.succ_pos _)|skip)
  all_goals(
   refine ZaK words67 rfl rfl rfl rfl ?_;rintro r os ⟨b,q,rfl,rfl⟩;refine⟨[100,101,102,103,104,105,106,107,108],_,_,Kd,rfl,rfl,rfl,rfl,?_⟩;simp only[go_sem,hP,Zae];(repeat'(refine And.intro ?_ ?_));all_goals(first|exact Yar 0|exact Nat.one_pos|exact Int.natCast_pos.2 (Nat.succ_pos _)|skip)
   refine Zv8 (n:=100) (k:=9) (e:=200) (key:=w) (l:=ZAb q) (z:=.agg #[.int .i64 0,.nilIface]) (vr:=.agg [iv (wM w),.c (.raw (wV q w))]) Ka Ka Ka rfl rfl rfl rfl rfl rfl rfl hwl (ZwE q) (ZGI q w) ?_;rw[ZtY,YbQ];simp only[go_sem,hP];refine⟨q,Zaf ?_ ?_⟩
   ·unfold Zaw;simp only[go_sem];exact Zaj
   ·unfold Zul;simp only[go_sem];exact Zaa)
 ·rintro σ' ⟨q,hsub⟩;refine Zav hsub ?_;unfold Zul;have hM:=ZEX w;have hw1:=vw (n:=wM w+1);(repeat(refine vV ?_;(try simp only[go_sem,hP,Zaw,Yc,hw1]);refine vQ ?_));refine Zav (σ':=⟨upd (upd (upd (upd e0 2 (.bp 2 0)) 3 (.c (.raw (.slice none 0 0)))) 5 (.c (Zaw (w::args)))) 29 (.c (.bool (!(Za9 w).isSome||(((args.length+1:Nat):Int) !=wM w+1)))),upd (Zul q o0) 2 (.box [iv (wM w),.c (.raw (wV q w))])⟩) (Zaf (by unfold Zaw;simp only[go_sem];exact Zaj) (by unfold Zul;simp only[go_sem];exact Zaa)) ?_;by_cases hbad:Za9 w=none\/(args.length:Int)≠wM w
  ·have hpn:ZaA s=none:=ZeP hc (hbad.imp id .inl);have hv:(!(Za9 w).isSome||(((args.length+1:Nat):Int) !=wM w+1))=true:=by
    rcases hbad with h|h
    ·rw[h];rfl
    ·simp only[Yae,Yc5,ne_eq];right;omega
   rw[hv];refine vC ?_ ?_<;>intro h
   ·refine vR ?_;(refine Zas ?_;simp only[Zaz,inQ,Zbk,ZaN,Zaq,ZbJ];simp only[go_sem,Zbu]);refine⟨[],_,_,_,Kd,Kd,rfl,AVle.refl _,rfl,?_⟩;unfold Zb6;rw[hpn];exact⟨_,_,rfl,rfl⟩
   ·cases h
  ·obtain⟨hn1,hn2⟩:=Ydb.1 hbad;have hn2:(args.length:Int)=wM w:=by omega
   obtain⟨e,he⟩:=Option.ne_none_iff_exists'.1 hn1;have hv:(!(Za9 w).isSome||(((args.length+1:Nat):Int) !=wM w+1))=false:=by
    rw[he,<-hn2];simp
   rw[hv];refine vC ?_ ?_<;>intro h
   ·cases h
   ·(repeat(refine vV ?_;(try simp only[go_sem,hP,Zaw,Yc,Ye]);refine vQ ?_))
    have hdr:List.drop (Int.toNat 1) (List.take (((args.length+1:Nat):Int)).toNat ([CD.str w]::args.map fun x=>[CD.str x]))=args.map fun x=>[CD.str x]:=by
     rw[Yr,Y8,show Int.toNat 1=1 from rfl,YaI,Yat,YG Kd]
    rw[hdr,Yc];refine Zav (σ':=⟨upd (upd (upd (upd (upd e0 2 (.bp 2 0)) 3 (.c (.raw (.slice none 0 0)))) 32 (.c (Zaw args))) 33 (iv args.length)) 34 (iv 0),upd (Zul q o0) 2 (.box [iv (wM w),.c (.raw (wV q w))])⟩) (Zaf (by unfold Zaw;simp only[go_sem];exact Zaj) (by simp only[go_sem];exact Zaa)) ?_;refine Zbn 3 49 3 1 Kb Kb rfl rfl ?_;unfold Zul;simp only[go_sem];refine ZaE (fun k:Nat=>⟨upd (upd (upd (upd (upd e0 2 (.bp 2 0)) 32 (.c (Zaw args))) 33 (iv args.length)) 34 (iv k)) 3 (.gr 49),upd (upd (Zul q o0) 2 (.box [iv (wM w),.c (.raw (wV q w))])) 49 (.grow 3 1 (((args.take k).map ZlA).map fun n=>[CD.int .i64 n]))⟩) (fun k=>k<=args.length/\(args.take k).all Zb4=true) (fun k=>args.length-k) 0 ⟨YC _,rfl⟩ ?_ ?_
    ·refine Zaf (by simp only[go_sem];exact Zaj) (by unfold Zul;simp only[Yaz,Yg];simp only[go_sem];exact Zaa)
    rintro k ⟨hk,hr⟩;unfold Zul;refine vR ?_;refine vC ?_ ?_<;>intro h
    ·have hi:k<args.length:=by simpa using h
     have hwk:=vw (n:=(k:Int)+1);have hg:=Zlx (l:=args) (k:=k) (d:=[]) hi;have hxm:args.getD k []∈args:=by rw[Yb,Yd hi];exact Yv hi
     have hxl:(args.getD k []).length<=1000:=by have:=ZkW (s:=s) (w:=args.getD k []) (by rw[hc];exact Ya6 _ hxm);omega
     have htk:args.take (k+1)=args.take k++[args.getD k []]:=by rw[Yq hi,Yb,Yd hi];rfl
     have htl:(args.take k).length=k:=by rw[Y4];omega
     generalize args.getD k []=x at hg hxm hxl htk;(repeat(refine vV ?_;(try simp only[go_sem,hP,Zaw,hg,Yc,Yr]);refine vQ ?_));(refine Zal (ZvQ hxl) ?_;refine vX2 (vA hwk htl) ?_)
     by_cases hok:Zb4 x=true
     ·refine vC ?_ ?_<;>intro h
      ·rw[hok]at h;cases h
      ·refine vW2 (vA hwk htl) ?_;refine⟨k+1,⟨Kc,by rw[htk,YcJ,hr];simp[hok]⟩,Kc,?_⟩;rw[htk,Yy,Yy];refine Zaf (by simp only[go_sem];exact Zaj) (by simp only[go_sem];exact Zaa)
     ·have hok:Zb4 x=false:=by simpa using hok
      have hall:args.all Zb4=false:=by
       cases hx:args.all Zb4 with
       |false=>rfl
       |true=>have:=Yn.1 hx x hxm;rw[hok]at this;cases this
      have hpn:ZaA s=none:=ZeP hc (.inr (.inr hall));refine vC ?_ ?_<;>intro h
      ·refine vR ?_;(refine Zas ?_;simp only[Zaz,inQ,Zbk,ZaN,Zaq,ZbJ];simp only[go_sem,Zbu]);refine⟨[],_,_,_,Kd,Kd,rfl,AVle.refl _,rfl,?_⟩;unfold Zb6;rw[hpn];exact⟨_,_,rfl,rfl⟩
      ·rw[hok]at h;simp at h
    ·have hkl:k=args.length:=by
      have:¬(k<args.length):=by simpa using h
      omega
     subst hkl;rw[YL]at hr;have hps:ZaA s=some (w,args.map ZlA):=by
      unfold ZaA;rw[hc];simp only;rw[he];simp only;rw[Yt ⟨by rw[hn2];unfold wM;rw[he],hr⟩]
     (repeat(refine vV ?_;(try simp only[go_sem,hP,YL]);refine vQ ?_))
     (refine Zas ?_;simp only[Zaz,inQ,Zbk,ZaN,Zaq,ZbJ];simp only[go_sem,Zbu,YL])
     refine⟨[101,102,103,104,105,106,107,108],_,_,_,Kd,Kd,rfl,AVle.refl _,rfl,?_⟩;unfold Zb6;rw[hps];refine⟨q,e,he,?_,rfl⟩;have hm1:wM w=e.many:=by unfold wM;rw[he]
     have hv1:wV q w=e.v q:=by unfold wV;rw[he]
     rw[hm1,hv1];rfl
variable{tb:Obj}
def Zzu:Ren:=⟨fun|171=>159|243=>197|246=>224|283=>247|284=>248|285=>249|286=>250|129=>212|317=>264|318=>265|319=>266|320=>267|337=>272|338=>273|n=>n,
 fun|171=>300|53=>272|37=>100|173=>302|212=>316|51=>270|213=>317|46=>245|232=>328|233=>329|n=>n,
 fun|17=>3|18=>6|19=>7|n=>n⟩
def ZtE:Ren:=⟨fun|156=>160|165=>198|166=>199|169=>200|240=>225|241=>226|276=>251|277=>252|n=>n,
 fun|31=>35|72=>260|76=>256|70=>258|37=>100|75=>255|127=>281|164=>304|80=>261|n=>n,
 fun x=>x⟩
def ZsC:LaysM.n171 Tryz.prog Zzu:=by constructor<;>first|kernel_rfl|(intro w;kernel_rfl)|(constructor<;>first|kernel_rfl|(intro w;kernel_rfl))
def ZnK:Lays.n156 Tryz.prog ZtE:=by constructor<;>first|kernel_rfl|(intro w;kernel_rfl)
def ZGF(tb:Obj)(rem:List Ent)(L:List Nat)(_:Nat->Nat->Prop)(w:World):Prop:=
 rem=[]/\L=[3]/\w.heap[3]? =some tb/\∃ty fr,tb= .cells (Lib.pow10Tab.map (Value.int .u64)).toArray ty fr
def ZGa(tb:Obj):Gst:=⟨.bool false,ZGF tb⟩
def tabO(tb:Obj):Ob:=.guest (ZGa tb) []
def ZzM(P:Program)(tb:Obj):(ZGa tb).Ok P:=by refine⟨rfl,?_,?_⟩;{rintro rem L M w M' w' ⟨h1,h2,h3⟩ hk hb hs;exact⟨h1,h2,by rw[hb 3 (by rw[h2];simp)];exact h3⟩};{rintro args wins r rem L M w loc vs ⟨h1,_⟩;cases h1}
attribute [go_sem] tabO
def ZCj{n:Int}(h0:-9223372036854775808<=n)(h1:n<=9223372036854775807):Fl 159 [iv n] [(tabO tb)] [] (fun r l'=>r= .c (.str (Lib.itoa n))/\l'=[(tabO tb)]):=by refine ZhJ (ZcU ZsC.f171 Ka Ka) (YT rfl) fun w M loc vs hLO hrep=>?_;have h2:ObOk Tryz.prog (fun _=>True) w (AddM M _ loc) loc (loc 1000) (tabO tb):=hLO.objs 1000;obtain⟨_,L,_,⟨_,_,hb,ty,fr,rfl⟩,_⟩:=h2;simp only[RepAs,RepA,RepC]at hrep;obtain⟨_,_,rfl,rfl,rfl⟩:=hrep;(have htab:Lib.TabIs Tryz.prog w "internal/strconv.uint64pow10" .u64 Lib.pow10Tab:=by unfold Lib.TabIs World.var?;rw [show Tryz.prog.globalNamed "internal/strconv.uint64pow10" = some 3 by kernel_rfl];simp[hb]);refine(show Calls Tryz.prog 159 _ w _ from Any.strconv_Itoa ZsC n h0 h1 w htab).mono ?_;rintro e w' ⟨rfl,k,os,rfl⟩;exact⟨_,_,rfl,rfl,Lib.below_grow _ _ (Yi _) _ _,fun M' _=>by simp only[RepA,RepC]⟩
def ZF3:Builder.Extra Tryz.prog ZtE:=by constructor<;>first|kernel_rfl|(intro w;kernel_rfl)|decide|(constructor<;>first|kernel_rfl|(intro w;kernel_rfl))
def Zg6{w:World}{M:Cells}{loc:Nat->Value}:∀(l:List (List UInt8))(vs:List Value),RepAs w M loc (l.map fun s=> .c (.str s)) vs->vs=l.map sv
 |[],vs,h=>by simpa [RepAs]using h
 |s::l,vs,h=>by simp only[Ye,RepAs,RepA,RepC]at h;obtain⟨v,vs',rfl,rfl,h⟩:=h;rw[Zg6 l vs' h];rfl
def ZCk{xs:List (List UInt8)}(hN:xs.length<=1000000)(hlen:(Lib.join xs [32]).length<=140737488355328):Fq 160 [.c (Zaw xs),.c (.str [32])] (.c (.str (Lib.join xs [32]))):=by
 refine⟨ZcU ZnK.f156 Ka Ka,fun w M vs hM hr=>?_⟩;simp only[RepAs,RepA,RepC,Zaw]at hr;obtain⟨_,_,rfl,⟨A,cap,rfl,hcap,hmax,hA⟩,_,_,rfl,rfl,rfl⟩:=hr;rw[Yc]at hcap|-;cases hx:xs with
 |nil=>
  refine(show Calls Tryz.prog 160 _ w _ from Any.strings_Join_none ZnK ZF3 A cap ⟨#[32]⟩ w).mono ?_;rintro e w' ⟨rfl,rfl⟩;exact⟨_,rfl,by simp only[RepA,RepC];rfl,Below.refl _ _⟩
 |cons x0 r=>
  rw[<-hx];rcases hA with h|⟨ad,rfl,hE⟩
  ·rw[hx]at h;cases h
  obtain⟨l,k1,k2,k3,k4⟩:=RepE.vals (loc:=fun _=>undef) _ _ hE;rw[Zip]at k3;have hl:=Zg6 _ _ k3;subst hl;have h0:=k2 0 (sv x0) (by rw[hx];rfl);have hsp:ad.spot=none:=by
   unfold World.cell? at h0;split at h0
   ·split at h0
    ·cases h0
    ·rename_i h;cases hs:(ad.add 0).spot with
     |none=>exact hs
     |some q=>rw[hs]at h;exact absurd rfl h
   ·cases h0
  obtain⟨bk,o,sp⟩:=ad;simp only at hsp;subst hsp;have hm:(xs.map fun s=>(⟨s.toArray⟩:ByteArray)).map (·.data.toList)=xs:=by
   rw[Ya0];exact(Yal fun s _=>rfl).trans (List.map_id xs)
  have c:=Any.strings_Join ZnK ZF3 bk o cap (xs.map fun s => (⟨s.toArray⟩ : ByteArray)) ⟨#[32]⟩ w (fun j x hj =>by
   rw[Y0]at hj;cases hxj:xs[j]? with
   |none=>rw[hxj]at hj;cases hj
   |some s=>
    rw[hxj]at hj;simp only[YR,Ya]at hj;subst hj;have:=k2 j (sv s) (by rw[Y0,hxj];rfl);rw[ZfG]at this;exact this) (Zbx (p:=⟨bk,o,none⟩) (by rw[show w.cell? ⟨bk,o,none⟩=some (sv x0)from h0];rfl)) (by rw[Yc];omega) (by rw[Yc];exact hcap) (by rw[hm];exact hlen)
  rw[hm,Yc]at c;refine(show Calls Tryz.prog 160 _ w _ from c).mono ?_;rintro e w' ⟨rfl,hb⟩;exact⟨_,rfl,by simp only[RepA,RepC],hb⟩
def ZBF:Cz [] 127:=ec
def Zgl:List UInt8:=[121,101,115]
def noS:List UInt8:=[110,111]
def ZCr:List UInt8:=[110,111,110,101]
def ZwI:List UInt8:=[119,104,97,116]
def Zjh(l:List Int)(e:Int):List UInt8:=if e=3\/(e=0/\l=[])then ZCr else if e≠0 then noS else Lib.join (l.map Lib.itoa) [32]
def i64(n:Int):Prop:=-9223372036854775808<=n/\n<=9223372036854775807
def Zqr:∀(l:List Int),(∀n∈l,i64 n)->(Lib.join (l.map Lib.itoa) [32]).length<=22*l.length
 |[],_=>by simp[Lib.join_nil]
 |n::l,h=>by
  rw[Ye,Lib.join_length];have hl:∀l:List Int,(∀n∈l,i64 n)->Lib.lens (l.map Lib.itoa)<=21*l.length:=by
   intro l h;induction l with
   |nil=>simp[Lib.lens]
   |cons n l ih=>have h1:=Lib.itoa_length_le n (h n Kd).1 (h n Kd).2;have h2:=ih fun m hm=>h m (by simp[hm]);simp only[Lib.lens,Ye,YaF,Yo]at h2|-;omega
  have:=hl (n::l) h;simp only[Ye,Yo,YI,Yc]at this|-;omega
def Zow{l:List Int}(hl:l.length<=10000)(hr:∀n∈l,i64 n)(e:Int):Fl 127 [.c (Zai l),iv e] [(tabO tb)] [] (fun r l'=>r= .c (.str (Zjh l e))/\l'=[(tabO tb)]):=by have hm:=vM;refine vF ZBF.h fun C hP hN hC hL=>?_;simp only[ZBF,Zbj,ZaB,Yg,Ye,Nat.reduceAdd,];refine vR0 ?_;refine Zav (σ':=⟨upd (upd (upd (upd e0 0 (.c (Zai l))) 1 (iv e)) 4 (.c (.str []))) 8 (.c (.bool (e==3||e==0&&(l.length:Int)==0))),upd o0 1000 (tabO tb)⟩) (Zaf (by unfold Zai;simp only[go_sem];exact Zaj) (by simp only[go_sem];exact Zaa)) ?_;by_cases h1:e=3\/(e=0/\l=[]);{have ha:Zjh l e=ZCr:=Yt h1;(have hv:(e==3||e==0&&(l.length:Int)==0)=true:=by rcases h1 with h|⟨h,h'⟩;{rw[h];rfl};{rw[h,h'];rfl});rw[ha,hv];refine vC ?_ ?_<;>intro h;{refine vR ?_;(refine vL ?_;refine⟨_,[(tabO tb)],rfl,Zab rfl rfl ?_ ?_ rfl,?_⟩);{exact vK};{trivial};{exact⟨rfl,rfl⟩}};{cases h}};{(have hv:(e==3||e==0&&(l.length:Int)==0)=false:=by(cases hx:(e==3||e==0&&(l.length:Int)==0)with|false=>rfl|true=>simp at hx;exact absurd hx h1));rw[hv];refine vC ?_ ?_<;>intro h;{cases h};{refine vR ?_;by_cases h2:e=0;{(have ha:Zjh l e=Lib.join (l.map Lib.itoa) [32]:=by unfold Zjh;rw[Yx h1,Yx (by simpa using h2)]);rw[ha];refine vC ?_ ?_<;>intro h;{rw[h2]at h;simp at h};{refine vR0 ?_;refine Zbn 5 33 9 1 Kb Kb rfl rfl ?_;simp only[go_sem];refine ZaE (fun k:Nat=>⟨upd (upd (upd (upd (upd e0 4 (.c (.str []))) 23 (.c (Zai l))) 24 (iv l.length)) 25 (iv k)) 5 (.gr 33),upd (upd o0 1000 (tabO tb)) 33 (.grow 9 1 (((l.take k).map Lib.itoa).map fun x=>[CD.str x]))⟩) (fun k=>k<=l.length) (fun k=>l.length-k) 0 (YC _) ?_ ?_;{refine Zaf (by unfold Zai;simp only[go_sem];exact Zaj) (by simp only[Yaz,Yg];simp only[go_sem];exact Zaa)};intro k hk;refine vR0 ?_;refine vC ?_ ?_<;>intro h;{(have hi:k<l.length:=by simpa using h);have hwk:=vw (n:=(k:Int)+1);have hg:=Zau (l:=l) (i:=k) hi;(have htk:l.take (k+1)=l.take k++[l.getD k 0]:=by rw[Yq hi,Yb,Yd hi];rfl);(have htl:(l.take k).length=k:=by rw[Y4];omega);have hxr:=hr (l.getD k 0) (by rw[Yb,Yd hi];exact Yv hi);generalize l.getD k 0=x at hg hxr htk;refine vW1 hg ?_;refine Zah [1000] (ZCj hxr.1 hxr.2) rfl rfl rfl Kb rfl rfl ?_;rintro r l' ⟨rfl,rfl⟩;refine⟨_,_,rfl,rfl,?_⟩;simp only[go_sem,hP,Zae,htl,Yc];refine vQ ?_;refine vW2 (vA hwk htl) ?_;refine⟨k+1,Kc,Kc,?_⟩;rw[htk,Yy,Yy];refine Zaf (by simp only[go_sem];exact Zaj) (by simp only[go_sem];exact Zaa)};{(have hkl:k=l.length:=by(have:¬(k<l.length):=by simpa using h);omega);subst hkl;have hb:=Zqr l hr;refine vR ?_;rw[YL];(refine Zal (ZCk (xs:=l.map Lib.itoa) (by rw[Yc];omega) Kc) ?_;refine vS ?_);refine vR ?_;(refine vL ?_;refine⟨_,[(tabO tb)],rfl,Zab rfl rfl ?_ ?_ rfl,?_⟩);{exact vK};{trivial};{exact⟨rfl,rfl⟩}}}};{(have ha:Zjh l e=noS:=by unfold Zjh;rw[Yx h1,Yt h2]);rw[ha];refine vC ?_ ?_<;>intro h;{refine vR ?_;(refine vL ?_;refine⟨_,[(tabO tb)],rfl,Zab rfl rfl ?_ ?_ rfl,?_⟩);{exact vK};{trivial};{exact⟨rfl,rfl⟩}};{simp at h;exact absurd h h2}}}}
def ZFv:Cz [] 55:=ec [(6,3072,[]),(8,384,[])]
abbrev ZDw:List Nat:=[1]
def Zpg(b:Bx):Nat->Bool
 |0=>true
 |k+1=>Zpg b k&&Zad (b.ma.getD k 0) 0 (b.fo.getD k 0)
def ZjX{b:Bx}:∀{k m:Nat},Zpg b k=false->k<=m->Zpg b m=false
 |k,0,h,hm=>by rwa [show k=0 by omega]at h
 |k,m+1,h,hm=>by rcases YaG m k with h1|h1;{rwa [show k=m+1 by omega]at h};{simp only[Zpg,ZjX h h1,Y9]}
def Ze1(b:Bx):Bool:=whB b.wh&&ZiR b.wh b.fo&&ZiR b.wh b.sl&&(b.ma.length==b.fo.length)&&Zad b.pl 0 9999&&Zad b.sk 0 9&&Zpg b b.fo.length&&ZiR b.wh (ZbN b)
def Zuh(b:Bx):Int:=if Ze1 b then 0 else 50
def ZCJ{b:Bx}(h:Ze1 b=true):bxB b=true:=by
 simp only[Ze1,ZiR,Yf,YaX,Yl]at h;obtain⟨⟨⟨⟨⟨⟨⟨h1,h2,h2s⟩,h3,h3s⟩,h4⟩,h5⟩,h6⟩,h7⟩,h8,h8s⟩:=h;have k2:=ZaI h2;have k3:=ZaI h3;have hm:∀k,Zpg b k=true->∀i,i<k->0<=b.ma.getD i 0/\b.ma.getD i 0<=b.fo.getD i 0:=by
  intro k;induction k with
  |zero=>intro _ i hi;omega
  |succ k ih=>intro h i hi;simp only[Zpg,Yf,Zad,Yl]at h;rcases YaG i k with h9|h9;{exact ih h.1 i h9};{(obtain rfl:i=k:=by omega);exact h.2}
 (have hml:Zgq b.wh b.ma=true:=by unfold Zgq;(have e1:(b.ma.length==b.wh.co.length)=true:=by rw[YaX,h4,k2.1]);(have e2:b.ma.any Zhi=false:=by rw[YaU];intro n hn;obtain⟨i,hi,rfl⟩:=YbS.1 hn;have:=hm _ h7 i Kc;have h9:=ZaY k2.2 (k:=i) Kc;rw[Zbg hi]at this;simp[Zhi,Zad];omega);rw[e1,e2];rfl);(have hmk:∀k,k<=b.fo.length->mkK b.fo b.ma k=true:=by(intro k;induction k with|zero=>intro _;rfl|succ k ih=>intro hk;simp only[mkK,ih Kc,YV,Yl];exact(hm _ h7 k Kc).2));(have hsum:∀k,k<=b.fo.length->sumK b.fo b.sl k=((ZbN b).take k).sum:=by(intro k;induction k with|zero=>intro _;simp[sumK]|succ k ih=>intro hk;(have hp:k<(ZbN b).length:=by simp[ZbN,Zgm];omega);rw[Yq hp,Ya4,sumK,ih Kc];simp only[ZbN,Zgm,Ybx,Zbg (l:=b.fo) (k:=k) Kc,Zbg (l:=b.sl) (k:=k) Kc];simp));(have hpl:(ZbN b).length=b.fo.length:=by simp[ZbN,Zgm];omega);have hs:=hsum b.fo.length (Yi _);rw[YG Kc]at hs;unfold bxB;rw[h1,h5,h6,h2,hml,h3,hmk _ (Yi _),hs,Yaa h8s];rfl
def check8(b:Bx):Fq 55 [b.av] (iv (Zuh b)):=by
 refine vE ZFv.h fun C hP hN hC hL=>?_;simp only[ZFv,Bx.av,Bx.avs];(have hbad:Ze1 b=false->Zuh b=50:=fun h=>by unfold Zuh;rw[h];rfl);have hb0:((0:Int) !=0)=false:=rfl;have hne:((b.ma.length:Int) !=(b.fo.length:Int))= !(b.ma.length==b.fo.length):=ZDN _ _;(repeat(refine vV ?_;(try simp only[go_sem,hP,Bx.avs,Zai,Yc]);refine vQ ?_));(refine Zal (Zx4 b.wh) ?_;simp only[go_sem,hP,Wh.av,Wh.avs,Zai,Yc,hne];refine vQ ?_;(repeat(refine vV ?_;(try simp only[go_sem,hP,Wh.av,Wh.avs,Zai,Yc,hne]);refine vQ ?_)))
 by_cases h1:whB b.wh=true;case neg=>
  have h1:whB b.wh=false:=by simpa using h1
  have e0:whE b.wh=10:=by unfold whE;rw[h1];rfl
  rw[hbad (by unfold Ze1;rw[h1];rfl),e0];have hb1:((10:Int) !=0)=true:=rfl;simp only[go_sem,hb1];(refine Zay ?_;refine vS5 ?_);(refine Zay ?_;refine vS5 ?_)
  (refine Zay ?_;refine vS5 ?_)
  (refine Zay ?_;refine vS5 ?_)
  refine vC ?_ ?_<;>intro h
  ·exact vUt
  ·simp at h
 have e0:whE b.wh=0:=by unfold whE;rw[Yt h1]
 have hw:=ZdL h1;rw[e0];simp only[go_sem,hb0];(refine ZaV (fun hG=>Zll hw b.fo) ?_;simp only[go_sem,hP,Wh.av,Wh.avs,Zai,hb0,Yc,hne];refine vQ ?_;(repeat(refine vV ?_;(try simp only[go_sem,hP,Wh.av,Wh.avs,Zai,hb0,Yc,hne]);refine vQ ?_)));by_cases h2:ZiR b.wh b.fo=true;case neg=>
  have h2:ZiR b.wh b.fo=false:=by simpa using h2
  rw[hbad (by unfold Ze1;rw[h2];simp)];simp only[go_sem,h2];(refine Zay ?_;refine vS5 ?_);(refine Zay ?_;refine vS5 ?_)
  (refine Zay ?_;refine vS5 ?_)
  refine vC ?_ ?_<;>intro h
  ·exact vUt
  ·simp at h
 simp only[go_sem,h2];(refine ZaV (fun hG=>Zll hw b.sl) ?_;simp only[go_sem,hP,Wh.av,Wh.avs,Zai,hb0,h2,Yc,hne];refine vQ ?_;(repeat(refine vV ?_;(try simp only[go_sem,hP,Wh.av,Wh.avs,Zai,hb0,h2,Yc,hne]);refine vQ ?_)));by_cases h3:ZiR b.wh b.sl=true;case neg=>
  have h3:ZiR b.wh b.sl=false:=by simpa using h3
  rw[hbad (by unfold Ze1;rw[h3];simp)];simp only[go_sem,h3];(refine Zay ?_;refine vS5 ?_);(refine Zay ?_;refine vS5 ?_)
  refine vC ?_ ?_<;>intro h
  ·exact vUt
  ·simp at h
 by_cases h4:b.ma.length=b.fo.length;case neg=>
  have hb4:(b.ma.length==b.fo.length)=false:=by simpa using h4
  rw[hbad (by unfold Ze1;rw[hb4];simp)];simp only[go_sem,h3,hb4];(refine Zay ?_;refine vS5 ?_);(refine Zay ?_;refine vS5 ?_)
  refine vC ?_ ?_<;>intro h
  ·exact vUt
  ·simp at h
 have hb4:(b.ma.length==b.fo.length)=true:=by simpa using h4
 simp only[go_sem,h3,hb4];(refine ZaV (fun hG=>Zly b.pl 0 9999) ?_;simp only[go_sem,hP,Zai,hb0,h3,hb4,Yc,hne];refine vQ ?_;(repeat(refine vV ?_;(try simp only[go_sem,hP,Zai,hb0,h3,hb4,Yc,hne]);refine vQ ?_)));by_cases h5:Zad b.pl 0 9999=true;case neg=>
  have h5:Zad b.pl 0 9999=false:=by simpa using h5
  rw[hbad (by unfold Ze1;rw[h5];simp)];simp only[go_sem,h5];(refine Zay ?_;refine vS5 ?_);refine vC ?_ ?_<;>intro h
  ·exact vUt
  ·simp at h
 simp only[go_sem,h5];(refine ZaV (fun hG=>Zly b.sk 0 9) ?_;simp only[go_sem,hP,Zai,hb0,h5,Yc,hne];refine vQ ?_;(repeat(refine vV ?_;(try simp only[go_sem,hP,Zai,hb0,h5,Yc,hne]);refine vQ ?_)));by_cases h6:Zad b.sk 0 9=true;case neg=>
  have h6:Zad b.sk 0 9=false:=by simpa using h6
  rw[hbad (by unfold Ze1;rw[h6];simp)];refine vC ?_ ?_<;>intro h
  ·exact vUt
  ·simp[h6]at h
 refine vC ?_ ?_<;>intro h;{simp[h6]at h};clear h;(have hfl:b.fo.length=b.wh.co.length:=by simp only[ZiR,Yf]at h2;exact(ZaI h2.1).1);have hcl:=hw.cl;have hmb:Zpg b b.fo.length=false->Zuh b=50:=fun h=>hbad (by unfold Ze1;rw[h];simp);(have hrest:Zpg b b.fo.length=true->Zuh b=if ZiR b.wh (ZbN b)then 0 else 50:=fun h=>by(have:Ze1 b=ZiR b.wh (ZbN b):=by unfold Ze1;rw[h1,h2,h3,hb4,h5,h6,h];rfl);unfold Zuh;rw[this]);refine vR0 ?_;refine Zam ZDw [] (fun k:Nat=>k<=b.fo.length/\Zpg b k=true) (fun k=>b.fo.length-k) (fun k=>[(3,iv k)]) (fun _=>[]) 0 ⟨Kc,rfl⟩ ?_ ?_;{exact Zak};{rintro k ⟨hk,hr⟩;refine vR0 ?_;refine vC ?_ ?_<;>intro h;{(have hi:k<b.fo.length:=by simpa using h);(have hi2:k<b.ma.length:=by omega);have gf:=Zau hi;have gm:=Zau hi2;have w1:=vw (n:=(k:Int)+1);(have hs:Zpg b (k+1)=Zad (b.ma.getD k 0) 0 (b.fo.getD k 0):=by simp only[Zpg,hr,YV]);generalize b.fo.getD k 0=x at*;generalize b.ma.getD k 0=y at*;refine vW0 (vA gf (vA gm (vA hi hi2))) ?_;(refine Zal (Zly y 0 x) ?_;refine vS7 ?_);by_cases hx:Zad y 0 x=true;{refine vC ?_ ?_<;>intro h;{simp[hx]at h};refine vW w1 ?_;refine⟨k+1,⟨Kc,by rw[hs];exact hx⟩,Kc,?_⟩;(refine Zaf (by simp only[go_sem];exact vEi) (by simp only[go_sem];exact Zaa))};{(have hx:Zad y 0 x=false:=by simpa using hx);rw[hmb (ZjX (k:=k+1) (by rw[hs];exact hx) Kc)];refine vC ?_ ?_<;>intro h;{exact vUt};{simp[hx]at h}}};{(have hi:k=b.fo.length:=by simp at h;omega);subst hi;(have hfo:∀n∈b.fo,0<=n/\n<=12:=by simp only[ZiR,Yf]at h2;exact(ZaI h2.1).2);(have hslo:b.sl.length=b.wh.co.length/\∀n∈b.sl,0<=n/\n<=12:=by simp only[ZiR,Yf]at h3;exact ZaI h3.1);clear h hk;by_cases h9:ZiR b.wh (ZbN b)=true;{(have e1:Zuh b=0:=by rw[hrest hr,Yt h9]);rw[e1];refine vR0 ?_;(refine ZaM (Zw2 Kc Kc hfo hslo.2) rfl rfl rfl rfl rfl ?_;refine vS7 ?_);(refine Zal (Zll hw (ZbN b)) ?_;simp only[go_sem,hP,Wh.av,Wh.avs,Zai,ZbN];refine vQ ?_;(repeat(refine vV ?_;(try simp only[go_sem,hP,Wh.av,Wh.avs,Zai,ZbN]);refine vQ ?_)));simp only[ZbN]at h9;refine vC ?_ ?_<;>intro h;{simp[h9]at h};{exact vUt}};{(have e1:Zuh b=50:=by rw[hrest hr,Yx h9]);(have h9:ZiR b.wh (ZbN b)=false:=by simpa using h9);rw[e1];refine vR0 ?_;(refine ZaM (Zw2 Kc Kc hfo hslo.2) rfl rfl rfl rfl rfl ?_;refine vS7 ?_);(refine Zal (Zll hw (ZbN b)) ?_;simp only[go_sem,hP,Wh.av,Wh.avs,Zai,ZbN];refine vQ ?_;(repeat(refine vV ?_;(try simp only[go_sem,hP,Wh.av,Wh.avs,Zai,ZbN]);refine vQ ?_)));simp only[ZbN]at h9;refine vC ?_ ?_<;>intro h;{exact vUt};{simp[h9]at h}}}}
structure Pt where
 pl:Int
 cr:Int
 a:Int
 b:Int
 c:Int
 d:Int
 bo:Int
 deriving DecidableEq
def Pt.l(p:Pt):List Int:=[p.pl,p.cr,p.a,p.b,p.c,p.d,p.bo]
def Pt.inj{p q:Pt}(h:p.l=q.l):p=q:=by cases p;cases q;simp only[Pt.l,Ya3,Ya2]at h;simp only[Pt.mk.injEq];exact h
def Ztn:KLaw Tryz.prog 187 (fun v=>∃l,keyOf Tryz.prog 187 v=some l):=KLaw.wide (deep_law_gate Ka (YT Ka) (YT Ka) Ka Ka)
def ZGc{n:Int}(h:i64 n):(Lit.int .i64 n).wf=true:=by simp only[Lit.wf,Yf,Yl];exact h
def ptKey{p:Pt}(h1:i64 p.pl)(h2:i64 p.cr)(h3:i64 p.a)(h4:i64 p.b)(h5:i64 p.c)(h6:i64 p.d)(h7:i64 p.bo):∃l,keyOf Tryz.prog 187 (ZaH true p.l)=some l:=by(have u3:Tryz.prog.underlying 3=some (.int .i64):=by kernel_rfl);(have u100:Tryz.prog.underlying 185=some (.array 4 3):=by kernel_rfl);(have u111:Tryz.prog.underlying 28=some (.struct (Tryz.prog.fieldsOf 28)):=by kernel_rfl);(have u113:Tryz.prog.underlying 187=some (.struct (Tryz.prog.fieldsOf 187)):=by kernel_rfl);(have c3:Tryz.prog.cellsOf 3=1:=by kernel_rfl);(have Zsv.h:Tryz.prog.cellsOf 185=4:=by kernel_rfl);(have c111:Tryz.prog.cellsOf 28=2:=by kernel_rfl);(have c113:Tryz.prog.cellsOf 187=7:=by kernel_rfl);(have k3:∀(n:Nat)(x:Int),i64 x->Tryz.prog.keyLits (n+1) 3 [.int .i64 x]=some [.int .i64 x]:=fun n x h=>by simp[Program.keyLits,u3,ZGc h]);(have k100:∀(n:Nat),Tryz.prog.keyLits (n+2) 185 [.int .i64 p.a,.int .i64 p.b,.int .i64 p.c,.int .i64 p.d]=some [.int .i64 p.a,.int .i64 p.b,.int .i64 p.c,.int .i64 p.d]:=fun n=>by have hr:List.range 4=[0,1,2,3]:=rfl;(have e:Tryz.prog.keyLits (n+2) 185 [.int .i64 p.a,.int .i64 p.b,.int .i64 p.c,.int .i64 p.d]=if [Value.int .i64 p.a,.int .i64 p.b,.int .i64 p.c,.int .i64 p.d].length=Tryz.prog.cellsOf 185 then((List.range 4).mapM fun i=>Tryz.prog.keyLits (n+1) 3 (([Value.int .i64 p.a,.int .i64 p.b,.int .i64 p.c,.int .i64 p.d].drop (i*Tryz.prog.cellsOf 3)).take (Tryz.prog.cellsOf 3))).map List.flatten else none:=by(conv=>lhs;unfold Program.keyLits);simp only[u100]);rw[e,Zsv.h,c3,Yt (by rfl),hr];simp[k3 n _ h3,k3 n _ h4,k3 n _ h5,k3 n _ h6]);(have k111:∀(n:Nat),Tryz.prog.keyLits (n+2) 28 [.int .i64 p.pl,.int .i64 p.cr]=some [.int .i64 p.pl,.int .i64 p.cr]:=fun n=>by(have hf:((Tryz.prog.fieldsOf 28).toList.map fun f=>(f.type,f.offset))=[(3,0),(3,1)]:=by kernel_rfl);(have hb:(Tryz.prog.fieldsOf 28).all (·.name != "_") = true:=by kernel_rfl);(have e:Tryz.prog.keyLits (n+2) 28 [.int .i64 p.pl,.int .i64 p.cr]=(((Tryz.prog.fieldsOf 28).toList.map fun f=>(f.type,f.offset)).mapM fun q=>Tryz.prog.keyLits (n+1) q.1 (([Value.int .i64 p.pl,.int .i64 p.cr].drop q.2).take (Tryz.prog.cellsOf q.1))).map List.flatten:=by(conv=>lhs;unfold Program.keyLits);simp only[u111];rw[Yt ⟨by rw[c111];rfl,hb⟩,YcU];rfl);rw[e,hf];simp[c3,k3 n _ h1,k3 n _ h2]);(have k113:∀(n:Nat),Tryz.prog.keyLits (n+3) 187 [.int .i64 p.pl,.int .i64 p.cr,.int .i64 p.a,.int .i64 p.b,.int .i64 p.c,.int .i64 p.d,.int .i64 p.bo]=some [.int .i64 p.pl,.int .i64 p.cr,.int .i64 p.a,.int .i64 p.b,.int .i64 p.c,.int .i64 p.d,.int .i64 p.bo]:=fun n=>by(have hf:((Tryz.prog.fieldsOf 187).toList.map fun f=>(f.type,f.offset))=[(28,0),(185,2),(3,6)]:=by kernel_rfl);(have hb:(Tryz.prog.fieldsOf 187).all (·.name != "_") = true:=by kernel_rfl);(have e:Tryz.prog.keyLits (n+3) 187 [.int .i64 p.pl,.int .i64 p.cr,.int .i64 p.a,.int .i64 p.b,.int .i64 p.c,.int .i64 p.d,.int .i64 p.bo]=(((Tryz.prog.fieldsOf 187).toList.map fun f=>(f.type,f.offset)).mapM fun q=>Tryz.prog.keyLits (n+2) q.1 (([Value.int .i64 p.pl,.int .i64 p.cr,.int .i64 p.a,.int .i64 p.b,.int .i64 p.c,.int .i64 p.d,.int .i64 p.bo].drop q.2).take (Tryz.prog.cellsOf q.1))).map List.flatten:=by(conv=>lhs;unfold Program.keyLits);simp only[u113];rw[Yt ⟨by rw[c113];rfl,hb⟩,YcU];rfl);rw[e,hf];simp[c3,Zsv.h,c111,k3 (n+1) _ h7,k100 n,k111 n]);(have ht:Tryz.prog.keyType 187=true:=by kernel_rfl);have hsz:3<=Tryz.prog.types.size+1:=YT Ka;obtain⟨n,hn⟩:∃n,Tryz.prog.types.size+1=n+3:=⟨Tryz.prog.types.size+1-3,Kc⟩;have hk:=k113 n;rw[<-hn]at hk;(have hfo:(ZaH true p.l).formed Tryz.prog 187=true:=by simp only[ZaH,YJ,Value.formed,u113,c113];rfl);(have key:keyOf Tryz.prog 187 (ZaH true p.l)=((Tryz.prog.keyLits (Tryz.prog.types.size+1) 187 (ZaH true p.l).cells.toList).map fun ls=>Lit.string (keyBytes ls)):=by unfold keyOf;rw[u113];simp only[ht,hfo,YcE,YJ]);have hc:(ZaH true p.l).cells.toList=[.int .i64 p.pl,.int .i64 p.cr,.int .i64 p.a,.int .i64 p.b,.int .i64 p.c,.int .i64 p.d,.int .i64 p.bo]:=rfl;rw[hc,hk]at key;exact⟨_,key⟩
def ZBR:Cz [] 152:=ec
def ZBQ:Cz [] 151:=ec [(1,7680,[])]
structure Bag where
 a:Int
 b:Int
 c:Int
 d:Int
 deriving DecidableEq
def Bag.l(x:Bag):List Int:=[x.a,x.b,x.c,x.d]
def Bag.many(x:Bag):Int:=x.a+x.b+x.c+x.d
structure BagOk(x:Bag):Prop where
 a:0<=x.a/\x.a<=14
 b:0<=x.b/\x.b<=14
 c:0<=x.c/\x.c<=14
 d:0<=x.d/\x.d<=14
 m:x.a+x.b+x.c+x.d<=14
def Pt.bag(p:Pt):Bag:=⟨p.a,p.b,p.c,p.d⟩
def Zxg{x:Bag}(hx:BagOk x):Fq 152 [.agg (ZaW x.l)] (iv x.many):=by obtain⟨h1,h2,h3,h4,h5⟩:=hx;refine vE ZBR.h fun C hP hN hC hL=>?_;simp only[ZBR,ZaW,Bag.l,Ye,Yg];refine vR ?_;refine Zam [6] [] (fun k:Nat=>k<=4) (fun k=>4-k) (fun k=>[(7,iv k),(3,iv ((x.l.take k).sum))]) (fun _=>[]) 0 Kc ?_ ?_;{(refine Zaf (by simp only[go_sem];(refine vEz ?_;first|trivial|exact AWk.of (by simp[Bag.l]))) (by simp only[go_sem];exact Zaa))};{intro k hk;refine vR ?_;refine vC ?_ ?_<;>intro h;{(have hi:k<4:=by simp at h;omega);obtain⟨v,hv⟩:∃v,x.l[k]? =some v:=⟨_,Yd hi⟩;(have hc:[AV.c (.int .i64 x.a),.c (.int .i64 x.b),.c (.int .i64 x.c),.c (.int .i64 x.d)][((k:Int)).toNat]? =some (.c (.int .i64 v)):=by have:=congrArg (Option.map fun n=>AV.c (.int .i64 n)) hv;rwa [<-Y0]at this);(have hs:(x.l.take (k+1)).sum=(x.l.take k).sum+v:=by rw[List.take_add_one,hv,Ya4];simp);(have hb:0<=(x.l.take k).sum/\(x.l.take k).sum<=42/\0<=v/\v<=14:=by(have:k=0\/k=1\/k=2\/k=3:=by omega);rcases this with rfl|rfl|rfl|rfl<;>simp[Bag.l]at hv|-<;>omega);generalize(x.l.take k).sum=s at hs hb;have w1:=vw (n:=(k:Int)+1);have w2:=vw (n:=s+v);refine Zbq ?_;simp only[Zm3];refine Zat (Zbe (Zat ?_));(refine ZcF ?_;refine vN ?_);refine ZbS (e:=3) (n:=4) (x':=.t 6) (i':=.t 7) (k:=.i64) (j:=k) Ka Ka Ka rfl rfl rfl rfl rfl rfl Kc hc ?_;simp only[go_sem,hP];refine vW (vA w1 w2) ?_;refine⟨k+1,Kc,Kc,?_⟩;rw[hs];exact Zak};{(have hi:k=4:=by simp at h;omega);subst hi;refine vR ?_;(refine Zas ?_;simp only[Zaz,inQ,ZfE,Zcb,Zaq,ZbJ];simp only[go_sem,Zbu,AV.port,AV.portL,YU,Bag.l,Bag.many];(first|exact AVle.of rfl|refine AVle.of ?_|skip));simp[Bag.l,Bag.many];omega}}
def trim(A:Bag)(y:Pt):Pt:={y with cr:=min y.cr (A.many-y.bag.many)}
abbrev Seen:=List (Pt×Int×Pt)
def gl(S:Seen):GL:=S.map fun e=>(e.1.l,e.2.1::e.2.2.l)
def sks(S:Seen):List Pt:=S.map (·.1)
def Zhp(S:Seen)(p:Pt):Za0 (gl S) p.l=(S.find? fun e=>e.1=p).map fun e=>e.2.1::e.2.2.l:=by unfold Za0 gl;rw[YcR,YbH];(have:((fun q:List Int×List Int=>q.1==p.l)∘fun e:Pt×Int×Pt=>(e.1.l,e.2.1::e.2.2.l))=fun e=>decide (e.1=p):=by funext e;simp only[YaY];rw[Yaq];simp only[YaX,Yl];exact⟨fun h=>Pt.inj h,fun h=>by rw[h]⟩);rw[this];rfl
def ZoT(S:Seen)(p:Pt):(Za0 (gl S) p.l).isSome=decide (p∈sks S):=by rw[Zhp,YbQ,Yaq,YcT,Yl];simp only[sks,Ys,Yl]
def Zsn{S:Seen}{p:Pt}(h:p∉sks S)(act:Int)(x:Pt):Zlz (gl S) p.l (act::x.l)=gl (S++[(p,act,x)]):=by(have h0:Za0 (gl S) p.l=none:=by(have:=ZoT S p;rw[YaL h]at this;cases hg:Za0 (gl S) p.l with|none=>rfl|some v=>rw[hg]at this;cases this));rw[ZoX h0];simp[gl]
def Zgn(A:Bag)(act:Int)(x:Pt)(s:Seen×List Pt)(y:Pt):Seen×List Pt:=if trim A y∈sks s.1 then s else(s.1++[(trim A y,act,x)],s.2++[trim A y])
structure PtOk(R:Int)(A:Bag)(p:Pt):Prop where
 pl:0<=p.pl/\p.pl<R
 cr:0<=p.cr/\p.cr<=2000
 a:0<=p.a/\p.a<=A.a
 b:0<=p.b/\p.b<=A.b
 c:0<=p.c/\p.c<=A.c
 d:0<=p.d/\p.d<=A.d
 bo:0<=p.bo/\p.bo<=112*p.bag.many
def PtOk.key{R:Int}{A:Bag}(hA:BagOk A)(hR:R<=200){p:Pt}(h:PtOk R A p):∃l,keyOf Tryz.prog 187 (ZaH true p.l)=some l:=by obtain⟨a1,a2,a3,a4,a5⟩:=hA;obtain⟨h1,h2,h3,h4,h5,h6,h7⟩:=h;simp only[Pt.bag,Bag.many]at h7;refine ptKey ⟨?_,?_⟩ ⟨?_,?_⟩ ⟨?_,?_⟩ ⟨?_,?_⟩ ⟨?_,?_⟩ ⟨?_,?_⟩ ⟨?_,?_⟩<;>omega
def PtOk.trim{R:Int}{A:Bag}{p:Pt}(h:PtOk R A p):PtOk R A (trim A p):=by obtain⟨h1,h2,h3,h4,h5,h6,h7⟩:=h;refine⟨h1,?_,h3,h4,h5,h6,h7⟩;show 0<=min p.cr (A.many-p.bag.many)/\min p.cr (A.many-p.bag.many)<=2000;simp only[Pt.bag,Bag.many];omega
def qls(q:List Pt):List (List Int):=q.map Pt.l
def SOk(R:Int)(A:Bag)(S:Seen):Prop:=∀e∈S,PtOk R A e.1
def Zzm(q:List Pt):∀y∈qls q,y.length=7:=fun y hy=>by obtain⟨p,_,rfl⟩:=Ys.1 hy;rfl
def ql1(z:Pt):∀y∈[z.l],y.length=7:=Zzm [z]
def Zis{R:Int}{A:Bag}(hA:BagOk A)(hR:R<=200){S:Seen}(hS:SOk R A S):∀p∈gl S,∃l,keyOf Tryz.prog 187 (ZaH true p.1)=some l:=fun p hp=>by obtain⟨e,he,rfl⟩:=Ys.1 hp;exact(hS e he).key hA hR
def add67{R:Int}{A:Bag}(hA:BagOk A)(hR:R<=200)(act:Int){y:Pt}(hy:PtOk R A y)(x:Pt){S:Seen}(hS:SOk R A S){q:List Pt}(bm bq off cap:Nat)(h1:q.length+1<=maxLen)(h2:(q.length+1)*56<=140737488355328):
  Fl 151 [iv act,kav true y.l,.bp 1000 0,.bp 1001 0,.bp 1002 0,.bp 1003 0] [.box (ZaW A.l),.box [.c (.raw (.map (some bm)))],.box (ZaW x.l),.box [qv bq off q.length cap],gmap true true (gl S) bm,qO 187 7 (qls q) bq off cap] []
   (fun r l'=>r= .tup []/\∃bq' off' cap',l'=[.box (ZaW A.l),.box [.c (.raw (.map (some bm)))],.box (ZaW x.l),.box [qv bq' off' (Zgn A act x (S,q) y).2.length cap'],gmap true true (gl (Zgn A act x (S,q) y).1) bm,qO 187 7 (qls (Zgn A act x (S,q) y).2) bq' off' cap']):=by refine vF ZBQ.h fun C hP hN hC hL=>?_;simp only[ZBQ,Zbj,ZaB,Yg,Ye,Nat.reduceAdd,];simp only[kav,YJ,Pt.l,ZaW,Bag.l,Ye,Yg];refine vR ?_;(have hyb:BagOk y.bag:=by obtain⟨a1,a2,a3,a4,a5⟩:=hA;obtain⟨_,_,h3,h4,h5,h6,_⟩:=hy;exact⟨⟨h3.1,by simp only[Pt.bag];omega⟩,⟨h4.1,by simp only[Pt.bag];omega⟩,⟨h5.1,by simp only[Pt.bag];omega⟩,⟨h6.1,by simp only[Pt.bag];omega⟩,by simp only[Pt.bag];omega⟩);(have w1:IntKind.i64.wrap (A.many-y.bag.many)=A.many-y.bag.many:=by obtain⟨a1,a2,a3,a4,a5⟩:=hA;obtain⟨b1,b2,b3,b4,b5⟩:=hyb;exact w64 (by simp only[Bag.many];omega) (by simp only[Bag.many];omega));(refine ZaM (Zxg hA) rfl rfl rfl rfl rfl ?_;refine vX w1 ?_);(refine ZaM (Zxg hyb) rfl rfl rfl rfl rfl ?_;refine vX w1 ?_);have hk:=hy.trim.key hA hR;obtain⟨z,hz⟩:∃z,z=trim A y:=⟨_,rfl⟩;rw[<-hz]at hk;refine ZmN (ka:=true) (va:=true) (n:=1004) (b:=bm) (l:=gl S) (key:=z.l) (zs:=[0,0,0,0,0,0,0,0]) (k:=187) (e:=223) (x':=.t 23) (i':=.t 24) Ka Ztn Ka rfl rfl rfl rfl rfl (by rw[hz];rfl) rfl hk (Zis hA hR hS) (fun p _ h=>ZcG h) ?_;rw[ZoT];(obtain⟨ys,hys,hyl⟩:∃ys:List Int,ys=(Za0 (gl S) z.l).getD [0,0,0,0,0,0,0,0]/\ys.length=8:=by refine⟨_,rfl,?_⟩;rw[Zhp];cases S.find? fun e=>decide (e.1=z)<;>rfl);rw[<-hys];(obtain⟨y0,y1,y2,y3,y4,y5,y6,y7,rfl⟩:∃y0 y1 y2 y3 y4 y5 y6 y7,ys=[y0,y1,y2,y3,y4,y5,y6,y7]:=by(match ys,hyl with|[y0,y1,y2,y3,y4,y5,y6,y7],_=>exact⟨_,_,_,_,_,_,_,_,rfl⟩));clear hys hyl;simp only[go_sem,hP,kav,YJ];refine vR ?_;by_cases hin:z∈sks S;{have hd:decide (z∈sks S)=true:=Yaa hin;(have he:Zgn A act x (S,q) y=(S,q):=by unfold Zgn;rw[<-hz];rw[Yt hin]);rw[he];refine vC ?_ ?_<;>intro h;{rw[hd]at h;simp at h};{refine vR ?_;(refine vM1 ?_;refine⟨_,[.box (ZaW A.l),.box [.c (.raw (.map (some bm)))],.box (ZaW x.l),.box [qv bq off q.length cap],gmap true true (gl S) bm,qO 187 7 (qls q) bq off cap],rfl,Zab rfl rfl ?_ ?_ rfl,?_⟩);{simp only[go_sem,Zag,Ob.keepP,AV.keepP,AV.keepPL,ZaW,Bag.l,Pt.l]};{trivial};{exact⟨rfl,_,_,_,rfl⟩}}};{have hd:decide (z∈sks S)=false:=YaL hin;(have he:Zgn A act x (S,q) y=(S++[(z,act,x)],q++[z]):=by unfold Zgn;rw[<-hz];rw[Yx hin]);rw[he];refine vC ?_ ?_<;>intro h;{refine vR ?_;refine ZhC (ka:=true) (va:=true) (n:=1004) (b:=bm) (l:=gl S) (key:=z.l) (val:=act::x.l) (k:=187) (e:=223) (x':=.t 30) (i':=.t 31) (v':=.t 34) (.inl rfl) Ka Ztn rfl rfl rfl rfl rfl rfl rfl (by rw[hz];rfl) rfl rfl hk (Zis hA hR hS) (fun p _ h=>ZcG h) ?_;rw[Zsn hin];simp only[go_sem,hP];refine vR ?_;refine Zwb (n:=1005) (b:=bq) (off:=off) (cap:=cap) (m:=q.length) (xs:=qls q) (ys:=[z.l]) rfl rfl rfl (Yc ..) (by rw[hz];rfl) rfl (ql1 z) h1 h2 ?_;intro bq' off' cap';rw[show qls q++[z.l]=qls (q++[z]) by simp[qls]];simp only[go_sem,hP];(refine vM1 ?_;refine⟨_,[.box (ZaW A.l),.box [.c (.raw (.map (some bm)))],.box (ZaW x.l),.box [qv bq' off' (q.length+1) cap'],gmap true true (gl (S++[(z,act,x)])) bm,qO 187 7 (qls (q++[z])) bq' off' cap'],rfl,Zab rfl rfl ?_ ?_ rfl,?_⟩);{simp only[go_sem,Zag,Ob.keepP,AV.keepP,AV.keepPL,ZaW,Bag.l,Pt.l]};{trivial};{exact⟨rfl,_,_,_,rfl⟩}};{rw[hd]at h;simp at h}}
end Go.Proofs.YtcggfogkfhlmlaaGreatDoor
