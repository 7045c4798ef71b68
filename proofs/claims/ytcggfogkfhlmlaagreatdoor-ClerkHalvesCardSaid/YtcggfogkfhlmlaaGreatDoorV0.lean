
import Derived.Below
import Derived.Laws.AppendOwn
import Derived.Orders
import Derived.KernelRfl
import Derived.Laws.Cells
import Derived.Laws.Entries
import Derived.Laws.Slices
import Derived.RangeFuncNested
import Derived.RangeFuncLeaves
import Derived.Laws.Small
import Derived.Laws.StructEq
import Derived.Laws.Strings
import Derived.Laws.Strings2
import Derived.Laws.Strings3
import Derived.Laws.Concat
import Derived.Laws.Tables
import Derived.MapKept
import Derived.Laws.CopyRow
set_option linter.unusedVariables false
set_option linter.defProp false
set_option linter.unusedSimpArgs false
namespace Go.V
def Ya:=@Option.some.injEq
def Yb:=@List.getD_eq_getElem?_getD
def Yc:=@List.length_map
def Yd:=@List.getElem?_eq_getElem
def Ye:=@List.map_cons
def Yf:=@Bool.and_eq_true
def Yg:=@List.map_nil
def Yh:=@Option.map_eq_some_iff
def Yi:=@Nat.le_refl
def Yj:=@Prod.mk.injEq
def Yk:=@List.mem_singleton
def Yl:=@decide_eq_true_eq
def Ym:=@List.getElem?_eq_some_iff
def Yn:=@List.all_eq_true
def Yo:=@List.length_cons
def Yp:=@Bool.false_eq_true
def Yq:=@List.take_succ_eq_append_getElem
def Yr:=@Int.toNat_natCast
def Ys:=@List.mem_map
def Yt:=@if_pos
def Yu:=@List.mem_of_getElem?
def Yv:=@List.getElem_mem
def Yw:=@List.length_append
def Yx:=@if_neg
def Yy:=@List.map_append
def Yz:=@Option.bind_eq_some_iff
def YA:=@if_false
def YB:=@Int.natCast_nonneg
def YC:=@Nat.zero_le
def YD:=@List.mem_append
def YE:=@List.eq_nil_of_length_eq_zero
def YF:=@List.mem_cons
def YG:=@List.take_of_length_le
def YH:=@List.cons_append
def YI:=@List.length_nil
def YJ:=@if_true
def YK:=@Array.getElem?_eq_some_iff
def YL:=@List.take_length
def YM:=@List.nil_append
def YN:=@beq_self_eq_true
def YO:=@List.append_assoc
def YP:=@List.replicate_succ
def YQ:=@Option.some.inj
def YR:=@Option.map_some
def YS:=@Option.bind_eq_bind
def YT:=@Nat.le_of_ble_eq_true
def YU:=@exists_eq_left'
def YV:=@Bool.true_and
def YW:=@List.getElem?_eq_none
def YX:=@Nat.add_mul
def YY:=@of_decide_eq_true
def YZ:=@Array.getD_eq_getD_getElem?
def Y0:=@List.getElem?_map
def Y1:=@bne_self_eq_false
def Y2:=@Nat.mul_le_mul_right
def Y3:=@List.getElem?_append_left
def Y4:=@List.length_take
def Y5:=@List.getElem?_set
def Y6:=@List.getElem?_take
def Y7:=@List.length_set
def Y8:=@List.take_succ_cons
def Y9:=@Bool.false_and
def Yaa:=@decide_eq_true
def Yab:=@Nat.mul_one
def Yac:=@List.length_drop
def Yad:=@Nat.add_zero
def Yae:=@Bool.or_eq_true
def Yaf:=@List.getElem?_drop
def Yag:=@List.not_mem_nil
def Yah:=@List.take_append_drop
def Yai:=@Bool.and_false
def Yaj:=@List.mem_range
def Yak:=@List.getD_cons_succ
def Yal:=@List.map_congr_left
def Yam:=@Bool.and_true
def Yan:=@List.drop_eq_getElem_cons
def Yao:=@List.mapM_cons
def Yap:=@List.mem_of_find?_eq_some
def Yaq:=@Bool.eq_iff_iff
def Yar:=@Int.le_refl
def Yas:=@List.append_nil
def Yat:=@List.drop_zero
def Yau:=@List.getElem?_append_right
def Yav:=@List.foldl_cons
def Yaw:=@Option.pure_def
def Yax:=@decide_eq_false_iff_not
def Yay:=@Array.getElem?_toList
def Yaz:=@List.take_zero
def YaA:=@Option.isSome_iff_exists
def YaB:=@Bool.not_eq_true'
def YaC:=@List.flatten_cons
def YaD:=@List.take_append_of_le_length
def YaE:=@List.all_cons
def YaF:=@List.sum_cons
def YaG:=@Nat.lt_or_ge
def YaH:=@Nat.zero_add
def YaI:=@List.drop_succ_cons
def YaJ:=@List.length_pos_iff
def YaK:=@Iff.rfl
def YaL:=@decide_eq_false
def YaM:=@Int.eq_ofNat_of_zero_le
def YaN:=@List.getD_cons_zero
def YaO:=@List.foldl_append
def YaP:=@Nat.le_trans
def YaQ:=@List.find?_eq_none
def YaR:=@Nat.lt_of_lt_of_le
def YaS:=@Array.ext'
def YaT:=@Option.getD_some
def YaU:=@List.any_eq_false
def YaV:=@List.size_toArray
def YaW:=@Array.eq_empty_of_size_eq_zero
def YaX:=@beq_iff_eq
def YaY:=@Function.comp_apply
def YaZ:=@List.length_singleton
def Ya0:=@List.map_map
def Ya1:=@Array.getElem?_setIfInBounds
def Ya2:=@and_true
def Ya3:=@List.cons.injEq
def Ya4:=@List.sum_append
def Ya5:=@List.getElem?_append
def Ya6:=@List.mem_cons_of_mem
def Ya7:=@List.mem_flatMap
def Ya8:=@Option.bind_some
def Ya9:=@Array.length_toList
def Yba:=@List.ext_getElem?
def Ybb:=@List.getElem_of_mem
def Ybc:=@Classical.byContradiction
def Ybd:=@List.find?_some
def Ybe:=@List.length_replicate
def Ybf:=@List.mem_iff_getElem?
def Ybg:=@List.take_left'
def Ybh:=@Int.toNat_one
def Ybi:=@Int.toNat_of_nonneg
def Ybj:=@List.mem_filter
def Ybk:=@Option.map_eq_none_iff
def Ybl:=@Int.tdiv_eq_ediv_of_nonneg
def Ybm:=@Int.tmod_eq_emod_of_nonneg
def Ybn:=@List.any_eq_true
def Ybo:=@List.ext_getElem
def Ybp:=@Bool.false_or
def Ybq:=@Bool.not_true
def Ybr:=@List.all_nil
def Ybs:=@List.findIdx?_eq_some_iff_getElem
def Ybt:=@or_false
def Ybu:=@Int.toNat_zero
def Ybv:=@List.mem_take_iff_getElem
def Ybw:=@Bool.or_eq_false_iff
def Ybx:=@List.getElem_zipWith
def Yby:=@List.getElem_append_left
def Ybz:=@Int.ofNat_lt
def YbA:=@Nat.add_comm
def YbB:=@List.drop_nil
def YbC:=@List.getElem?_cons_zero
def YbD:=@List.take_nil
def YbE:=@Nat.add_sub_cancel_left
def YbF:=@List.find?_eq_some_iff_append
def YbG:=@Bool.not_false
def YbH:=@Option.map_map
def YbI:=@List.getElem_cons_drop
def YbJ:=@List.mem_cons_self
def YbK:=@List.mem_eraseDups
def YbL:=@List.set_cons_zero
def YbM:=@Bool.and_eq_false_iff
def YbN:=@List.nodup_cons
def YbO:=@List.set_append_right
def YbP:=@List.nodup_append
def YbQ:=@Option.isSome_map
def YbR:=@List.nodup_iff_pairwise_ne
def YbS:=@List.mem_iff_getElem
def YbT:=@List.mem_of_mem_drop
def YbU:=@List.range_eq_range'
def YbV:=@List.findIdx?_eq_none_iff
def YbW:=@List.pairwise_iff_getElem
def YbX:=@Array.toList_map
def YbY:=@Int.natCast_zero
def YbZ:=@List.countP_cons
def Yb0:=@Array.toList_append
def Yb1:=@List.filter_eq_self
def Yb2:=@List.mem_map_of_mem
def Yb3:=@beq_eq_false_iff_ne
def Yb4:=@decide_true
def Yb5:=@Int.le_trans
def Yb6:=@Nat.sub_self
def Yb7:=@Bool.true_eq_false
def Yb8:=@Int.emod_lt_of_pos
def Yb9:=@Int.emod_nonneg
def Yca:=@List.drop_left'
def Ycb:=@List.headD_cons
def Ycc:=@List.pairwise_cons
def Ycd:=@List.range_succ
def Yce:=@List.set_cons_succ
def Ycf:=@Nat.le_mul_of_pos_right
def Ycg:=@Nat.min_eq_left
def Ych:=@Option.isSome_none
def Yci:=@Option.isSome_some
def Ycj:=@Option.map_none
def Yck:=@Option.toList_none
def Ycl:=@Array.getElem?_eq_none
def Ycm:=@Array.size_append
def Ycn:=@Array.toList_push
def Yco:=@List.all_eq_false
def Ycp:=@List.length_range
def Ycq:=@List.pairwise_map
def Ycr:=@List.foldl_nil
def Ycs:=@List.length_filter_le
def Yct:=@List.length_mergeSort
def Ycu:=@false_and
def Ycv:=@List.drop_length
def Ycw:=@List.filter_cons
def Ycx:=@List.getElem_map
def Ycy:=@List.isEmpty_iff
def Ycz:=@Ne.symm
def YcA:=@List.getElem?_modify
def YcB:=@List.getElem?_of_mem
def YcC:=@List.getElem?_set_ne
def YcD:=@List.pairwise_append
def YcE:=@Bool.and_self
def YcF:=@Nat.add_assoc
def YcG:=@Array.toList_modify
def YcH:=@Int.ediv_nonneg
def YcI:=@Int.one_pos
def YcJ:=@List.all_append
def YcK:=@Int.add_zero
def YcL:=@List.filter_append
def YcM:=@Nat.add_sub_cancel
def YcN:=@Option.toList_some
def YcO:=@true_and
def YcP:=@Bool.and_assoc
def YcQ:=@List.drop_drop
def YcR:=@List.find?_map
def YcS:=@Function.comp_def
def YcT:=@List.find?_isSome
def YcU:=@List.mapM_map
def YcV:=@List.range'_succ
def YcW:=@forall_eq_or_imp
def YcX:=@Bool.true_or
def YcY:=@Int.mul_le_mul
def YcZ:=@List.Perm.refl
def Yc0:=@List.drop_take
def Yc1:=@Nat.mul_le_mul
def Yc2:=@Int.add_mul
def Yc3:=@and_false
def Yc4:=@false_or
def Yc5:=@bne_iff_ne
def Yc6:=@Int.ofNat_le
def Yc7:=@List.map_set
def Yc8:=@List.sum_nil
def Yc9:=@Nat.zero_mul
def Yda:=@Nat.one_mul
def Ydb:=@not_or
def Ydd:=@or_self
def Ka{p:Prop}(h:p:=by kernel_rfl):p:=h
def Kb{p:Prop}(h:p:=by decide):p:=h
def Kc{p:Prop}(h:p:=by omega):p:=h
def Kd{p:Prop}(h:p:=by simp):p:=h
inductive CD where
 |int (k:IntKind) (n:Int)
 |bool (b:Bool)
 |str (s:List UInt8)
 |raw (v:Value)
 |sl (sz:Nat) (es:List (List CD))
 |pt (cs:List CD)
instance:Inhabited CD:=⟨.sl 1 []⟩
inductive Prim where
 |slen
 |sidx
 |sslc (lo hi:Bool)
 |sbin (op:BinOp)
 |conv (k:IntKind)
 deriving Inhabited
def Prim.ev:Prim->List CD->Option (Prop×CD)
 |.slen,[.str s]=>some (True,.int .i64 s.length)
 |.sidx,[.str s,.int _ j]=>some (0<=j/\j<s.length,.int .u8 (s.getD j.toNat 0).toNat)
 |.sslc false false,[.str s]=>some (True,.str s)
 |.sslc true false,[.str s,.int _ l]=>some (0<=l/\l<=s.length,.str (s.drop l.toNat))
 |.sslc false true,[.str s,.int _ h]=>some (0<=h/\h<=s.length,.str (s.take h.toNat))
 |.sslc true true,[.str s,.int _ l,.int _ h]=>some (0<=l/\l<=h/\h<=s.length,.str ((s.drop l.toNat).take (h.toNat -l.toNat)))
 |.sbin .add,[.str a,.str b]=>some (a.length+b.length<=maxLen,.str (a++b))
 |.sbin .eql,[.str a,.str b]=>some (True,.bool (a==b))
 |.sbin .neq,[.str a,.str b]=>some (True,.bool (!(a==b)))
 |.conv k,[.int _ n]=>some (True,.int k (k.wrap n))
 |_,_=>none
inductive AV where
 |non
 |c (d:CD)
 |bp (n off:Nat)
 |gr (n:Nat)
 |vw (sz n off len cap:Nat)
 |agg (cs:List AV)
 |tup (vs:List AV)
 |fn (f:FuncId) (caps:List AV)
 |opt (g:Bool) (v:AV)
 deriving Inhabited
structure Ent where
 args:List AV
 wins:List (List AV)
 res:AV
 deriving Inhabited
structure Gst where
 fv:Value
 J:List Ent->List Nat->(Nat->Nat->Prop)->World->Prop
inductive Ob where
 |none
 |box (cs:List AV)
 |grow (e sz:Nat) (es:List (List CD))
 |win (cs:List AV)
 |guest (g:Gst) (rem:List Ent)
 |mp (kk ek:IntKind) (l:List (Int×Int))
instance:Inhabited Ob:=⟨.none⟩
structure St where
 env:Nat->AV
 own:Nat->Ob
def upd{α:Type}(f:Nat->α)(t:Nat)(v:α):Nat->α:=fun s=>if s=t then v else f s
inductive X where
 |t (n:Nat)
 |k (v:AV)
 deriving Inhabited
inductive I where
 |mv (x:X)
 |pick (c a b:X)
 |bin (op:BinOp) (x y:X)
 |eqs (ne:Bool) (x y:X)
 |un (op:UnOp) (x:X)
 |fa (off:Nat) (x:X)
 |ia (sz:Nat) (x i:X)
 |ld (one:Bool) (sz:Nat) (x:X)
 |ldd (one:Bool) (sz:Nat) (x:X)
 |nilc (x:X)
 |len (x:X)
 |mm (mx:Bool) (x y:X)
 |ext (x:X) (i:Nat)
 |fld (one:Bool) (sz off:Nat) (x:X)
 |slc (sz:Nat) (x:X) (lo hi:Option X)
 |mkfn (f:FuncId) (caps:List X)
 |bld (zero:List AV) (parts:List (Nat×Nat×X))
 |st (sz:Nat) (a v:X)
 |alloc (cs:List AV)
 |box (sz:Nat) (x:X)
 |bsl (e sz:Nat) (parts:List X)
 |app (e sz bytes:Nat) (s x:X)
 |call (f:X) (args:List X)
 |mks (e sz bytes:Nat) (zero:List AV) (len cap:X)
 |mmn (mx:Bool) (xs:List X)
 |seq (ne:Bool) (offs:List (Nat×Bool)) (x y:X)
 |iap (n sz:Nat) (x i:X)
 |nils (ne:Bool) (x:X)
 |mkm (kk ek:IntKind)
 |mget (kk ek:IntKind) (x i:X)
 |mput (kk ek:IntKind) (x i v:X)
 |appv (e sz bytes:Nat) (s x:X)
 |bslv (e sz:Nat) (parts:List X)
 |calln (f:X) (xs:List X)
 |prim (p:Prim) (xs:List X)
 |raw (o:Op)
 deriving Inhabited
structure Ins where
 d:Option Nat
 i:I
 g:Option (Nat×Bool)
 s:Bool
 deriving Inhabited
inductive OT where
 |nil
 |cons (i:Ins) (t:OT)
 |br (ts:List OT)
 deriving Inhabited
inductive VC where
 |skip
 |ops (is:List Ins)
 |dops (is:List Ins)
 |bad
 |drw (t:OT)
 |seq (a b:VC)
 |cond (x:X) (a b:VC)
 |block (id:Nat) (a:VC)
 |loop (a:VC)
 |exit (id:Nat)
 |ret
 |rng (g:X) (ps:List Nat) (assign body:VC)
 deriving Inhabited
def ZcV:Value->CD
 |.int k n=> .int k n
 |.bool b=> .bool b
 |.string s=> .str s.data.toList
 |v=> .raw v
def ZfH:Value->Option AV
 |.agg cs=>if cs.toList.all (·.oneCell')then some (.agg (cs.toList.map fun v=> .c (ZcV v)))else none
 |.tuple _=>none
 |.func (.func f) fs cs=>if fs.size=0/\cs.size=0 then some (.fn f [])else none
 |.func .. =>none
 |v=>some (.c (ZcV v))
def cX:Operand->Option X
 |.tmp t=>some (.t t)
 |.const v=>(ZfH v).map .k
 |.global _=>none
 |.func f=>some (.k (.fn f []))
def cXs(l:List Operand):Option (List X):=l.mapM cX
def cOX:Option Operand->Option (Option X)
 |some l=>(cX l).map some
 |none=>some none
def cPart(places:List (Nat×Nat))(p:Nat×Operand):Option (Nat×Nat×X):=
 match places[p.1]?,cX p.2 with
 |some pl,some x=>some (pl.1,pl.2,x)
 |_,_=>none
def isAggB(P:Program)(t:TypeId):Option Bool:=
 match P.underlying t with
 |some (.struct _)|some (.array _ _)=>some true
 |some _=>some false
 |none=>none
def sizeB(P:Program)(t:TypeId):Option Nat:=(P.info? t).map (·.size)
def zeroB(P:Program)(t:TypeId):Option (List AV):=
 match(P.info? t).bind (·.zero)with
 |some v=>if v.cells.toList.all (·.oneCell')then some (v.cells.toList.map fun v=> .c (ZcV v))else none
 |none=>none
def flatEq(P:Program)(t:TypeId):Bool:=
 match P.underlying t with
 | some (.struct fs) => !P.stoodInHeld t && !P.eqGuardType P.depth t && fs.toList.all fun f =>f.name != "_" && (match P.underlying f.type with | some (.int _) | some .bool =>true | _ =>false)
 |_=>false
def offsB(P:Program)(t:TypeId):List (Nat×Bool):=
 match P.underlying t with
 |some (.struct fs)=>fs.toList.map fun f=>(f.offset,match P.underlying f.type with|some (.int _)=>true|_=>false)
 |_=>[]
def cI0(P:Program)(o:Op):Option I:=
 match o with
 |.move x|.assign x=>(cX x).map .mv
 |.pick c a b=>do some (.pick (<-cX c) (<-cX a) (<-cX b))
 |.alloc e=>(zeroB P e).map .alloc
 |.box e x=>do some (.box (<-sizeB P e) (<-cX x))
 |.load t x=>do some (.ld (!(<-isAggB P t)) (<-sizeB P t) (<-cX x))
 |.store t a x=>do some (.st (<-sizeB P t) (<-cX a) (<-cX x))
 |.nilCheck x=>(cX x).map .nilc
 |.binOp op t x y _=>
  match P.underlying t with
  |some (.int _)=>do some (.bin op (<-cX x) (<-cX y))
  |some .bool=>
   match op with
   |.eql=>do some (.eqs false (<-cX x) (<-cX y))
   |.neq=>do some (.eqs true (<-cX x) (<-cX y))
   |_=>none
  |some (.struct _)=>
   if flatEq P t then
    match op with
    |.eql=>do some (.seq false (offsB P t) (<-cX x) (<-cX y))
    |.neq=>do some (.seq true (offsB P t) (<-cX x) (<-cX y))
    |_=>none
   else none
  |some (.slice _)=>
   match op,y with
   |.eql,.const (.slice none 0 0)=>(cX x).map (.nils false)
   |.neq,.const (.slice none 0 0)=>(cX x).map (.nils true)
   |_,_=>none
  |_=>none
 |.unOp op _ x=>do some (.un op (<-cX x))
 |.makeSlice t len cap=>
  match P.underlying t with
  |some (.slice e)=>do
   let sz<-sizeB P e
   let z<-zeroB P e
   let i<-P.info? e
   if 0<sz/\z.length=sz then some (.mks e sz i.bytes z (<-cX len) (<-cX cap))else none
  |_=>none
 |.makeMap t none=>
  match P.underlying t with
  |some (.map k e)=>match P.underlying k,P.underlying e with|some (.int kk),some (.int ek)=>some (.mkm kk ek)|_,_=>none
  |_=>none
 |.lookup t x i false=>
  match P.underlying t with
  |some (.map k e)=>
   match P.underlying k,P.underlying e,(P.info? e).bind (·.zero)with
   |some (.int kk),some (.int ek),some (.int ek' z)=>if ek'=ek/\z=0 then do some (.mget kk ek (<-cX x) (<-cX i))else none
   |_,_,_=>none
  |_=>none
 |.mapUpdate t x i v=>
  match P.underlying t with
  |some (.map k e)=>match P.underlying k,P.underlying e with|some (.int kk),some (.int ek)=>do some (.mput kk ek (<-cX x) (<-cX i) (<-cX v))|_,_=>none
  |_=>none
 |.makeFunc (.func f) first caps=>if first.size=0 then do some (.mkfn f (<-cXs caps.toList))else none
 |.fieldAddr s x f=>
  match P.underlying s with
  |some (.struct fs)=>do
   let fd<-fs[f]?
   if(<-sizeB P fd.type)≠0 then some (.fa fd.offset (<-cX x))else none
  |_=>none
 |.indexAddr t x i=>
  match P.underlying t with
  |some (.slice e)=>do some (.ia (<-sizeB P e) (<-cX x) (<-cX i))
  |some (.array n e)=>do some (.iap n (<-sizeB P e) (<-cX x) (<-cX i))
  |_=>none
 |.field t x f=>
  match P.underlying t with
  |some (.struct fs)=>do let f<-fs[f]?;some (.fld (!(<-isAggB P f.type)) (<-sizeB P f.type) f.offset (<-cX x))
  |_=>none
 |.build t parts=>
  match P.underlying t with
  |some (.struct fs)=>
   match fs.toList.mapM (fun f=>(P.info? f.type).map fun i=>(f.offset,i.size)),zeroB P t with
   |some places,some z=>(parts.toList.mapM (cPart places)).map fun ps=> .bld z ps
   |_,_=>none
  |_=>none
 |.extract x i=>do some (.ext (<-cX x) i)
 |.slice t x lo hi none=>
  match P.underlying t with
  |some (.slice e)=>do some (.slc (<-sizeB P e) (<-cX x) (<-cOX lo) (<-cOX hi))
  |_=>none
 |.buildSlice t n parts=>
  match P.underlying t with
  |some (.slice e)=>do
   let sz<-sizeB P e
   let z<-zeroB P e
   if parts.toList.map (·.1)=List.range n/\0<sz/\n*sz<=2^24/\z.length=sz then some (.bsl e sz (<-cXs (parts.toList.map (·.2))))else none
  |_=>none
 |.call c=>
  match c.callee with
  |.value f=>do some (.call (<-cX f) (<-cXs c.args.toList))
  |.builtin .len=>
   match c.args.toList,c.argTypes.toList with
   |[x],[t]=>(match P.underlying t with|some (.slice _)=>(cX x).map .len|_=>none)
   |_,_=>none
  |.builtin .max=>match c.args.toList with|[x,y]=>do some (.mm true (<-cX x) (<-cX y))|xs=>(cXs xs).map (.mmn true)
  |.builtin .min=>match c.args.toList with|[x,y]=>do some (.mm false (<-cX x) (<-cX y))|xs=>(cXs xs).map (.mmn false)
  |.builtin .append=>
   match c.args.toList,c.argTypes.toList with
   |[s,x],[t,u]=>
    if t=u then
     match P.underlying t with
     |some (.slice e)=>match P.info? e with|some i=>if 0<i.size/\(i.zero.any fun z=>z.cells.size=i.size)then do some (.app e i.size i.bytes (<-cX s) (<-cX x))else none|none=>none
     |_=>none
    else none
   |_,_=>none
  |_=>none
 |_=>none
def rawB:Op->Bool
 |.defer _=>false
 |_=>true
def ZDd(o:Op):Option I:=if rawB o=true then some (.raw o)else none
def cPrim(P:Program):Op->Option (Prim×List Operand)
 |.binOp op t x y _=>match P.underlying t with|some .string=>some (.sbin op,[x,y])|_=>none
 |.call {callee:=.builtin .len,args:=args,argTypes:=ts,..} =>
  match args.toList,ts.toList with
  |[x],[t]=>(match P.underlying t with|some .string=>some (.slen,[x])|_=>none)
  |_,_=>none
 |.index t x i=>match P.underlying t with|some .string=>some (.sidx,[x,i])|_=>none
 |.slice t x lo hi none=>match P.underlying t with|some .string=>some (.sslc lo.isSome hi.isSome,x::(lo.toList++hi.toList))|_=>none
 |.convert s d x=>match P.underlying s,P.underlying d with|some (.int _),some (.int k)=>some (.conv k,[x])|_,_=>none
 |_=>none
def cI(P:Program)(o:Op):Option I:=
 match cPrim P o with
 |some (p,l)=>(match cXs l with|some xs=>some (.prim p xs)|none=>ZDd o)
 |none=>(match cI0 P o with|some i=>some i|none=>ZDd o)
def ZhY(ops:Array Oper)(o:Oper):Option (Option (Nat×Bool)):=
 match o.guard with
 |none=>some none
 |some (j,want)=>match(ops[j]?).bind (·.dst)with|some t=>some (some (t,want))|none=>none
def cOp(P:Program)(N:Nat)(ops:Array Oper)(o:Oper):Option Ins:=
 match cI P o.op,ZhY ops o with
 |some i,some g=>if(o.dst.all (·<N))then some ⟨o.dst,i,g,true⟩else none
 |_,_=>none
def I.xs:I->List X
 |.mv x|.un _ x|.fa _ x|.ld _ _ x|.ldd _ _ x|.nilc x|.len x|.ext x _|.fld _ _ _ x|.box _ x=>[x]
 |.pick c a b=>[c,a,b]
 |.bin _ x y|.eqs _ x y|.ia _ x y|.mm _ x y|.st _ x y|.app _ _ _ x y|.mks _ _ _ _ x y|.seq _ _ x y|.iap _ _ x y=>[x,y]
 |.mmn _ xs=>xs
 |.nils _ x=>[x]
 |.slc _ x lo hi=>x::(lo.toList++hi.toList)
 |.mkfn _ caps=>caps
 |.bld _ ps=>ps.map (·.2.2)
 |.alloc _=>[]
 |.mkm _ _=>[]
 |.mget _ _ x i=>[x,i]
 |.mput _ _ x i v=>[x,i,v]
 |.appv _ _ _ s x=>[s,x]
 |.bslv _ _ xs=>xs
 |.bsl _ _ xs=>xs
 |.call f xs=>f::xs
 |.calln f xs=>f::xs
 |.prim _ xs=>xs
 |.raw _=>[]
mutual
def AV.pureB:AV->Bool
 |.bp _ _=>false
 |.gr _=>false
 |.vw _ _ _ _ _=>false
 |.agg cs=>AV.pureL cs
 |.tup cs=>AV.pureL cs
 |.fn _ cs=>AV.pureL cs
 |.opt _ x=>AV.pureB x
 |.non=>true
 |.c _=>true
def AV.pureL:List AV->Bool
 |[]=>true
 |a::as=>AV.pureB a&&AV.pureL as
end
def X.tmp? :X->Option Nat
 |.t n=>some n
 |.k _=>none
def Ins.looks(i:Ins):List Nat:=i.i.xs.filterMap X.tmp? ++(match i.g with|some (t,_)=>[t]|none=>[])
def X.okB:X->Bool
 |.t _=>true
 |.k v=>v.pureB
def I.readsBox:I->Bool
 |.ld _ _ _=>true
 |_=>false
def I.writesBox:I->Bool
 |.st _ _ _=>true
 |_=>false
def I.readsGrow:I->Bool
 |.ia _ _ _|.len _|.slc _ _ _ _|.call _ _|.app _ _ _ _ _|.bld _ _=>true
 |.bsl _ _ xs=> !xs.isEmpty
 |_=>false
def I.consumes:I->Bool
 |.app _ _ _ _ _=>true
 |_=>false
def I.creates:I->Bool
 |.alloc _|.box _ _|.bsl _ _ _|.app _ _ _ _ _|.mks _ _ _ _ _ _=>true
 |_=>false
def I.constB:I->Bool
 |.bld z _=>AV.pureL z
 |.alloc z=>AV.pureL z
 |.mks _ _ _ z _ _=>AV.pureL z
 |_=>true
def I.putsB:I->Bool
 |.alloc _|.box _ _|.bsl _ _ _|.app _ _ _ _ _|.st _ _ _|.mks _ _ _ _ _ _=>false
 |_=>true
def I.stays:I->Bool
 |.mmn _ _|.seq _ _ _ _|.nils _ _|.mkm _ _|.mget _ _ _ _|.mput _ _ _ _ _|.appv _ _ _ _ _|.bslv _ _ _|.calln _ _|.raw _=>true
 |_=>false
def I.callB:I->Bool
 |.call _ _=>true
 |_=>false
def comm(i j:Ins):Bool:=
 !i.s&& !j.s&& !i.i.stays&& !j.i.stays&&
 (match i.d with|some d=> !j.looks.contains d&&j.d !=some d|none=>true)&&
 (match j.d with|some d=> !i.looks.contains d|none=>true)&&
 i.i.xs.all X.okB&&j.i.xs.all X.okB&&i.i.constB&&j.i.constB&&
 ((j.i.putsB&& !(i.i.writesBox&&j.i.readsBox))||(i.i.putsB&& !i.i.callB&&j.i.creates&& !(i.i.readsGrow&&j.i.consumes))||(i.i.putsB&& !i.i.readsBox&&j.i.writesBox))
def I.callnB:I->Bool
 |.calln _ _=>true
 |_=>false
def I.makesB:I->Bool
 |.alloc _=>true
 |.mks _ _ _ _ _ _=>true
 |_=>false
def Zii(i j:Ins):Bool:=
 !i.s&& !i.i.stays&&j.s&&j.i.callnB&&j.g.isNone&&
 (match i.d with|some d=> !j.looks.contains d&&j.d !=some d|none=>false)&&
 (match j.d with|some d=> !i.looks.contains d|none=>false)&&
 i.i.xs.all X.okB&&j.i.xs.all X.okB&&i.i.constB&&((i.i.putsB&& !i.i.callB)||(i.i.makesB&&i.g.isNone))
def ZhR(acc:List Nat)(o:Oper):List Nat:=
 acc++[o.after.toList.foldl (fun m e=>if Region.binds .any e then m|||2^e.on|||acc.getD e.on 0 else m) 0]
def ZGf(ops:Array Oper):List Nat:=ops.toList.foldl ZhR []
def Zm6(ops:Array Oper)(k:Nat)(_ j:Nat):Bool:=((ZGf ops).getD j 0).testBit k
def ZzD(ops:Array Oper)(k:Nat):Bool:=(List.range ops.size).all fun j=>j==k||Zm6 ops k ops.size j||Zm6 ops j ops.size k
def Zsj(m:List Nat)(i:Ins):Bool:=i.i.stays||match i.d with|some d=>m.contains d|none=>false
def vwI(m:List Nat)(i:Ins):Ins:=
 match i.d,i.i with
 |some d,.app e sz b s x=>if m.contains (100000+d)then{i with i:=.appv e sz b s x}else i
 |some d,.bsl e sz xs=>if m.contains (100000+d)then{i with i:=.bslv e sz xs}else i
 |some d,.ld one sz x=>if m.contains (200000+d)then{i with i:=.ldd one sz x}else i
 |some d,.call f xs=>if m.contains (300000+d)then{i with i:=.calln f xs}else i
 |_,_=>i
def Vw(x y:I):Prop:=y=x\/(∃e sz b s z,x= .app e sz b s z/\y= .appv e sz b s z)\/(∃e sz xs,x= .bsl e sz xs/\y= .bslv e sz xs)\/(∃one sz z,x= .ld one sz z/\y= .ldd one sz z)\/∃f xs,x= .call f xs/\y= .calln f xs
def Zud(m:List Nat)(i:Ins):Vw i.i (vwI m i).i/\(vwI m i).d=i.d/\(vwI m i).g=i.g/\(vwI m i).s=i.s:=by obtain⟨d,ii,g,s⟩:=i;unfold vwI;split;{rename_i d' e sz b s x h1 h2;simp only at h1 h2;subst h1;subst h2;split;{exact⟨.inr (.inl ⟨_,_,_,_,_,rfl,rfl⟩),rfl,rfl,rfl⟩};{exact⟨.inl rfl,rfl,rfl,rfl⟩}};{rename_i d' e sz xs h1 h2;simp only at h1 h2;subst h1;subst h2;split;{exact⟨.inr (.inr (.inl ⟨_,_,_,rfl,rfl⟩)),rfl,rfl,rfl⟩};{exact⟨.inl rfl,rfl,rfl,rfl⟩}};{rename_i d' one sz z h1 h2;simp only at h1 h2;subst h1;subst h2;split;{exact⟨.inr (.inr (.inr (.inl ⟨_,_,_,rfl,rfl⟩))),rfl,rfl,rfl⟩};{exact⟨.inl rfl,rfl,rfl,rfl⟩}};{rename_i d' f xs h1 h2;simp only at h1 h2;subst h1;subst h2;split;{exact⟨.inr (.inr (.inr (.inr ⟨_,_,rfl,rfl⟩))),rfl,rfl,rfl⟩};{exact⟨.inl rfl,rfl,rfl,rfl⟩}};{exact⟨.inl rfl,rfl,rfl,rfl⟩}
def ZeA(m:List Nat)(ops:Array Oper)(is:List Ins):List Ins:=is.mapIdx fun k i=> {vwI m i with s:=ZzD ops k||Zsj m (vwI m i)}
def Zyg(ops:Array Oper)(is:List Ins)(listed:Array Bool)(k:Nat):Bool:=
 (List.range ops.size).all fun j=>j==k||listed.getD j true||Zm6 ops k ops.size j||
   (match is[k]?,is[j]? with|some i,some i'=>comm i i'||Zii i i'|_,_=>false)
def OT.consAt(is:List Ins)(k:Nat)(t:Option OT):Option OT:=
 match is[k]?,t with
 |some i,some t=>some (.cons i t)
 |_,_=>none
def ZpG(ops:Array Oper)(is:List Ins):Nat->Array Bool->Option OT
 |0,listed=>if(Region.ready .any ops listed).isEmpty then some .nil else none
 |n+1,listed=>
  if(Region.ready .any ops listed).isEmpty then some .nil else
  match(Region.ready .any ops listed).find? (Zyg ops is listed)with
  |some k=>OT.consAt is k (ZpG ops is n (listed.setIfInBounds k true))
  |none=>
   match Region.ready .any ops listed with
   |[k]=>OT.consAt is k (ZpG ops is n (listed.setIfInBounds k true))
   |_=>((Region.ready .any ops listed).mapM fun k=>OT.consAt is k (ZpG ops is n (listed.setIfInBounds k true))).map .br
def OT.list? :OT->Option (List Ins)
 |.nil=>some []
 |.cons i t=>(OT.list? t).map (i:: ·)
 |.br _=>none
def ZlR(P:Program)(m:List Nat)(ops:Array Oper)(is:List Ins):Option VC:=
 if is.length==ops.size&&P.follows .mixedOrders then
  match ZpG ops (ZeA m ops is) ops.size (Array.replicate ops.size false)with
  |some t=>match t.list? with|some l=>some (.dops l)|none=>some (.drw t)
  |none=>none
 else none
def comp(P:Program)(N:Nat)(m:List Nat):Code->Option VC
 |.skip=>some .skip
 |.region _ ops draw=>
  match ops.toList.mapM (cOp P N ops)with
  |some is=>if draw then ZlR P m ops is else some (.ops (is.map (vwI m)))
  |none=>some .bad
 |.seq a b=>do some (.seq (<-comp P N m a) (<-comp P N m b))
 |.cond x a b=>do some (.cond (<-cX x) (<-comp P N m a) (<-comp P N m b))
 |.block id a=>(comp P N m a).map (.block id)
 |.loop a=>(comp P N m a).map .loop
 |.exit id=>some (.exit id)
 |.ret=>some .ret
 |.rangeFunc g ps a b=>if ps.toList.all (·<N)then do some (.rng (<-cX g) ps.toList (<-comp P N m a) (<-comp P N m b))else none
 |_=>some .bad
inductive RV where
 |t (n:Nat)
 |cell (n:Nat) (one:Bool) (sz:Nat)
 deriving Inhabited
def Zx2(P:Program):ResultVar->Option RV
 |.tmp t=>some (.t t)
 |.cell a t=>do some (.cell a (!(<-isAggB P t)) (<-sizeB P t))
structure FC where
 np:Nat
 N:Nat
 rs:List RV
 body:VC
def compM(P:Program)(m:List Nat)(f:FuncId):Option FC:=
 match P.funcs[f]? with
 |some fn=>
  match fn.body with
  |some c=>do
   let vc<-comp P fn.ntmps m c
   let rs<-fn.results.toList.mapM (Zx2 P)
   if(fn.name != "runtime.NumGoroutine") && fn.params.size + fn.nfree <= fn.ntmps then some ⟨fn.params.size + fn.nfree,fn.ntmps,rs,vc⟩else none
  |none=>none
 |none=>none
end Go.V
namespace Go.V
def AV.dg:AV->Bool
 |.opt g _=>g
 |_=>true
def AV.dv:AV->AV
 |.opt _ v=>v
 |v=>v
def AV.asC:AV->Option CD
 |.c d=>some d
 |_=>none
def CD.isBo:CD->Bool
 |.bool _=>true
 |_=>false
def CD.bo:CD->Bool
 |.bool b=>b
 |_=>false
def AV.isBo(x:AV):Bool:=match x.asC with|some d=>d.isBo|none=>false
def AV.bo(x:AV):Bool:=match x.asC with|some d=>d.bo|none=>false
def St.val(σ:St):X->AV
 |.t n=>σ.env n
 |.k v=>v
def St.put(σ:St)(d:Option Nat)(v:AV):St:=
 match d with
 |some d=>⟨upd σ.env d v,σ.own⟩
 |none=>σ
def Ob.isNone:Ob->Bool
 |.none=>true
 |_=>false
def Ob.isBox:Ob->Bool
 |.box _=>true
 |_=>false
def AV.elems(own:Nat->Ob):AV->Option (List (List CD))
 |.c (.sl _ es)=>some es
 |.c (.raw (.slice none 0 0))=>some []
 |.gr n=>match own n with|.grow _ _ es=>some es|_=>none
 |_=>none
def AV.elemsZ(own:Nat->Ob):AV->Option (Nat×List (List CD))
 |.c (.sl sz es)=>some (sz,es)
 |.gr n=>match own n with|.grow _ sz es=>some (sz,es)|_=>none
 |_=>none
def AV.rawLen:AV->Option Nat
 |.c (.raw (.slice (some _) n _))=>some n
 |_=>none
def ZDh(op:BinOp)(k:IntKind)(a b:Int):Option (Prop×CD):=
 match op with
 |.add=>some (True,.int k (k.wrap (a+b)))
 |.sub=>some (True,.int k (k.wrap (a -b)))
 |.mul=>some (True,.int k (k.wrap (a*b)))
 |.quo=>some (b≠0,.int k (k.wrap (a.tdiv b)))
 |.rem=>some (b≠0,.int k (a.tmod b))
 |.eql=>some (True,.bool (a==b))
 |.neq=>some (True,.bool (a !=b))
 |.lss=>some (True,.bool (decide (a<b)))
 |.leq=>some (True,.bool (decide (a<=b)))
 |.gtr=>some (True,.bool (decide (a>b)))
 |.geq=>some (True,.bool (decide (a≥b)))
 |_=>none
def ZDp(op:BinOp)(k:IntKind)(a:Int)(k':IntKind)(b:Int):Option (Prop×CD):=
 match op with
 |.shl=>some (0<=b/\b<=k.bits,.int k (k.wrap (a*2^b.toNat)))
 |.shr=>some (0<=b/\b<=k.bits,.int k (a/2^b.toNat))
 |.and=>some (k=k',.int k (Go.bits .and k a b))
 |.or=>some (k=k',.int k (Go.bits .or k a b))
 |_=>none
def ZDD:BinOp->Option (Prop×AV)
 |.eql|.neq|.lss|.leq|.gtr|.geq=>some (False,.c (.bool false))
 |.add|.sub|.mul=>some (False,.c (.int .i64 0))
 |_=>none
def AV.cellsA(own:Nat->Ob):AV->Option (List AV)
 |.agg cs=>some cs
 |.c d=>some [.c d]
 |.bp n o=>if(own n).isNone then none else some [.bp n o]
 |.gr n=>if(own n).isNone then none else some [.gr n]
 |.vw sz n off len cap=>if(own n).isNone then none else some [.vw sz n off len cap]
 |.fn f cs=>some [.fn f cs]
 |_=>none
def splice{α:Type}(cs:List α)(o:Nat)(vs:List α):List α:=cs.take o++(vs++cs.drop (o+vs.length))
def ZmT{α:Type}(cs:List α)(o:Nat):List α->List α
 |[v]=>cs.set o v
 |vs=>splice cs o vs
def bldGo(σ:St):List (Nat×Nat×X)->List AV->Option (Prop×List AV)
 |[],cs=>some (True,cs)
 |(off,sz,x)::ps,cs=>
  match(σ.val x).dv.cellsA σ.own with
  |some vs=>
   if vs.length=sz/\off+sz<=cs.length then
    match bldGo σ ps (splice cs off vs)with
    |some (p,r)=>some ((σ.val x).dg=true/\p,r)
    |none=>none
   else none
  |none=>none
def bound(σ:St)(dflt:Nat):Option X->Option (Prop×Int)
 |none=>some (True,dflt)
 |some x=>match(σ.val x).dv.asC with|some (.int _ n)=>some ((σ.val x).dg=true,n)|_=>none
def ZmI:Prim->Option (Prop×AV)
 |.slen=>some (False,.c (.int .i64 0))
 |.sbin .add=>some (False,.c (.str []))
 |_=>none
def ZmJ(p:Prim)(vs:List AV)(g:Bool):Option (Prop×AV):=
 match vs.mapM AV.asC with
 |some ds=>(match p.ev ds with|some (q,d)=>some (g=true/\q,.c d)|none=>ZmI p)
 |none=>none
def pevO(σ:St):I->Option (Prop×AV)
 |.mv x=>some ((σ.val x).dg=true,(σ.val x).dv)
 |.pick c a b=>
  match(σ.val c).dv.asC with
  |some (.bool q)=>some ((σ.val c).dg=true/\(q=true->(σ.val a).dg=true/\(σ.val a).dv.isBo=true)/\(q=false->(σ.val b).dg=true/\(σ.val b).dv.isBo=true),.c (.bool (bif q then(σ.val a).dv.bo else(σ.val b).dv.bo)))
  |_=>none
 |.bin op x y=>
  match(σ.val x).dv.asC,(σ.val y).dv.asC with
  |some (.int k a),some (.int k' b)=>
   match ZDh op k a b with
   |some (p,d)=>some ((σ.val x).dg=true/\(σ.val y).dg=true/\k=k'/\p,.c d)
   |none=>
    match ZDp op k a k' b with
    |some (p,d)=>some ((σ.val x).dg=true/\(σ.val y).dg=true/\p,.c d)
    |none=>none
  |some _,some _=>ZDD op
  |_,_=>none
 |.prim p xs=>ZmJ p (xs.map fun x=>(σ.val x).dv) (xs.all fun x=>(σ.val x).dg)
 |.eqs ne x y=>
  match(σ.val x).dv.asC,(σ.val y).dv.asC with
  |some (.bool a),some (.bool b)=>some ((σ.val x).dg=true/\(σ.val y).dg=true,.c (.bool (bif ne then !(a==b)else a==b)))
  |_,_=>none
 |.un op x=>
  match op,(σ.val x).dv.asC with
  |.not,some (.bool b)=>some ((σ.val x).dg=true,.c (.bool (!b)))
  |.neg,some (.int k n)=>some ((σ.val x).dg=true,.c (.int k (k.wrap (0 -n))))
  |_,_=>none
 |.fa off x=>
  match(σ.val x).dv with
  |.c (.pt cs)=>some ((σ.val x).dg=true,.c (.pt (cs.drop off)))
  |.bp n o=>if(σ.own n).isBox then some ((σ.val x).dg=true,.bp n (o+off))else none
  |_=>none
 |.ia sz x i=>
  match(σ.val x).dv.elemsZ σ.own,(σ.val i).dv.asC with
  |some (sz',es),some (.int _ j)=>if sz'=sz then some ((σ.val x).dg=true/\(σ.val i).dg=true/\0<=j/\j<es.length,.c (.pt (es.getD j.toNat [])))else none
  |_,_=>none
 |.ld one sz x=>
  match(σ.val x).dv with
  |.c (.pt cs)=>
   if one then some ((σ.val x).dg=true/\0<cs.length,.c (cs.getD 0 default))
   else some ((σ.val x).dg=true/\sz<=cs.length,.agg ((cs.take sz).map .c))
  |.bp n o=>
   match σ.own n with
   |.box cs=>
    if one then some ((σ.val x).dg=true/\o<cs.length,cs.getD o .non)
    else some ((σ.val x).dg=true/\o+sz<=cs.length,.agg ((cs.drop o).take sz))
   |_=>none
  |_=>none
 |.ldd one sz x=>
  match(σ.val x).dv with
  |.c (.pt cs)=>
   if one then some ((σ.val x).dg=true/\0<cs.length,.c (cs.getD 0 default))
   else some ((σ.val x).dg=true/\sz<=cs.length,.agg ((cs.take sz).map .c))
  |_=>none
 |.nilc x=>
  match(σ.val x).dv with
  |.c (.pt cs)=>some ((σ.val x).dg=true,.c (.pt cs))
  |.bp n o=>if(σ.own n).isBox then some ((σ.val x).dg=true,.bp n o)else none
  |_=>none
 |.len x=>
  match(σ.val x).dv.rawLen with
  |some n=>some ((σ.val x).dg=true,.c (.int .i64 n))
  |none=>
   match(σ.val x).dv.elems σ.own with
   |some es=>some ((σ.val x).dg=true,.c (.int .i64 es.length))
   |none=>none
 |.mm mx x y=>
  match(σ.val x).dv.asC,(σ.val y).dv.asC with
  |some (.int k a),some (.int k' b)=>some ((σ.val x).dg=true/\(σ.val y).dg=true/\k=k',.c (.int k (bif mx then max a b else min a b)))
  |_,_=>none
 |.ext x i=>
  match(σ.val x).dv with
  |.tup vs=>match vs[i]? with|some v=>some ((σ.val x).dg=true,v)|none=>none
  |_=>none
 |.fld one sz off x=>
  match(σ.val x).dv with
  |.agg cs=>
   if one then
    match cs[off]? with
    |some d=>some ((σ.val x).dg=true,d)
    |none=>none
   else some ((σ.val x).dg=true/\off+sz<=cs.length,.agg ((cs.drop off).take sz))
  |_=>none
 |.slc sz x lo hi=>
  match(σ.val x).dv.elemsZ σ.own with
  |some (sz',es)=>
   if sz'=sz then
    match bound σ 0 lo,bound σ es.length hi with
    |some (p,l),some (q,h)=>some ((σ.val x).dg=true/\p/\q/\0<=l/\l<=h/\h<=es.length,.c (.sl sz ((es.take h.toNat).drop l.toNat)))
    |_,_=>none
   else none
  |none=>none
 |.mkfn f caps=>some (caps.all (fun x=>(σ.val x).dg)=true,.fn f (caps.map fun x=>(σ.val x).dv))
 |.bld zero parts=>(bldGo σ parts zero).map fun(p,cs)=>(p,.agg cs)
 |.iap n sz x i=>
  match(σ.val i).dv.asC with
  |some (.int _ j)=>
   match(σ.val x).dv with
   |.bp m o=>if(σ.own m).isBox then some ((σ.val x).dg=true/\(σ.val i).dg=true/\0<=j/\j<n,.bp m (o+j.toNat*sz))else none
   |.c (.pt cs)=>some ((σ.val x).dg=true/\(σ.val i).dg=true/\0<=j/\j<n,.c (.pt (cs.drop (j.toNat*sz))))
   |_=>none
  |_=>none
 |_=>none
def vwp(σ:St):I->Option (Prop×AV)
 |.ia sz x i=>
  match(σ.val x).dv with
  |.vw sz' n off len _=>
   if(σ.own n).isBox then
    match(σ.val i).dv.asC with
    |some (.int _ j)=>if sz'=sz then some ((σ.val x).dg=true/\(σ.val i).dg=true/\0<=j/\j<len,.bp n (off+j.toNat*sz))else none
    |_=>none
   else none
  |_=>none
 |.len x=>
  match(σ.val x).dv with
  |.vw _ n _ len _=>if(σ.own n).isBox then some ((σ.val x).dg=true,.c (.int .i64 len))else none
  |_=>none
 |.slc sz x lo hi=>
  match(σ.val x).dv with
  |.vw sz' n off len cap=>
   if(σ.own n).isBox then
    if sz'=sz then
     match bound σ 0 lo,bound σ len hi with
     |some (p,l),some (q,h)=>some ((σ.val x).dg=true/\p/\q/\0<=l/\l<=h/\h<=cap,.vw sz n (off+l.toNat*sz) (h -l).toNat (cap -l.toNat))
     |_,_=>none
    else none
   else none
  |_=>none
 |_=>none
def pev(σ:St)(i:I):Option (Prop×AV):=
 match vwp σ i with
 |some r=>some r
 |none=>pevO σ i
mutual
def AV.prg(d:Nat):AV->AV
 |.bp m o=>if m=d then .non else .bp m o
 |.gr m=>if m=d then .non else .gr m
 |.vw sz m off len cap=>if m=d then .non else .vw sz m off len cap
 |.agg cs=> .agg (AV.prgL d cs)
 |.tup cs=> .tup (AV.prgL d cs)
 |.fn f cs=> .fn f (AV.prgL d cs)
 |.opt g x=> .opt g (AV.prg d x)
 |.non=> .non
 |.c x=> .c x
def AV.prgL(d:Nat):List AV->List AV
 |[]=>[]
 |a::as=>AV.prg d a::AV.prgL d as
end
def Ob.prg(d:Nat):Ob->Ob
 |.box cs=> .box (AV.prgL d cs)
 |.win cs=> .win (AV.prgL d cs)
 |o=>o
def ZdI(d:Nat)(f:Nat->AV):Nat->AV:=fun t=>(f t).prg d
def ZbE(d:Nat)(f:Nat->Ob):Nat->Ob:=fun t=>(f t).prg d
def St.new(σ:St)(d:Nat)(r:AV)(o:Ob):St:=⟨upd (ZdI d σ.env) d r,upd (ZbE d σ.own) d (o.prg d)⟩
def AV.oneB:AV->Bool
 |.c _=>true
 |.bp _ _=>true
 |.gr _=>true
 |.vw _ _ _ _ _=>true
 |.fn _ _=>true
 |_=>false
def AV.toCD(own:Nat->Ob):AV->Option CD
 |.c d=>some d
 |.gr n=>match own n with|.grow _ sz es=>some (.sl sz es)|_=>none
 |_=>none
def AV.cds(own:Nat->Ob):AV->Option (List CD)
 |.agg cs=>cs.mapM (AV.toCD own)
 |v=>(v.toCD own).map fun d=>[d]
def mev(σ:St)(d:Option Nat)(i:I):Option (Prop×St):=
 match d,i with
 |some d,.alloc cs=>some ((σ.own d).isNone=true,σ.new d (.bp d 0) (.box cs))
 |some d,.box sz x=>
  match(σ.val x).dv.cellsA σ.own with
  |some cs=>some ((σ.own d).isNone=true/\(σ.val x).dg=true/\cs.length=sz,σ.new d (.bp d 0) (.box cs))
  |none=>none
 |none,.st sz x y=>
  match(σ.val x).dv,(σ.val y).dv.cellsA σ.own with
  |.bp n o,some vs=>
   match σ.own n with
   |.box cs =>some ((σ.val x).dg = true /\ (σ.val y).dg = true /\ vs.length = sz /\ o + sz <= cs.length /\ vs.all AV.oneB = true,
     ⟨σ.env,upd σ.own n (.box (ZmT cs o vs))⟩)
   |_=>none
  |_,_=>none
 |some d,.mks _ sz bytes z x y=>
  match(σ.val x).dv.asC,(σ.val y).dv.asC with
  |some (.int _ l),some (.int _ c)=>
   some ((σ.own d).isNone = true /\ (σ.val x).dg = true /\ (σ.val y).dg = true /\ 0 <= l /\ l <= c /\ bytes * c.toNat <= 281474976710656 /\ c.toNat <= maxLen,
    σ.new d (.vw sz d 0 l.toNat c.toNat) (.box (List.replicate c.toNat z).flatten))
  |_,_=>none
 |some d,.bsl e sz parts=>
  match parts.mapM fun x=>(σ.val x).dv.cds σ.own with
  |some es=>some ((σ.own d).isNone=true/\(parts.all fun x=>(σ.val x).dg)=true/\(es.all fun e=>e.length==sz)=true,σ.new d (.gr d) (.grow e sz es))
  |none=>none
 |some d,.app e sz bytes s x=>
  match(σ.val s).dv,(σ.val x).dv.elems σ.own with
  |.gr n,some ys=>
   match σ.own n with
   |.grow e' sz' es=>
    if e'=e/\sz'=sz then
     some ((σ.val s).dg = true /\ (σ.val x).dg = true /\ (upd σ.own n .none d).isNone = true /\ (ys.all fun e =>e.length == sz) = true /\ es.length + ys.length <= maxLen /\ (es.length + ys.length) * bytes <= 140737488355328,
      St.new ⟨σ.env,upd σ.own n .none⟩ d (.gr d) (.grow e sz (es++ys)))
    else none
   |_=>none
  |.c (.raw (.slice none 0 0)),some ys=>
   some ((σ.val s).dg = true /\ (σ.val x).dg = true /\ (σ.own d).isNone = true /\ (ys.all fun e =>e.length == sz) = true /\ ys.length <= maxLen /\ ys.length * bytes <= 140737488355328,
    σ.new d (.gr d) (.grow e sz ys))
  |_,_=>none
 |_,_=>none
mutual
def AV.port(own:Nat->Ob):AV->Option AV
 |.c d=>some (.c d)
 |.gr n=>match own n with|.grow _ sz es=>some (.c (.sl sz es))|_=>none
 |.agg cs=>(AV.portL own cs).map .agg
 |.tup cs=>(AV.portL own cs).map .tup
 |.fn f cs=>(AV.portL own cs).map (.fn f)
 |.non=>none
 |.bp _ _=>none
 |.vw _ _ _ _ _=>none
 |.opt _ _=>none
def AV.portL(own:Nat->Ob):List AV->Option (List AV)
 |[]=>some []
 |a::as=>
  match AV.port own a,AV.portL own as with
  |some x,some xs=>some (x::xs)
  |_,_=>none
end
def St.guard(σ:St)(g:Nat×Bool):Option Bool:=
  match σ.env g.1 with
  |.c (.bool b)=>some (b==g.2)
  |.opt q (.c (.bool b))=>some (q&&(b==g.2))
  |_=>none
def Ob.cellsR:Ob->Option (List AV)
 |.box cs=>some cs
 |.win cs=>some cs
 |_=>Option.none
def grp{α:Type}(sz:Nat):Nat->List α->List (List α)
 |0,_=>[]
 |n+1,l=>l.take sz::grp sz n (l.drop sz)
def AV.elemsV(own:Nat->Ob):AV->Option (Nat×List (List CD))
 |.vw sz n off len _=>
  match(own n).cellsR with
  |some cs=>if off+len*sz<=cs.length then(((cs.drop off).take (len*sz)).mapM (AV.toCD own)).map fun ds=>(sz,grp sz len ds)else none
  |none=>none
 |_=>none
def ZCp(mx:Bool)(k:IntKind)(σ:St):Int->List X->Option (Prop×Int)
 |a,[]=>some (True,a)
 |a,x::xs=>
  match(σ.val x).dv.asC with
  |some (.int k' b)=>
   match ZCp mx k σ (bif mx then max a b else min a b) xs with
   |some (p,r)=>some ((σ.val x).dg=true/\k'=k/\p,r)
   |none=>none
  |_=>none
def Zft(xs ys:List AV):List (Nat×Bool)->Option Bool
 |[]=>some true
 |(o,true)::os=>
  match xs[o]?,ys[o]?,Zft xs ys os with
  |some (.c (.int k a)),some (.c (.int k' b)),some r=>if k=k' then some (a==b&&r)else none
  |_,_,_=>none
 |(o,false)::os=>
  match xs[o]?,ys[o]?,Zft xs ys os with
  |some (.c (.bool a)),some (.c (.bool b)),some r=>some (a==b&&r)
  |_,_,_=>none
def mget(l:List (Int×Int))(k:Int):Int:=match l with|[]=>0|(a,b)::l=>if k=a then b else mget l k
def mput(l:List (Int×Int))(k v:Int):List (Int×Int):=match l with|[]=>[(k,v)]|(a,b)::l=>if k=a then(a,v)::l else(a,b)::mput l k v
def pvw(σ:St):I->Option (Prop×AV)
 |.fa off x=>
  match(σ.val x).dv with
  |.bp n o=>match σ.own n with|.win _=>some ((σ.val x).dg=true,.bp n (o+off))|_=>none
  |_=>none
 |.nilc x=>
  match(σ.val x).dv with
  |.bp n o=>match σ.own n with|.win _=>some ((σ.val x).dg=true,.bp n o)|_=>none
  |_=>none
 |.ld one sz x=>
  match(σ.val x).dv with
  |.bp n o=>
   match σ.own n with
   |.win cs=>
    if one then some ((σ.val x).dg=true/\o<cs.length,cs.getD o .non)
    else some ((σ.val x).dg=true/\o+sz<=cs.length,.agg ((cs.drop o).take sz))
   |_=>none
  |_=>none
 |.ia sz x i=>
  match(σ.val x).dv,(σ.val i).dv.asC with
  |.vw sz' n off len _,some (.int _ j)=>if sz'=sz then some ((σ.val x).dg=true/\(σ.val i).dg=true/\0<=j/\j<len,.bp n (off+j.toNat*sz))else none
  |_,_=>none
 |.len x=>
  match(σ.val x).dv with
  |.vw _ _ _ len _=>some ((σ.val x).dg=true,.c (.int .i64 len))
  |_=>some (False,.c (.int .i64 0))
 |.slc sz x lo hi=>
  match(σ.val x).dv with
  |.vw sz' n off len cap=>
   if sz'=sz then
    match bound σ 0 lo,bound σ len hi with
    |some (p,l),some (q,h)=>some ((σ.val x).dg=true/\p/\q/\0<=l/\l<=h/\h<=cap,.vw sz n (off+l.toNat*sz) (h -l).toNat (cap -l.toNat))
    |_,_=>none
   else none
  |_=>none
 |.mmn mx (x::xs)=>
  match(σ.val x).dv.asC with
  |some (.int k a)=>
   match ZCp mx k σ a xs with
   |some (p,r)=>some ((σ.val x).dg=true/\p,.c (.int k r))
   |none=>none
  |_=>none
 |.seq ne offs x y=>
  match(σ.val x).dv,(σ.val y).dv with
  |.agg xs,.agg ys=>
   match Zft xs ys offs with
   |some r=>some ((σ.val x).dg=true/\(σ.val y).dg=true,.c (.bool (bif ne then !r else r)))
   |none=>none
  |_,_=>none
 |.iap n sz x i=>
  match(σ.val x).dv,(σ.val i).dv.asC with
  |.bp m o,some (.int _ j)=>some ((σ.val x).dg=true/\(σ.val i).dg=true/\0<=j/\j<n,.bp m (o+j.toNat*sz))
  |.c (.pt cs),some (.int _ j)=>some ((σ.val x).dg=true/\(σ.val i).dg=true/\0<=j/\j<n,.c (.pt (cs.drop (j.toNat*sz))))
  |_,_=>none
 |.nils ne x=>
  match(σ.val x).dv with
  |.vw _ _ _ _ _=>some ((σ.val x).dg=true,.c (.bool ne))
  |.c (.raw (.slice none 0 0))=>some ((σ.val x).dg=true,.c (.bool (!ne)))
  |.c (.sl _ (_::_))=>some ((σ.val x).dg=true,.c (.bool ne))
  |_=>none
 |.mget kk ek x i=>
  match(σ.val x).dv,(σ.val i).dv.asC with
  |.gr n,some (.int k' j)=>
   match σ.own n with
   |.mp kk' ek' l=>if kk'=kk/\ek'=ek/\k'=kk then some ((σ.val x).dg=true/\(σ.val i).dg=true,.c (.int ek (mget l j)))else none
   |_=>none
  |_,_=>none
 |_=>none
def ZhW(σ:St)(sz:Nat):List X->Option (Prop×List AV)
 |[]=>some (True,[])
 |x::xs=>
  match(σ.val x).dv.cellsA σ.own,ZhW σ sz xs with
  |some vs,some (p,cs)=>some ((σ.val x).dg=true/\vs.length=sz/\p,vs++cs)
  |_,_=>none
def mvw(σ:St)(d:Option Nat)(i:I):Option (Prop×St):=
 match d,i with
 |some d,.app _ sz _ s x=>
  match(σ.val s).dv,(σ.val x).dv.elems σ.own with
  |.vw sz' n off len cap,some ys=>
   match σ.own n with
   |.box cs=>
    if sz'=sz then
     some ((σ.val s).dg = true /\ (σ.val x).dg = true /\ off = 0 /\ (ys.all fun e =>e.length == sz) = true /\ len + ys.length <= cap /\ 0 < ys.length /\ (len + ys.length) * sz <= cs.length,
      ⟨upd σ.env d (.vw sz n 0 (len+ys.length) cap),upd σ.own n (.box (ZmT cs (len*sz) (ys.flatten.map .c)))⟩)
    else none
   |_=>none
  |_,_=>none
 |some d,.mkm kk ek=>some ((σ.own d).isNone=true,σ.new d (.gr d) (.mp kk ek []))
 |some d,.bslv _ sz parts=>
  match ZhW σ sz parts with
  |some (p,cs)=>some ((σ.own d).isNone=true/\p,σ.new d (.vw sz d 0 parts.length parts.length) (.box cs))
  |none=>none
 |none,.mput kk ek x i v=>
  match(σ.val x).dv,(σ.val i).dv.asC,(σ.val v).dv.asC with
  |.gr n,some (.int k' j),some (.int k'' y)=>
   match σ.own n with
   |.mp kk' ek' l=>
    if kk'=kk/\ek'=ek/\k'=kk/\k''=ek then
     some ((σ.val x).dg=true/\(σ.val i).dg=true/\(σ.val v).dg=true,⟨σ.env,upd σ.own n (.mp kk ek (mput l j y))⟩)
    else none
   |_=>none
  |_,_,_=>none
 |_,_=>none
def rmv(own:Nat->Ob):Option Nat->Nat->Ob
 |some n=>upd own n .none
 |none=>own
def AV.vbase(own:Nat->Ob)(e sz:Nat):AV->Option (Option Nat×Nat×List AV×Prop)
 |.c (.raw (.slice none 0 0))=>some (none,0,[],True)
 |.gr n=>match own n with|.grow e' sz' []=>some (some n,0,[],e'=e/\sz'=sz)|_=>none
 |.vw sz' n off len cap=>match own n with|.box cs=>some (some n,len,cs.take (len*sz),off=0/\sz'=sz/\cap*sz<=cs.length)|_=>none
 |_=>none
def AV.vcells(own:Nat->Ob)(sz:Nat):AV->Option (Nat×List AV×Prop)
 |.c (.sl _ es)=>some (es.length,es.flatten.map .c,(es.all fun e=>e.length==sz)=true)
 |.gr n=>match own n with|.grow _ _ es=>some (es.length,es.flatten.map .c,(es.all fun e=>e.length==sz)=true)|_=>none
 |.vw sz' n off len _=>match own n with|.box cs=>some (len,(cs.drop off).take (len*sz),sz'=sz/\off+len*sz<=cs.length/\((cs.drop off).take (len*sz)).all AV.oneB=true)|_=>none
 |_=>none
mutual
def AV.vport(own:Nat->Ob):AV->Option AV
 |.c d=>some (.c d)
 |.gr n=>match own n with|.grow _ sz es=>some (.c (.sl sz es))|_=>none
 |.vw sz n off len cap=>(AV.elemsV own (.vw sz n off len cap)).map fun p=> .c (.sl p.1 p.2)
 |.agg cs=>(AV.vportL own cs).map .agg
 |.tup cs=>(AV.vportL own cs).map .tup
 |.fn f cs=>(AV.vportL own cs).map (.fn f)
 |.non=>none
 |.bp _ _=>none
 |.opt _ _=>none
def AV.vportL(own:Nat->Ob):List AV->Option (List AV)
 |[]=>some []
 |a::as=>
  match AV.vport own a,AV.vportL own as with
  |some x,some xs=>some (x::xs)
  |_,_=>none
end
mutual
def AV.lend(b:Nat)(L:List Nat)(own:Nat->Ob):AV->Option AV
 |.c d=>some (.c d)
 |.gr n=>match own n with|.grow _ sz es=>if n∈L then some (.gr (b+L.idxOf n))else some (.c (.sl sz es))|.mp _ _ _=>if n∈L then some (.gr (b+L.idxOf n))else none|_=>none
 |.bp n off=>if n∈L then some (.bp (b+L.idxOf n) off)else none
 |.vw sz n off len cap=>if n∈L then some (.vw sz (b+L.idxOf n) off len cap)else none
 |.agg cs=>(AV.lendL b L own cs).map .agg
 |.tup cs=>(AV.lendL b L own cs).map .tup
 |.fn f cs=>(AV.lendL b L own cs).map (.fn f)
 |.non=>some .non
 |.opt _ _=>none
def AV.lendL(b:Nat)(L:List Nat)(own:Nat->Ob):List AV->Option (List AV)
 |[]=>some []
 |a::as=>
  match AV.lend b L own a,AV.lendL b L own as with
  |some x,some xs=>some (x::xs)
  |_,_=>none
end
def Ob.lend(L:List Nat)(own:Nat->Ob):Ob->Option Ob
 |.box cs=>(AV.lendL 1000 L own cs).map .box
 |.grow e sz es=>some (.grow e sz es)
 |.guest g rem=>some (.guest g rem)
 |.mp kk ek l=>some (.mp kk ek l)
 |_=>Option.none
def Zar(L:List Nat)(own:Nat->Ob):List Nat->Option (List Ob)
 |[]=>some []
 |n::ns=>
  match(own n).lend L own,Zar L own ns with
  |some o,some os=>some (o::os)
  |_,_=>none
mutual
def AV.back(L:List Nat):AV->Option AV
 |.c d=>some (.c d)
 |.gr n=>if 1000<=n then(L[n -1000]?).map .gr else none
 |.bp n off=>if 1000<=n then(L[n -1000]?).map (.bp · off)else none
 |.vw sz n off len cap=>if 1000<=n then(L[n -1000]?).map (.vw sz · off len cap)else none
 |.agg cs=>(AV.backL L cs).map .agg
 |.tup cs=>(AV.backL L cs).map .tup
 |.fn f cs=>(AV.backL L cs).map (.fn f)
 |.non=>some .non
 |.opt g x=>(AV.back L x).map (.opt g)
def AV.backL(L:List Nat):List AV->Option (List AV)
 |[]=>some []
 |a::as=>
  match AV.back L a,AV.backL L as with
  |some x,some xs=>some (x::xs)
  |_,_=>none
end
def Ob.back(L:List Nat):Ob->Option Ob
 |.box cs=>(AV.backL L cs).map .box
 |.win cs=>(AV.backL L cs).map .win
 |.grow e sz es=>some (.grow e sz es)
 |.guest g rem=>some (.guest g rem)
 |.mp kk ek l=>some (.mp kk ek l)
 |.none=>some .none
def Zap(L:List Nat):List Ob->Option (List Ob)
 |[]=>some []
 |o::os=>
  match o.back L,Zap L os with
  |some o,some os=>some (o::os)
  |_,_=>none
def Zae(own:Nat->Ob):List Nat->List Ob->Nat->Ob
 |n::ns,o::os=>upd (Zae own ns os) n o
 |_,_=>own
def ZbV(b:Nat)(l:List Ob)(n:Nat):Ob:=if b<=n then l.getD (n -b) .none else .none
def CD.scal:CD->Bool
 |.int _ _=>true
 |.bool _=>true
 |.str _=>true
 |.raw (.slice none 0 0)=>true
 |_=>false
mutual
def AV.scal:AV->Bool
 |.c d=>d.scal
 |.agg cs=>AV.scalL cs
 |.tup cs=>AV.scalL cs
 |_=>false
def AV.scalL:List AV->Bool
 |[]=>true
 |a::as=>AV.scal a&&AV.scalL as
end
end Go.V
namespace Go.V
inductive CI(P:Program):Op->I->Prop
 |raw {o:Op} (hr:rawB o=true):CI P o (.raw o)
 |prim {o:Op} {p:Prim} {l:List Operand} {xs:List X} (hc:cPrim P o=some (p,l)) (hx:cXs l=some xs):CI P o (.prim p xs)
 |move {x:Operand} {x':X} (hx:cX x=some x'):CI P (.move x) (.mv x')
 |assign {x:Operand} {x':X} (hx:cX x=some x'):CI P (.assign x) (.mv x')
 |pick {c x y:Operand} {c' x' y':X} (hc:cX c=some c') (hx:cX x=some x') (hy:cX y=some y'):CI P (.pick c x y) (.pick c' x' y')
 |alloc {e:TypeId} {z:List AV} (hz:zeroB P e=some z):CI P (.alloc e) (.alloc z)
 |box {e:TypeId} {x:Operand} {n:Nat} {x':X} (hs:sizeB P e=some n) (hx:cX x=some x'):CI P (.box e x) (.box n x')
 |load {t:TypeId} {x:Operand} {ag:Bool} {n:Nat} {x':X} (ha:isAggB P t=some ag) (hs:sizeB P t=some n) (hx:cX x=some x'):CI P (.load t x) (.ld (!ag) n x')
 |store {t:TypeId} {x y:Operand} {n:Nat} {x' y':X} (hs:sizeB P t=some n) (hx:cX x=some x') (hy:cX y=some y'):CI P (.store t x y) (.st n x' y')
 |nilCheck {x:Operand} {x':X} (hx:cX x=some x'):CI P (.nilCheck x) (.nilc x')
 |bin {op:BinOp} {t t':TypeId} {x y:Operand} {k:IntKind} {x' y':X} (ht:P.underlying t=some (.int k)) (hx:cX x=some x') (hy:cX y=some y'):CI P (.binOp op t x y t') (.bin op x' y')
 |eqs (ne:Bool) {t t':TypeId} {x y:Operand} {x' y':X} (ht:P.underlying t=some .bool) (hx:cX x=some x') (hy:cX y=some y'):CI P (.binOp (bif ne then .neq else .eql) t x y t') (.eqs ne x' y')
 |seq (ne:Bool) {t t':TypeId} {x y:Operand} {fs:Array Field} {x' y':X} (ht:P.underlying t=some (.struct fs)) (hf:flatEq P t=true) (hx:cX x=some x') (hy:cX y=some y'):CI P (.binOp (bif ne then .neq else .eql) t x y t') (.seq ne (offsB P t) x' y')
 |nils (ne:Bool) {t t' e:TypeId} {x:Operand} {x':X} (ht:P.underlying t=some (.slice e)) (hx:cX x=some x'):CI P (.binOp (bif ne then .neq else .eql) t x (.const (.slice none 0 0)) t') (.nils ne x')
 |un {op:UnOp} {t:TypeId} {x:Operand} {x':X} (hx:cX x=some x'):CI P (.unOp op t x) (.un op x')
 |mks {t e:TypeId} {x y:Operand} {i:TypeInfo} {z:List AV} {x' y':X} (ht:P.underlying t=some (.slice e)) (hi:P.info? e=some i) (hz:zeroB P e=some z) (hpos:0<i.size) (hzl:z.length=i.size) (hx:cX x=some x') (hy:cX y=some y'):
   CI P (.makeSlice t x y) (.mks e i.size i.bytes z x' y')
 |mkm {t k e:TypeId} {kk ek:IntKind} (ht:P.underlying t=some (.map k e)) (hk:P.underlying k=some (.int kk)) (he:P.underlying e=some (.int ek)):CI P (.makeMap t none) (.mkm kk ek)
 |mget {t k e:TypeId} {kk ek:IntKind} {x i:Operand} {x' i':X} (ht:P.underlying t=some (.map k e)) (hk:P.underlying k=some (.int kk)) (he:P.underlying e=some (.int ek)) (hz:(P.info? e).bind (·.zero)=some (.int ek 0)) (hx:cX x=some x') (hi:cX i=some i'):CI P (.lookup t x i false) (.mget kk ek x' i')
 |mput {t k e:TypeId} {kk ek:IntKind} {x i v:Operand} {x' i' v':X} (ht:P.underlying t=some (.map k e)) (hk:P.underlying k=some (.int kk)) (he:P.underlying e=some (.int ek)) (hx:cX x=some x') (hi:cX i=some i') (hv:cX v=some v'):CI P (.mapUpdate t x i v) (.mput kk ek x' i' v')
 |mkfn {f:FuncId} {first caps:Array Operand} {caps':List X} (h0:first.size=0) (hc:cXs caps.toList=some caps'):CI P (.makeFunc (.func f) first caps) (.mkfn f caps')
 |fa {s:TypeId} {x:Operand} {f:Nat} {fs:Array Field} {fd:Field} {n:Nat} {x':X} (hs:P.underlying s=some (.struct fs)) (hf:fs[f]? =some fd) (hn:sizeB P fd.type=some n) (h0:n≠0) (hx:cX x=some x'):CI P (.fieldAddr s x f) (.fa fd.offset x')
 |ia {t e:TypeId} {x i:Operand} {sz:Nat} {x' i':X} (ht:P.underlying t=some (.slice e)) (hs:sizeB P e=some sz) (hx:cX x=some x') (hi:cX i=some i'):CI P (.indexAddr t x i) (.ia sz x' i')
 |iap {t e:TypeId} {n:Nat} {x i:Operand} {sz:Nat} {x' i':X} (ht:P.underlying t=some (.array n e)) (hs:sizeB P e=some sz) (hx:cX x=some x') (hi:cX i=some i'):CI P (.indexAddr t x i) (.iap n sz x' i')
 |fld {t:TypeId} {x:Operand} {f:Nat} {fs:Array Field} {fd:Field} {ag:Bool} {sz:Nat} {x':X} (ht:P.underlying t=some (.struct fs)) (hf:fs[f]? =some fd) (ha:isAggB P fd.type=some ag) (hs:sizeB P fd.type=some sz) (hx:cX x=some x'):
   CI P (.field t x f) (.fld (!ag) sz fd.offset x')
 |bld {t:TypeId} {parts:Array (Nat×Operand)} {fs:Array Field} {places:List (Nat×Nat)} {z:List AV} {ps:List (Nat×Nat×X)} (hu:P.underlying t=some (.struct fs)) (hpl:fs.toList.mapM (fun f=>(P.info? f.type).map fun i=>(f.offset,i.size))=some places)
   (hz:zeroB P t=some z) (hps:parts.toList.mapM (cPart places)=some ps):CI P (.build t parts) (.bld z ps)
 |ext {x:Operand} {i:Nat} {x':X} (hx:cX x=some x'):CI P (.extract x i) (.ext x' i)
 |slc {t e:TypeId} {x:Operand} {lo hi:Option Operand} {sz:Nat} {x':X} {lo' hi':Option X} (ht:P.underlying t=some (.slice e)) (hs:sizeB P e=some sz) (hx:cX x=some x') (hlo:cOX lo=some lo') (hhi:cOX hi=some hi'):
   CI P (.slice t x lo hi none) (.slc sz x' lo' hi')
 |bsl {t e n sz:Nat} {parts:Array (Nat×Operand)} {z:List AV} {xs':List X} (ht:P.underlying t=some (.slice e)) (hs:sizeB P e=some sz) (hz:zeroB P e=some z) (hpr:parts.toList.map (·.1)=List.range n) (hpos:0<sz) (hlim:n*sz<=2^24) (hzl:z.length=sz)
   (hxs:cXs (parts.toList.map (·.2))=some xs'):CI P (.buildSlice t n parts) (.bsl e sz xs')
 |call {c:Call} {f:Operand} {f':X} {xs:List X} (hcal:c.callee= .value f) (hf:cX f=some f') (hxs:cXs c.args.toList=some xs):CI P (.call c) (.call f' xs)
 |len {x:Operand} {t e:TypeId} {x':X} (ht:P.underlying t=some (.slice e)) (hx:cX x=some x'):CI P (.call {callee:=.builtin .len,args:=#[x],argTypes:=#[t]}) (.len x')
 |mm (mx:Bool) {x y:Operand} {ts:Array TypeId} {x' y':X} (hx:cX x=some x') (hy:cX y=some y'):CI P (.call {callee:=.builtin (bif mx then .max else .min),args:=#[x,y],argTypes:=ts}) (.mm mx x' y')
 |mmn (mx:Bool) {args:Array Operand} {ts:Array TypeId} {xs:List X} (hxs:cXs args.toList=some xs):CI P (.call {callee:=.builtin (bif mx then .max else .min),args:=args,argTypes:=ts}) (.mmn mx xs)
 |app {t e:TypeId} {s x:Operand} {i:TypeInfo} {z:Value} {s' x':X} (ht:P.underlying t=some (.slice e)) (hi:P.info? e=some i) (hz:i.zero=some z) (hzs:z.cells.size=i.size) (hpos:0<i.size) (hs:cX s=some s') (hx:cX x=some x'):
   CI P (.call {callee:=.builtin .append,args:=#[s,x],argTypes:=#[t,t]}) (.app e i.size i.bytes s' x')
def Zx1{P:Program}{op:Op}{i:I}(hc:cI0 P op=some i):CI P op i:=by unfold cI0 at hc;split at hc;{rename_i x;cases hx:cX x<;>simp[hx]at hc;subst hc;exact .move hx};{rename_i x;cases hx:cX x<;>simp[hx]at hc;subst hc;exact .assign hx};{rename_i c x y;cases h1:cX c<;>cases h2:cX x<;>cases h3:cX y<;>simp[h1,h2,h3]at hc;subst hc;exact .pick h1 h2 h3};{rename_i e;cases h1:zeroB P e<;>simp[h1]at hc;subst hc;exact .alloc h1};{rename_i e x;cases h1:sizeB P e<;>cases h2:cX x<;>simp[h1,h2]at hc;subst hc;exact .box h1 h2};{rename_i t x;cases h1:isAggB P t<;>cases h2:sizeB P t<;>cases h3:cX x<;>simp[h1,h2,h3]at hc;subst hc;exact .load h1 h2 h3};{rename_i t x y;cases h1:sizeB P t<;>cases h2:cX x<;>cases h3:cX y<;>simp[h1,h2,h3]at hc;subst hc;exact .store h1 h2 h3};{rename_i x;cases hx:cX x<;>simp[hx]at hc;subst hc;exact .nilCheck hx};{rename_i op t x y t';split at hc;{rename_i k ht;cases h2:cX x<;>cases h3:cX y<;>simp[h2,h3]at hc;subst hc;exact .bin ht h2 h3};{rename_i ht;split at hc;{cases h2:cX x<;>cases h3:cX y<;>simp[h2,h3]at hc;subst hc;exact .eqs false ht h2 h3};{cases h2:cX x<;>cases h3:cX y<;>simp[h2,h3]at hc;subst hc;exact .eqs true ht h2 h3};{cases hc}};{rename_i fs ht;split at hc;{rename_i hf;split at hc;{cases h2:cX x<;>cases h3:cX y<;>simp[h2,h3]at hc;subst hc;exact .seq false ht hf h2 h3};{cases h2:cX x<;>cases h3:cX y<;>simp[h2,h3]at hc;subst hc;exact .seq true ht hf h2 h3};{cases hc}};{cases hc}};{rename_i e ht;split at hc;{cases h2:cX x<;>simp[h2]at hc;subst hc;exact .nils false ht h2};{cases h2:cX x<;>simp[h2]at hc;subst hc;exact .nils true ht h2};{cases hc}};{cases hc}};{rename_i op t x;cases hx:cX x<;>simp[hx]at hc;subst hc;exact .un hx};{rename_i t len cap;split at hc;{(rename_i e ht;cases h3:P.info? e with|none=>simp[sizeB,h3]at hc|some i=>(have h1:sizeB P e=some i.size:=by simp[sizeB,h3]);(cases h2:zeroB P e with|none=>simp[h1,h2]at hc|some z=>simp[h1,h2,h3]at hc;obtain⟨⟨hpos,hzl⟩,hc⟩:=hc;cases h4:cX len<;>cases h5:cX cap<;>simp[h4,h5]at hc;subst hc;exact .mks ht h3 h2 hpos hzl h4 h5))};{cases hc}};{rename_i t;split at hc;{rename_i k e ht;split at hc;{rename_i kk ek hk he;simp at hc;subst hc;exact .mkm ht hk he};{cases hc}};{cases hc}};{rename_i t x i;split at hc;{rename_i k e ht;split at hc;{rename_i kk ek ek' z hk he hz;split at hc;{rename_i hcond;obtain⟨rfl,rfl⟩:=hcond;cases h4:cX x<;>cases h5:cX i<;>simp[h4,h5]at hc;subst hc;exact .mget ht hk he hz h4 h5};{cases hc}};{cases hc}};{cases hc}};{rename_i t x i v;split at hc;{rename_i k e ht;split at hc;{rename_i kk ek hk he;cases h4:cX x<;>cases h5:cX i<;>cases h6:cX v<;>simp[h4,h5,h6]at hc;subst hc;exact .mput ht hk he h4 h5 h6};{cases hc}};{cases hc}};{(rename_i f first caps);split at hc;{rename_i h0;cases h1:cXs caps.toList<;>simp[h1]at hc;subst hc;exact .mkfn h0 h1};{cases hc}};{rename_i s x f;split at hc;{(rename_i fs hs;cases hf:fs[f]? with|none=>simp[hf]at hc|some fd=>(cases hn:sizeB P fd.type with|none=>simp[hf,hn]at hc|some n=>simp only[hf,hn,YS,Ya8]at hc;split at hc;{rename_i h0;cases hx:cX x<;>simp[hx]at hc;subst hc;exact .fa hs hf hn h0 hx};{cases hc}))};{cases hc}};{rename_i t x i;split at hc;{rename_i e ht;cases h1:sizeB P e<;>cases h2:cX x<;>cases h3:cX i<;>simp[h1,h2,h3]at hc;subst hc;exact .ia ht h1 h2 h3};{rename_i n e ht;cases h1:sizeB P e<;>cases h2:cX x<;>cases h3:cX i<;>simp[h1,h2,h3]at hc;subst hc;exact .iap ht h1 h2 h3};{cases hc}};{rename_i t x f;split at hc;{(rename_i fs ht;cases hf:fs[f]? with|none=>simp[hf]at hc|some fd=>cases h1:isAggB P fd.type<;>cases h2:sizeB P fd.type<;>cases h3:cX x<;>simp[hf,h1,h2,h3]at hc;subst hc;exact .fld ht hf h1 h2 h3)};{cases hc}};{rename_i t parts;split at hc;{rename_i fs hu;split at hc;{(rename_i places z hpl hz;cases hps:parts.toList.mapM (cPart places)with|none=>rw[hps]at hc;simp at hc|some ps=>rw[hps]at hc;simp at hc;subst hc;exact .bld hu hpl hz hps)};{cases hc}};{cases hc}};{rename_i x i;cases hx:cX x<;>simp[hx]at hc;subst hc;exact .ext hx};{rename_i t x lo hi;split at hc;{(rename_i e ht;cases h1:sizeB P e with|none=>simp[h1]at hc|some sz=>(cases h2:cX x with|none=>simp[h1,h2]at hc|some x'=>cases h3:cOX lo<;>cases h4:cOX hi<;>simp[h1,h2,h3,h4]at hc;subst hc;exact .slc ht h1 h2 h3 h4))};{cases hc}};{rename_i t n parts;split at hc;{(rename_i e ht;cases h1:sizeB P e with|none=>simp[h1]at hc|some sz=>(cases h2:zeroB P e with|none=>simp[h1,h2]at hc|some z=>simp only[h1,h2,YS,Ya8]at hc;split at hc;{rename_i hcond;cases h3:cXs (parts.toList.map (·.2))<;>simp[h3]at hc;subst hc;exact .bsl ht h1 h2 hcond.1 hcond.2.1 hcond.2.2.1 hcond.2.2.2 h3};{cases hc}))};{cases hc}};{rename_i c;obtain⟨callee,args,argTypes⟩:=c;dsimp only at hc;split at hc;{rename_i f;cases h1:cX f<;>cases h2:cXs args.toList<;>simp[h1,h2]at hc;subst hc;exact .call rfl h1 h2};{split at hc;{rename_i x t ea et;split at hc;{rename_i e ht;cases hx:cX x<;>simp[hx]at hc;subst hc;(have e1:args= #[x]:=by apply YaS;exact ea);(have e2:argTypes= #[t]:=by apply YaS;exact et);subst e1;subst e2;exact .len ht hx};{cases hc}};{cases hc}};{split at hc;{rename_i x y ea;cases h2:cX x<;>cases h3:cX y<;>simp[h2,h3]at hc;subst hc;(have e1:args= #[x,y]:=by apply YaS;exact ea);subst e1;exact .mm true h2 h3};{cases h2:cXs args.toList<;>simp[h2]at hc;subst hc;exact .mmn true h2}};{split at hc;{rename_i x y ea;cases h2:cX x<;>cases h3:cX y<;>simp[h2,h3]at hc;subst hc;(have e1:args= #[x,y]:=by apply YaS;exact ea);subst e1;exact .mm false h2 h3};{cases h2:cXs args.toList<;>simp[h2]at hc;subst hc;exact .mmn false h2}};{split at hc;{rename_i s x t u ea et;split at hc;{rename_i htu;subst htu;split at hc;{rename_i e ht;split at hc;{rename_i inf hinf;split at hc;{rename_i hcond;obtain⟨hpos,hzz⟩:=hcond;cases h2:cX s<;>cases h3:cX x<;>simp[h2,h3]at hc;subst hc;(have e1:args= #[s,x]:=by apply YaS;exact ea);(have e2:argTypes= #[t,t]:=by apply YaS;exact et);subst e1;subst e2;(obtain⟨z,hz,hzs⟩:∃z,inf.zero=some z/\z.cells.size=inf.size:=by(cases hz:inf.zero with|none=>simp[hz]at hzz|some z=>exact⟨z,rfl,by simpa [hz]using hzz⟩));exact .app ht hinf hz hzs hpos h2 h3};{cases hc}};{cases hc}};{cases hc}};{cases hc}};{cases hc}};{cases hc}};{cases hc}
def ZoA{P:Program}{op:Op}{i:I}(hc:ZDd op=some i):CI P op i:=by unfold ZDd at hc;split at hc;{rename_i h;simp only[Ya]at hc;subst hc;exact .raw h};{cases hc}
def Zcd{P:Program}{op:Op}{i:I}(hc:cI P op=some i):CI P op i:=by unfold cI at hc;split at hc;{rename_i p l h1;split at hc;{rename_i xs h2;simp only[Ya]at hc;subst hc;exact .prim h1 h2};{exact ZoA hc}};{split at hc;{rename_i j h2;simp only[Ya]at hc;subst hc;exact Zx1 h2};{exact ZoA hc}}
end Go.V
namespace Go.V
abbrev Cells:=Nat->Nat->Prop
mutual
def RepC(w:World)(M:Cells):CD->Value->Prop
 |.int k n,v=>v= .int k n
 |.bool b,v=>v= .bool b
 |.str s,v=>v= .string ⟨s.toArray⟩
 |.raw x,v=>v=x/\x.oneCell'=true
 |.sl sz es,v=>∃A cap,v= .slice A es.length cap/\es.length<=cap/\cap<=maxLen/\(es=[]\/∃ad,A=some ad/\RepE w M sz es ad)
 |.pt cs,v=>∃ad,v= .pointer (some ad)/\RepL w M cs ad
def RepL(w:World)(M:Cells):List CD->Addr->Prop
 |[],_=>True
 |c::cs,ad=>(∃u,w.cell? ad=some u/\¬M ad.block ad.off/\RepC w M c u)/\RepL w M cs (ad.add 1)
def RepE(w:World)(M:Cells)(sz:Nat):List (List CD)->Addr->Prop
 |[],_=>True
 |e::es,ad=>(e.length=sz/\RepL w M e ad)/\RepE w M sz es (ad.add sz)
end
structure Keeps(w w':World)(M M':Cells):Prop where
 cell:∀p:Addr,(w.cell? p).isSome=true->¬M p.block p.off->w'.cell? p=w.cell? p
 free:∀p:Addr,(w.cell? p).isSome=true->¬M p.block p.off->¬M' p.block p.off
def Keeps.refl(w:World)(M:Cells):Keeps w w M M:=⟨fun _ _ _=>rfl,fun _ _ h=>h⟩
def Keeps.trans{w w1 w2:World}{M M1 M2:Cells}(h:Keeps w w1 M M1)(k:Keeps w1 w2 M1 M2):Keeps w w2 M M2:=
  ⟨fun p hp hm => (k.cell p (by rw [h.cell p hp hm]; exact hp) (h.free p hp hm)).trans (h.cell p hp hm),
   fun p hp hm=>k.free p (by rw[h.cell p hp hm];exact hp) (h.free p hp hm)⟩
def Keeps.less{w:World}{M M':Cells}(h:∀b o,M' b o->M b o):Keeps w w M M':=⟨fun _ _ _=>rfl,fun _ _ hm hm'=>hm (h _ _ hm')⟩
mutual
def RepC.keeps{w w':World}{M M':Cells}(hk:Keeps w w' M M'):∀(d:CD)(v:Value),RepC w M d v->RepC w' M' d v
 |.int k n,v,h=>by simpa only[RepC]using h
 |.bool b,v,h=>by simpa only[RepC]using h
 |.str s,v,h=>by simpa only[RepC]using h
 |.raw x,v,h=>by simpa only[RepC]using h
 |.sl sz es,v,h=>by simp only[RepC]at h|-;obtain⟨A,cap,hv,hc,hm,he⟩:=h;exact⟨A,cap,hv,hc,hm,he.imp id fun⟨ad,ha,hr⟩=>⟨ad,ha,RepE.keeps hk sz es ad hr⟩⟩
 |.pt cs,v,h=>by simp only[RepC]at h|-;obtain⟨ad,hv,hr⟩:=h;exact⟨ad,hv,RepL.keeps hk cs ad hr⟩
def RepL.keeps{w w':World}{M M':Cells}(hk:Keeps w w' M M'):∀(cs:List CD)(ad:Addr),RepL w M cs ad->RepL w' M' cs ad
 |[],_,_=>by simp only[RepL]
 |c::cs,ad,h=>by simp only[RepL]at h|-;obtain⟨⟨u,hu,hm,hr⟩,ht⟩:=h;exact⟨⟨u,(hk.cell ad (by simp[hu]) hm).trans hu,hk.free ad (by simp[hu]) hm,RepC.keeps hk c u hr⟩,RepL.keeps hk cs _ ht⟩
def RepE.keeps{w w':World}{M M':Cells}(hk:Keeps w w' M M')(sz:Nat):∀(es:List (List CD))(ad:Addr),RepE w M sz es ad->RepE w' M' sz es ad
 |[],_,_=>by simp only[RepE]
 |e::es,ad,h=>by simp only[RepE]at h|-;exact⟨⟨h.1.1,RepL.keeps hk e ad h.1.2⟩,RepE.keeps hk sz es _ h.2⟩
end
def Zcg(a:Addr)(i j:Nat):(a.add i).add j=a.add (i+j):=by unfold Addr.add;by_cases hi:i=0<;>by_cases hj:j=0<;>simp[hi,hj,YcF]
def Zdw(a:Addr):a.add 0=a:=by simp[Addr.add]
def RepL.drop{w:World}{M:Cells}:∀(n:Nat)(cs:List CD)(ad:Addr),RepL w M cs ad->RepL w M (cs.drop n) (ad.add n)
 |0,cs,ad,h=>by simpa [Zdw]using h
 |n+1,[],ad,_=>by simp[RepL]
 |n+1,c::cs,ad,h=>by simp only[RepL]at h;have:=RepL.drop n cs _ h.2;rw[Zcg,YbA]at this;simpa using this
def RepE.get{w:World}{M:Cells}{sz:Nat}:∀(es:List (List CD))(ad:Addr)(i:Nat),RepE w M sz es ad->i<es.length->(es.getD i []).length=sz/\RepL w M (es.getD i []) (ad.add (i*sz))
 |[],_,_,_,h=>by simp at h
 |e::es,ad,0,h,_=>by simp only[RepE]at h;simpa [Zdw]using h.1
 |e::es,ad,i+1,h,hi=>by simp only[RepE]at h;have:=RepE.get es _ i h.2 (by simpa using hi);rw[Zcg]at this;(have e1:sz+i*sz=(i+1)*sz:=by rw[YX];omega);rw[e1]at this;simpa using this
def RepE.drop{w:World}{M:Cells}{sz:Nat}:∀(n:Nat)(es:List (List CD))(ad:Addr),RepE w M sz es ad->RepE w M sz (es.drop n) (ad.add (n*sz))
 |0,es,ad,h=>by simpa [Zdw]using h
 |n+1,[],ad,_=>by simp[RepE]
 |n+1,e::es,ad,h=>by simp only[RepE]at h;have:=RepE.drop n es _ h.2;(have e1:sz+n*sz=(n+1)*sz:=by rw[YX];omega);rw[Zcg,e1]at this;simpa using this
def RepE.take{w:World}{M:Cells}{sz:Nat}:∀(n:Nat)(es:List (List CD))(ad:Addr),RepE w M sz es ad->RepE w M sz (es.take n) ad
 |0,es,ad,h=>by simp[RepE]
 |n+1,[],ad,_=>by simp[RepE]
 |n+1,e::es,ad,h=>by simp only[RepE]at h;simp only[Y8,RepE];exact⟨h.1,RepE.take n es _ h.2⟩
def RepC.one{w:World}{M:Cells}:∀{d:CD}{v:Value},RepC w M d v->v.oneCell'=true
 |.int k n,v,h=>by simp only[RepC]at h;subst h;rfl
 |.bool b,v,h=>by simp only[RepC]at h;subst h;rfl
 |.str s,v,h=>by simp only[RepC]at h;subst h;rfl
 |.raw x,v,h=>by simp only[RepC]at h;rw[h.1];exact h.2
 |.sl sz es,v,h=>by simp only[RepC]at h;obtain⟨A,cap,rfl,_⟩:=h;rfl
 |.pt cs,v,h=>by simp only[RepC]at h;obtain⟨ad,rfl,_⟩:=h;rfl
mutual
def RepA(w:World)(M:Cells)(loc:Nat->Value):AV->Value->Prop
 |.non,_=>True
 |.c d,v=>RepC w M d v
 |.bp n off,v=>∃b,loc n= .pointer (some ⟨b,0,none⟩)/\v= .pointer (some ⟨b,off,none⟩)
 |.gr n,v=>v=loc n/\v.oneCell'=true
 |.vw _ n off len cap,v=>∃b o,loc n= .pointer (some ⟨b,0,none⟩)/\v= .slice (some ⟨b,o,none⟩) len cap/\(0<cap->o=off)/\len<=cap/\cap<=maxLen
 |.agg cs,v=>∃l,v= .agg l.toArray/\RepAs w M loc cs l
 |.tup cs,v=>∃l,v= .tuple l.toArray/\RepAs w M loc cs l
 |.fn f caps,v=>∃l,v= .func (.func f) #[] l.toArray/\RepAs w M loc caps l
 |.opt g x,v=>(g=true->RepA w M loc x v)/\(g=false->v=undef)
def RepAs(w:World)(M:Cells)(loc:Nat->Value):List AV->List Value->Prop
 |[],l=>l=[]
 |a::as,l=>∃v vs,l=v::vs/\RepA w M loc a v/\RepAs w M loc as vs
end
mutual
def RepA.keep{w w':World}{M M':Cells}{loc:Nat->Value}(hk:Keeps w w' M M'):∀(a:AV)(v:Value),RepA w M loc a v->RepA w' M' loc a v
 |.non,v,_=>by simp only[RepA]
 |.c d,v,h=>by simp only[RepA]at h|-;exact RepC.keeps hk d v h
 |.bp n off,v,h=>by simpa only[RepA]using h
 |.gr n,v,h=>by simpa only[RepA]using h
 |.vw sz n off len cap,v,h=>by simpa only[RepA]using h
 |.agg cs,v,h=>by simp only[RepA]at h|-;obtain⟨l,hv,hr⟩:=h;exact⟨l,hv,RepAs.keep hk cs l hr⟩
 |.tup cs,v,h=>by simp only[RepA]at h|-;obtain⟨l,hv,hr⟩:=h;exact⟨l,hv,RepAs.keep hk cs l hr⟩
 |.fn f cs,v,h=>by simp only[RepA]at h|-;obtain⟨l,hv,hr⟩:=h;exact⟨l,hv,RepAs.keep hk cs l hr⟩
 |.opt g x,v,h=>by simp only[RepA]at h|-;exact⟨fun hg=>RepA.keep hk x v (h.1 hg),h.2⟩
def RepAs.keep{w w':World}{M M':Cells}{loc:Nat->Value}(hk:Keeps w w' M M'):∀(as:List AV)(l:List Value),RepAs w M loc as l->RepAs w' M' loc as l
 |[],l,h=>by simpa only[RepAs]using h
 |a::as,l,h=>by simp only[RepAs]at h|-;obtain⟨v,vs,e,h1,h2⟩:=h;exact⟨v,vs,e,RepA.keep hk a v h1,RepAs.keep hk as vs h2⟩
end
mutual
def RepA.prg{w:World}{M:Cells}{loc loc':Nat->Value}{n:Nat}(hl:∀m,m≠n->loc' m=loc m):∀{a:AV}{v:Value},RepA w M loc a v->RepA w M loc' (a.prg n) v
 |.non,v,_=>by simp only[AV.prg,RepA]
 |.c d,v,h=>by simp only[AV.prg,RepA]at h|-;exact h
 |.bp m off,v,h=>by simp only[AV.prg];split;{simp only[RepA]};{rename_i hm;simp only[RepA]at h|-;rw[hl m hm];exact h}
 |.gr m,v,h=>by simp only[AV.prg];split;{simp only[RepA]};{rename_i hm;simp only[RepA]at h|-;rw[hl m hm];exact h}
 |.vw sz m off len cap,v,h=>by simp only[AV.prg];split;{simp only[RepA]};{rename_i hm;simp only[RepA]at h|-;rw[hl m hm];exact h}
 |.agg cs,v,h=>by simp only[AV.prg,RepA]at h|-;obtain⟨l,hv,hr⟩:=h;exact⟨l,hv,RepAs.prg hl hr⟩
 |.tup cs,v,h=>by simp only[AV.prg,RepA]at h|-;obtain⟨l,hv,hr⟩:=h;exact⟨l,hv,RepAs.prg hl hr⟩
 |.fn f cs,v,h=>by simp only[AV.prg,RepA]at h|-;obtain⟨l,hv,hr⟩:=h;exact⟨l,hv,RepAs.prg hl hr⟩
 |.opt g x,v,h=>by simp only[AV.prg,RepA]at h|-;exact⟨fun hg=>RepA.prg hl (h.1 hg),h.2⟩
def RepAs.prg{w:World}{M:Cells}{loc loc':Nat->Value}{n:Nat}(hl:∀m,m≠n->loc' m=loc m):∀{as:List AV}{l:List Value},RepAs w M loc as l->RepAs w M loc' (AV.prgL n as) l
 |[],l,h=>by simpa only[AV.prgL,RepAs]using h
 |a::as,l,h=>by simp only[AV.prgL,RepAs]at h|-;obtain⟨v,vs,e,h1,h2⟩:=h;exact⟨v,vs,e,RepA.prg hl h1,RepAs.prg hl h2⟩
end
def RepAs.get{w:World}{M:Cells}{loc:Nat->Value}:∀{as:List AV}{l:List Value}(i:Nat){a:AV},RepAs w M loc as l->as[i]? =some a->∃v,l[i]? =some v/\RepA w M loc a v
 |[],l,i,a,_,h=>by simp at h
 |b::as,l,0,a,h,e=>by simp only[RepAs]at h;obtain⟨v,vs,rfl,h1,h2⟩:=h;simp at e;subst e;exact⟨v,rfl,h1⟩
 |b::as,l,i+1,a,h,e=>by simp only[RepAs]at h;obtain⟨v,vs,rfl,h1,h2⟩:=h;simpa using RepAs.get i h2 (by simpa using e)
def RepAs.length{w:World}{M:Cells}{loc:Nat->Value}:∀{as:List AV}{l:List Value},RepAs w M loc as l->l.length=as.length
 |[],l,h=>by simp only[RepAs]at h;subst h;rfl
 |a::as,l,h=>by simp only[RepAs]at h;obtain⟨v,vs,rfl,_,h2⟩:=h;simp[RepAs.length h2]
def RepAs.drop{w:World}{M:Cells}{loc:Nat->Value}:∀(n:Nat){as:List AV}{l:List Value},RepAs w M loc as l->RepAs w M loc (as.drop n) (l.drop n)
 |0,as,l,h=>by simpa using h
 |n+1,[],l,h=>by simp only[RepAs]at h;subst h;simp[RepAs]
 |n+1,a::as,l,h=>by simp only[RepAs]at h;obtain⟨v,vs,rfl,_,h2⟩:=h;simpa using RepAs.drop n h2
def RepAs.take{w:World}{M:Cells}{loc:Nat->Value}:∀(n:Nat){as:List AV}{l:List Value},RepAs w M loc as l->RepAs w M loc (as.take n) (l.take n)
 |0,as,l,h=>by simp[RepAs]
 |n+1,[],l,h=>by simp only[RepAs]at h;subst h;simp[RepAs]
 |n+1,a::as,l,h=>by simp only[RepAs]at h;obtain⟨v,vs,rfl,h1,h2⟩:=h;simp only[Y8,RepAs];exact⟨v,_,rfl,h1,RepAs.take n h2⟩
def RepAs.append{w:World}{M:Cells}{loc:Nat->Value}:∀{as bs:List AV}{l m:List Value},RepAs w M loc as l->RepAs w M loc bs m->RepAs w M loc (as++bs) (l++m)
 |[],bs,l,m,h,k=>by simp only[RepAs]at h;subst h;simpa using k
 |a::as,bs,l,m,h,k=>by simp only[RepAs]at h;obtain⟨v,vs,rfl,h1,h2⟩:=h;simp only[YH,RepAs];exact⟨v,_,rfl,h1,RepAs.append h2 k⟩
def RepL.vals{w:World}{M:Cells}{loc:Nat->Value}:∀(n:Nat)(cs:List CD)(ad:Addr),RepL w M cs ad->n<=cs.length->∃l:List Value,l.length=n/\(∀j u,l[j]? =some u->w.cell? (ad.add j)=some u)/\RepAs w M loc ((cs.take n).map .c) l
 |0,cs,ad,_,_=>⟨[],rfl,Kd,by simp[RepAs]⟩
 |n+1,[],ad,_,h=>by simp at h
 |n+1,c::cs,ad,h,hn=>by simp only[RepL]at h;obtain⟨⟨u,hu,_,hr⟩,ht⟩:=h;obtain⟨l,hl,hc,hrs⟩:=RepL.vals (loc:=loc) n cs _ ht (by simpa using hn);refine⟨u::l,by simp[hl],?_,?_⟩;{(intro j x hx;match j,hx with|0,hx=>simp at hx;subst hx;simpa [Zdw]using hu|j+1,hx=>have:=hc j x (by simpa using hx);rwa [Zcg,YbA]at this)};{simp only[Y8,Ye,RepAs];exact⟨u,l,rfl,by simpa only[RepA]using hr,hrs⟩}
mutual
def CD.lens:CD->Prop
 |.sl _ es=>es.length<=maxLen/\CD.lensE es
 |.pt cs=>CD.lensL cs
 |_=>True
def CD.lensL:List CD->Prop
 |[]=>True
 |c::cs=>c.lens/\CD.lensL cs
def CD.lensE:List (List CD)->Prop
 |[]=>True
 |e::es=>CD.lensL e/\CD.lensE es
end
mutual
def AV.lens:AV->Prop
 |.c d=>d.lens
 |.agg cs=>AV.lensL cs
 |.tup cs=>AV.lensL cs
 |.fn _ cs=>AV.lensL cs
 |_=>True
def AV.lensL:List AV->Prop
 |[]=>True
 |a::as=>a.lens/\AV.lensL as
end
mutual
def RepC.lens{w:World}{M:Cells}:∀{d:CD}{v:Value},RepC w M d v->d.lens
 |.int k n,v,_=>by simp[CD.lens]
 |.bool b,v,_=>by simp[CD.lens]
 |.str s,v,_=>by simp[CD.lens]
 |.raw x,v,_=>by simp[CD.lens]
 |.sl sz es,v,h=>by simp only[RepC]at h;obtain⟨A,cap,_,h1,h2,h3⟩:=h;simp only[CD.lens];refine⟨Kc,?_⟩;rcases h3 with rfl|⟨ad,_,hr⟩;{simp[CD.lensE]};{exact RepE.lens hr}
 |.pt cs,v,h=>by simp only[RepC]at h;obtain⟨ad,_,hr⟩:=h;simp only[CD.lens];exact RepL.lens hr
def RepL.lens{w:World}{M:Cells}:∀{cs:List CD}{ad:Addr},RepL w M cs ad->CD.lensL cs
 |[],_,_=>by simp[CD.lensL]
 |c::cs,ad,h=>by simp only[RepL]at h;obtain⟨⟨u,_,_,h1⟩,h2⟩:=h;simp only[CD.lensL];exact⟨RepC.lens h1,RepL.lens h2⟩
def RepE.lens{w:World}{M:Cells}{sz:Nat}:∀{es:List (List CD)}{ad:Addr},RepE w M sz es ad->CD.lensE es
 |[],_,_=>by simp[CD.lensE]
 |e::es,ad,h=>by simp only[RepE]at h;simp only[CD.lensE];exact⟨RepL.lens h.1.2,RepE.lens h.2⟩
end
mutual
def RepA.lens{w:World}{M:Cells}{loc:Nat->Value}:∀{a:AV}{v:Value},RepA w M loc a v->a.lens
 |.non,v,_=>by simp[AV.lens]
 |.c d,v,h=>by simp only[RepA]at h;simp only[AV.lens];exact RepC.lens h
 |.bp n off,v,_=>by simp[AV.lens]
 |.gr n,v,_=>by simp[AV.lens]
 |.vw sz n off len cap,v,_=>by simp[AV.lens]
 |.opt g x,v,_=>by simp[AV.lens]
 |.agg cs,v,h=>by simp only[RepA]at h;obtain⟨l,_,hr⟩:=h;simp only[AV.lens];exact RepAs.lens hr
 |.tup cs,v,h=>by simp only[RepA]at h;obtain⟨l,_,hr⟩:=h;simp only[AV.lens];exact RepAs.lens hr
 |.fn f cs,v,h=>by simp only[RepA]at h;obtain⟨l,_,hr⟩:=h;simp only[AV.lens];exact RepAs.lens hr
def RepAs.lens{w:World}{M:Cells}{loc:Nat->Value}:∀{as:List AV}{l:List Value},RepAs w M loc as l->AV.lensL as
 |[],l,_=>by simp[AV.lensL]
 |a::as,l,h=>by simp only[RepAs]at h;obtain⟨v,vs,_,h1,h2⟩:=h;simp only[AV.lensL];exact⟨RepA.lens h1,RepAs.lens h2⟩
end
end Go.V
namespace Go.V
def FreeF(fr:Nat×Nat)(n:Nat):Prop:=∀j,j<n->¬(fr.1<=j/\j<fr.2)
def AtC(w:World)(b:Nat)(l:List Value)(e:TypeId×(Nat×Nat)):Prop:=w.heap[b]? =some (.cells l.toArray e.1 e.2)/\FreeF e.2 l.length
def FreeF.zero(n:Nat):FreeF (0,0) n:=fun j _ h=>by simp at h
def AtC.of{w:World}{b:Nat}{l:List Value}{e:TypeId}(h:w.heap[b]? =some (.cells l.toArray e (0,0))):AtC w b l (e,(0,0)):=⟨h,FreeF.zero _⟩
def AtC.of'{w:World}{b:Nat}{l:Array Value}{e:TypeId}(h:w.heap[b]? =some (.cells l e (0,0))):AtC w b l.toList (e,(0,0)):=⟨by simpa using h,FreeF.zero _⟩
def AtC.free{w:World}{b j:Nat}{l:List Value}{e:TypeId×(Nat×Nat)}(h:AtC w b l e)(hj:j<l.length):w.frozen? ⟨b,j,none⟩=false:=by obtain⟨t,lo,hi⟩:=e;have h1:=h.1;have h2:=h.2 j hj;simp only at h1 h2;simp only[World.frozen?,h1];rw[<-Bool.decide_and,Yax];exact h2
def AtC.set{w:World}{b:Nat}{l l':List Value}{e:TypeId×(Nat×Nat)}(h:AtC w b l e)(hl:l'.length=l.length):AtC (w.setRow b l'.toArray) b l' e:=⟨setRow_heap w b _ _ _ _ h.1,by rw[hl];exact h.2⟩
def AtC.lt{w:World}{b:Nat}{l:List Value}{e:TypeId×(Nat×Nat)}(h:AtC w b l e):b<w.heap.size:=(YK.1 h.1).1
def AtC.trans{w w':World}{b:Nat}{l:List Value}{e:TypeId×(Nat×Nat)}(hb:w'.heap[b]? =w.heap[b]?)(h:AtC w b l e):AtC w' b l e:=⟨hb.trans h.1,h.2⟩
def Zdm(P:Program)(g o:Nat)(e:TypeId×(Nat×Nat)):∀(vs:List Value)(i:Nat)(cur:List Value)(w:World),AtC w g cur e->o+i+vs.length<=cur.length->(∀v∈vs,v.oneCell'=true)->
  (storeCells ⟨g,o,none⟩ vs i).run P w= .ok () (w.setRow g (cur.take (o+i)++vs++cur.drop (o+i+vs.length)).toArray)
 |[],i,cur,w,hg,_,_=>by simp only[storeCells,Yas,YI,Yad,Yah];rw[setRow_self w g cur.toArray e.1 e.2 hg.1];rfl
 |v::rest,i,cur,w,hg,hl,h1=>by(have hi:o+i<cur.length:=by simp at hl;omega);(have hadd:(⟨g,o,none⟩:Addr).add i=⟨g,o+i,none⟩:=by unfold Addr.add;split<;>simp_all);(have hcell:w.cell? ⟨g,o+i,none⟩=some cur[o+i]:=by simp[World.cell?,hg.1,hi]);have hfro:w.frozen? ⟨g,o+i,none⟩=false:=hg.free hi;(have hst:(store ((⟨g,o,none⟩:Addr).add i) v).run P w= .ok () (w.setRow g (cur.toArray.setIfInBounds (o+i) v)):=by rw[hadd,run_store P w _ v _ (h1 v Kd),hcell];simp[hfro,setCell_eq_setRow w g (o+i) cur.toArray e.1 e.2 v hg.1]);(have e1:cur.toArray.setIfInBounds (o+i) v=(cur.set (o+i) v).toArray:=by simp);rw[e1]at hst;have ih:=Zdm P g o e rest (i+1) (cur.set (o+i) v) (w.setRow g (cur.set (o+i) v).toArray) (hg.set Kd) (by simp at hl|-;omega) (fun x hx=>h1 x (by simp[hx]));simp only[storeCells,Sem.run_bind,hst,Result.andThen_ok,ih,setRow_setRow];congr 3;have e2:=list_seg_step cur (o+i) v rest (by simp at hl|-;omega);simpa [YcF]using e2
structure Ctx where
 P:Program
 N:Nat
 m:List Nat
 w0:World
 M0:Cells
 X:Nat->Prop
 Mi:Cells
 rd:Option Nat
 l0:Nat->Value
 pin:Nat->Prop
def Ctx.B(C:Ctx):Nat:=C.w0.heap.size
def Ctx.F(C:Ctx):Fence:=match C.rd with|none=>Fence.wide|some l=>Fence.wide.inRound l
def Ctx.Ok(C:Ctx):Prop:=∀l,C.rd=some l->(∃r,C.w0.heap[l]? =some (.loop r))/\l<C.w0.heap.size/\¬C.X l
def Ctx.A(C:Ctx)(b:Nat):Prop:=C.B<=b\/C.X b
structure Fr(C:Ctx)(w:World):Prop where
 os:w.os=C.w0.os
 tape:w.tape=C.w0.tape
 output:w.output=C.w0.output
 size:C.B<=w.heap.size
 block:∀k,k<C.B->¬C.X k->w.heap[k]? =C.w0.heap[k]?
structure Fx(w w':World)(L:Nat->Prop):Prop where
 os:w'.os=w.os
 tape:w'.tape=w.tape
 output:w'.output=w.output
 size:w.heap.size<=w'.heap.size
 block:∀k,k<w.heap.size->¬L k->w'.heap[k]? =w.heap[k]?
def Zc6(L:List Nat):Value:=.tuple (L.map fun b=>Value.int .u64 (Int.ofNat b)).toArray
def Zmj:Value->Nat->Prop
 |.tuple l,b=>Value.int .u64 (Int.ofNat b)∈l.toList
 |_,_=>False
def Zan(L:List Nat)(b:Nat):Zmj (Zc6 L) b↔b∈L:=by
  simp[Zmj,Zc6]
  exact ⟨fun ⟨a, h, e⟩ => by have : a = b := by omega
                             exact this▸h,fun h=>⟨b,h,rfl⟩⟩
def Ob.has:Ob->Value->Nat->Prop
 |.box _,.pointer (some a),b=>a.block=b
 |.win _,.pointer (some a),b=>a.block=b
 |.grow ..,.slice (some a) _ _,b=>a.block=b
 |.guest _ _,v,b=>Zmj v b
 |.mp _ _ _,.map (some a),b=>a=b
 |_,_,_=>False
def Ob.mut:Ob->Value->Cells
 |.box _,.pointer (some a)=>fun b _=>a.block=b
 |.win _,.pointer (some a)=>fun b _=>a.block=b
 |.grow _ sz es,.slice (some a) _ _=>fun b o=>a.block=b/\es.length*sz<=o
 |.guest _ _,v=>fun b _=>Zmj v b
 |.mp _ _ _,.map (some a)=>fun b _=>a=b
 |_,_=>fun _ _=>False
def Mut(own:Nat->Ob)(loc:Nat->Value):Cells:=fun b o=>∃n,(own n).mut (loc n) b o
def Foot(own:Nat->Ob)(loc:Nat->Value)(b:Nat):Prop:=∃n,(own n).has (loc n) b
def MM(C:Ctx)(own:Nat->Ob)(loc:Nat->Value):Cells:=fun b o=>C.M0 b o\/Mut own loc b o
def RepG(w:World)(M:Cells)(sz:Nat)(es:List (List CD))(xs:List Value):Prop:=
 (∀e∈es,e.length=sz)/\RepAs w M (fun _=>undef) (es.flatten.map .c) xs
def ZbF(P:Program)(f:FuncId):Prop:=∃ fn,P.funcs[f]? = some fn /\ fn.body.isSome = true /\ fn.name ≠ "runtime.NumGoroutine"
def CallsV(P:Program)(fv:Value)(vs:List Value)(w:World)(R:Ending->World->Prop):Prop:=
 (∃f ft lc,fv= .func (.func f) ft lc/\ZbF P f/\Calls P f (ft++vs.toArray++lc) w R)\/(∃l,fv= .func (.yield l) #[] #[]/\YieldAt Fence.wide 0 P l vs.toArray w R)
def WinOk(w:World)(M:Cells)(loc:Nat->Value)(v:Value)(cs:List AV)(L:List Nat):Prop:=
 ∃b l rest e,v= .pointer (some ⟨b,0,none⟩)/\AtC w b (l++rest) e/\RepAs w M loc cs l/\AV.pureL cs=true/\b∉L/\∀o,M b o
structure Gst.Ok(P:Program)(g:Gst):Prop where
 one:g.fv.oneCell'=true
 keep:∀{rem L M w M' w'},g.J rem L M w->Keeps w w' M M'->(∀b∈L,w'.heap[b]? =w.heap[b]?)->w.heap.size<=w'.heap.size->g.J rem L M' w'
 call:∀{args wins r rem L M w loc vs},g.J (⟨args,wins,r⟩::rem) L M w->(∀b o,M b o->b<w.heap.size)->(∀b∈L,b<w.heap.size/\∀o,M b o)->RepAs w M loc args vs->
  (∀n,n<2000->loc n=undef)->(∀j cs,wins[j]? =some cs->WinOk w M loc (loc (2000+j)) cs L)->(∀i j,i<wins.length->j<wins.length->loc (2000+i)=loc (2000+j)->i=j)->
  r.scal=true/\CallsV P g.fv vs w fun e w'=>∃v L',e= .returned v/\RepA w' (fun _ _=>False) (fun _=>undef) r v/\Fx w w' (·∈L)/\(∀b∈L',(b∈L\/w.heap.size<=b)/\b<w'.heap.size)/\
   g.J rem L' (fun b o=>(M b o/\b∉L)\/b∈L') w'
def ObOk(P:Program)(A:Nat->Prop)(w:World)(M:Cells)(loc:Nat->Value)(v:Value):Ob->Prop
 |.none=>True
 |.box cs=>∃b l e,v= .pointer (some ⟨b,0,none⟩)/\A b/\AtC w b l e/\RepAs w M loc cs l
 |.win cs=>∃b l rest e,v= .pointer (some ⟨b,0,none⟩)/\AtC w b (l++rest) e/\RepAs w M loc cs l
 |.grow e sz es=>∃xs,w.ownsRow 0 e sz v es.length xs/\(∀b,v.ownBlock=some b->A b)/\RepG w M sz es xs/\0<sz
 |.guest g rem=>g.Ok P/\∃L,v=Zc6 L/\g.J rem L M w/\∀b∈L,b<w.heap.size/\A b
 |.mp kk ek l=>∃b es clock,v= .map (some b)/\A b/\w.heap[b]? =some (.map es clock)/\es.toList.map (fun e=>(e.key,e.val))=l.map fun p=>(Value.int kk p.1,Value.int ek p.2)
def placeV:Value->Bool
 |.slice _ _ _=>false
 |v=>v.oneCell'
def Zj8{v:Value}(h:placeV v=true):v.oneCell'=true:=by cases v<;>first|exact h|cases h
structure G(C:Ctx)(σ:St)(loc:Nat->Value)(a:Act)(w:World):Prop where
 fr:Fr C w
 m0:∀b o,C.M0 b o->b<C.B/\¬C.X b
 kp:Keeps C.w0 w C.Mi (MM C σ.own loc)
 marks:∀d∈a.defers,∃D,d= {target:=.collected D,args:=#[]} /\C.B<=D/\w.heap[D]? =some (.deferred (some []))/\¬Foot σ.own loc D
 mnd:a.defers.Pairwise fun d e=>d.target≠e.target
 pin:∀n,C.pin n->(C.N<=n/\1000<=n)/\loc n=C.l0 n/\placeV (C.l0 n)=true
 size:a.tmps.size=C.N
 slots:∀t,RepA w (MM C σ.own loc) loc (σ.env t) (a.tmps.getD t undef)
 objs:∀n,ObOk C.P C.A w (MM C σ.own loc) loc (loc n) (σ.own n)
 disj:∀n m b,n≠m->(σ.own n).has (loc n) b->(σ.own m).has (loc m) b->False
def ZfJ(w:World)(M:Cells)(v:Value)(h:v.oneCell'=true):RepC w M (ZcV v) v:=by cases v<;>simp[ZcV,RepC]<;>first|exact h|skip
def Zbo(w:World)(M:Cells)(loc:Nat->Value):∀l:List Value,(∀v∈l,v.oneCell'=true)->RepAs w M loc (l.map fun v=> .c (ZcV v)) l
 |[],_=>by simp[RepAs]
 |v::l,h=>by simp only[Ye,RepAs];exact⟨v,l,rfl,by simpa only[RepA]using ZfJ w M v (h v Kd),Zbo w M loc l fun u hu=>h u (by simp[hu])⟩
def ZkF(w:World)(M:Cells)(loc:Nat->Value){v:Value}{x:AV}(h:ZfH v=some x):RepA w M loc x v:=by unfold ZfH at h;split at h;{split at h;{rename_i cs hall;simp at h;subst h;simp only[RepA];exact⟨cs.toList,Kd,Zbo w M loc _ (fun v hv=>Yn.1 hall v hv)⟩};{cases h}};{cases h};{split at h;{rename_i f fs cs hz;simp at h;subst h;simp only[RepA];exact⟨[],by rw[YaW hz.1,YaW hz.2],by simp[RepAs]⟩};{cases h}};{cases h};{rename_i h1 h2 h3 h4;simp at h;subst h;simp only[RepA];refine ZfJ w M v ?_;cases v<;>first|rfl|exact(h1 _ rfl).elim|exact(h2 _ rfl).elim}
variable{C:Ctx}{σ:St}{loc:Nat->Value}{a:Act}{w:World}
def Zuc(hg:G C σ loc a w){x:Operand}{x':X}(h:cX x=some x'):RepA w (MM C σ.own loc) loc (σ.val x') (a.eval x):=by
 cases x<;>simp only[cX]at h;case tmp t=>simp at h;subst h;exact hg.slots t
 case const v=>
  cases hv:ZfH v with
  |none=>simp[hv]at h
  |some y=>simp[hv]at h;subst h;exact ZkF w _ loc hv
 case func f=>
  simp at h;subst h;simp only[St.val,RepA];exact⟨[],rfl,by simp[RepAs]⟩
 case global=>cases h
def Zw9{M:Cells}{x:AV}{v:Value}(h:RepA w M loc x v)(hd:x.dg=true):RepA w M loc x.dv v:=by cases x<;>first|exact h|(simp only[AV.dg]at hd;simp only[RepA]at h;exact h.1 hd)
def ZaJ(hg:G C σ loc a w){x:Operand}{x':X}(h:cX x=some x')(hd:(σ.val x').dg=true):RepA w (MM C σ.own loc) loc (σ.val x').dv (a.eval x):=Zw9 (Zuc hg h) hd
def Ob.has_of_mut{o:Ob}{v:Value}{b k:Nat}(h:o.mut v b k):o.has v b:=by
 cases o with
 |none=>cases v<;>exact h.elim
 |box cs=>(cases v<;>first|exact h.elim|skip);rename_i p;cases p<;>first|exact h.elim|exact h
 |win cs=>(cases v<;>first|exact h.elim|skip);rename_i p;cases p<;>first|exact h.elim|exact h
 |grow e sz es=>(cases v<;>first|exact h.elim|skip);rename_i A _ _;cases A<;>first|exact h.elim|exact h.1
 |guest g rem=>exact h
 |mp kk ek l=>(cases v<;>first|exact h.elim|skip);rename_i p;cases p<;>first|exact h.elim|exact h
def repE_of{M:Cells}{sz:Nat}{g:Nat}:∀(es:List (List CD))(xs:List Value)(o:Nat),(∀e∈es,e.length=sz)->RepAs w M (fun _=>undef) (es.flatten.map .c) xs->
  (∀j u,xs[j]? =some u->w.cell? ⟨g,o+j,none⟩=some u)->(∀j,j<xs.length->¬M g (o+j))->RepE w M sz es ⟨g,o,none⟩:=by
 have hL:∀(cs:List CD)(xs:List Value)(o:Nat),RepAs w M (fun _=>undef) (cs.map .c) xs->
   (∀j u,xs[j]? =some u->w.cell? ⟨g,o+j,none⟩=some u)->(∀j,j<xs.length->¬M g (o+j))->RepL w M cs ⟨g,o,none⟩:=by
  intro cs;induction cs with
  |nil=>intro xs o _ _ _;simp[RepL]
  |cons c cs ih=>
   intro xs o h hc hm;simp only[Ye,RepAs]at h;obtain⟨v,vs,rfl,h1,h2⟩:=h;simp only[RepL];refine⟨⟨v,by simpa using hc 0 v rfl,by simpa using hm 0 Kd,by simpa only[RepA]using h1⟩,?_⟩;have:(⟨g,o,none⟩:Addr).add 1=⟨g,o+1,none⟩:=by simp[Addr.add]
   rw[this];refine ih vs (o+1) h2 (fun j u hj=>?_) (fun j hj=>?_)
   ·have:=hc (j+1) u (by simpa using hj);rwa [show o+(j+1)=o+1+j from by omega]at this
   ·have:=hm (j+1) (by simpa using hj);rwa [show o+(j+1)=o+1+j from by omega]at this
 (intro es;induction es with|nil=>intro xs o _ _ _ _;simp[RepE]|cons e es ih=>intro xs o hsz h hc hm;have hel:e.length=sz:=hsz e Kd;have hlen:=h.length;simp only[YaC,Yy,Yw,Yc]at hlen h;have h1:=RepAs.take e.length h;have h2:=RepAs.drop e.length h;have e1:(List.map AV.c e++List.map AV.c es.flatten).take e.length=List.map AV.c e:=Ybg Kd;have e2:(List.map AV.c e++List.map AV.c es.flatten).drop e.length=List.map AV.c es.flatten:=Yca Kd;rw[e1]at h1;rw[e2]at h2;simp only[RepE];refine⟨⟨hel,hL e _ o h1 (fun j u hj=>?_) (fun j hj=>hm j ?_)⟩,?_⟩;{rw[Y6]at hj;split at hj;{exact hc j u hj};{cases hj}};{simp at hj;omega};{(have:(⟨g,o,none⟩:Addr).add sz=⟨g,o+sz,none⟩:=by unfold Addr.add;split<;>simp_all);rw[this];refine ih _ (o+sz) (fun e' he'=>hsz e' (by simp[he'])) h2 (fun j u hj=>?_) (fun j hj=>?_);{rw[Yaf]at hj;have:=hc _ u hj;rwa [hel,show o+(sz+j)=o+sz+j from by omega]at this};{have:=hm (sz+j) (by simp at hj;omega);rwa [show o+(sz+j)=o+sz+j from by omega]at this}})
def G.grow_data(hg:G C σ loc a w){n e sz:Nat}{es:List (List CD)}(ho:σ.own n= .grow e sz es):RepC w (MM C σ.own loc) (.sl sz es) (loc n):=by have hob:=hg.objs n;rw[ho]at hob;obtain⟨xs,hown,hA,⟨hsz,hrs⟩,hpos⟩:=hob;simp only[RepC];have hlx:=hown.1;rcases hown.2 with⟨hv,hn⟩|⟨g,cap,cur,hv,hb,hh,hnc,hcm,hcs,htake⟩;{have:es=[]:=YE hn;subst this;exact⟨none,0,hv,Yi _,by simp[maxLen],.inl rfl⟩};{refine⟨some ⟨g,0,none⟩,cap,hv,hnc,hcm,.inr ⟨_,rfl,?_⟩⟩;refine repE_of es xs 0 hsz hrs (fun j u hj=>?_) (fun j hj=>?_);{have:=hown.cells (g:=g) (by rw[hv];rfl) j u hj;(have e1:(⟨g,0,none⟩:Addr).add j=⟨g,j,none⟩:=by unfold Addr.add;split<;>simp_all);rw[e1]at this;simpa using this};{rintro(hm|⟨m,hm⟩);{have h1:=hg.m0 _ _ hm;rcases hA g (by rw[hv];rfl)with h2|h2;{omega};{exact h1.2 h2}};{by_cases hmn:m=n;{subst hmn;rw[ho,hv]at hm;simp only[Ob.mut]at hm;omega};{(have hbn:(σ.own n).has (loc n) g:=by rw[ho,hv];rfl);exact hg.disj m n g hmn (Ob.has_of_mut hm) hbn}}}}
def G.elems(hg:G C σ loc a w){x:AV}{v:Value}{es:List (List CD)}(hr:RepA w (MM C σ.own loc) loc x v)(he:x.elems σ.own=some es):
  ∃sz,RepC w (MM C σ.own loc) (.sl sz es) v:=by unfold AV.elems at he;split at he;{simp at he;subst he;rename_i sz _;exact⟨sz,by simpa only[RepA]using hr⟩};{simp at he;subst he;simp only[RepA,RepC]at hr;refine⟨1,?_⟩;simp only[RepC];exact⟨none,0,hr.1,Yi _,by simp[maxLen],.inl trivial⟩};{rename_i n;split at he;{rename_i e sz es' ho;simp at he;subst he;simp only[RepA]at hr;rw[hr.1];exact⟨sz,hg.grow_data ho⟩};{cases he}};{cases he}
def G.slots_(hg:G C σ loc a w){x:AV}{v:Value}{sz:Nat}{es:List (List CD)}(hr:RepA w (MM C σ.own loc) loc x v)(he:x.elemsZ σ.own=some (sz,es)):
  RepC w (MM C σ.own loc) (.sl sz es) v:=by unfold AV.elemsZ at he;split at he;{simp only[Ya,Yj]at he;obtain⟨rfl,rfl⟩:=he;simpa only[RepA]using hr};{rename_i n;split at he;{rename_i e sz' es' ho;simp only[Ya,Yj]at he;obtain⟨rfl,rfl⟩:=he;simp only[RepA]at hr;rw[hr.1];exact hg.grow_data ho};{cases he}};{cases he}
end Go.V
namespace Go.V
variable{C:Ctx}{σ:St}{loc:Nat->Value}{a:Act}{w:World}
def ZbD{P:Program}{t:TypeId}{ad:Addr}{l:List Value}{n:Nat}(ha:isAggB P t=some true)(hs:sizeB P t=some n)(hn:l.length=n)(hc:∀j u,l[j]? =some u->w.cell? (ad.add j)=some u):
  (loadVar t ad).run P w= .ok (.agg l.toArray) w:=by(unfold isAggB at ha;unfold sizeB at hs;cases hi:P.info? t with|none=>simp[hi]at hs|some i=>(simp[hi]at hs;have hl:=run_loadCells_list (P:=P) (w:=w) ad l hc;rw[hn]at hl;cases hu:P.underlying t with|none=>simp[hu]at ha|some d=>simp only[hu]at ha;cases d<;>simp at ha<;>simp[loadVar,isAgg,run_underlying hu,sizeOf,typeInfo,hi,hs,hl]))
def Zb9{P:Program}{t:TypeId}{ad:Addr}{u:Value}(ha:isAggB P t=some false)(hc:w.cell? ad=some u):
  (loadVar t ad).run P w= .ok u w:=by(unfold isAggB at ha;cases hu:P.underlying t with|none=>simp[hu]at ha|some d=>simp only[hu]at ha;cases d<;>simp at ha<;>simp[loadVar,isAgg,run_underlying hu,hc])
def Zcw{P:Program}{t:TypeId}{cs:Array Value}{off:Nat}{u:Value}(ha:isAggB P t=some false)(hc:cs[off]? =some u):(part t cs off).run P w= .ok u w:=by(unfold isAggB at ha;cases hu:P.underlying t with|none=>simp[hu]at ha|some d=>simp only[hu]at ha;cases d<;>simp at ha<;>simp[part,isAgg,run_underlying hu,hc])
def ZmP{P:Program}{t:TypeId}{cs:Array Value}{off n:Nat}(ha:isAggB P t=some true)(hs:sizeB P t=some n):(part t cs off).run P w= .ok (.agg (cs.extract off (off+n))) w:=by(unfold isAggB at ha;unfold sizeB at hs;cases hi:P.info? t with|none=>simp[hi]at hs|some i=>(simp[hi]at hs;cases hu:P.underlying t with|none=>simp[hu]at ha|some d=>simp only[hu]at ha;cases d<;>simp at ha<;>simp[part,isAgg,run_underlying hu,sizeOf,typeInfo,hi,hs]))
def Snd(C:Ctx)(σ:St)(loc:Nat->Value)(a:Act)(w:World)(o:Oper)(v:AV):Prop:=
 ∃u,(execOp a.eval o).run C.P w= .ok (.value u) w/\RepA w (MM C σ.own loc) loc v u
def ZaP{x:AV}{d:CD}(h:x.asC=some d):x= .c d:=by cases x<;>simp only[AV.asC,Ya,reduceCtorEq]at h;rw[h]
def Zqo{op:BinOp}{k:IntKind}{x y:Int}{p:Prop}{d:CD}(h:ZDh op k x y=some (p,d))(hp:p)(t:TypeId)(M:Cells):
  ∃u,(binOp op t (.int k x) (.int k y)).run C.P w= .ok u w/\RepC w M d u:=by
 cases op<;>simp only[ZDh,Ya,Yj,reduceCtorEq]at h<;>obtain⟨rfl,rfl⟩:=h<;>simp only[RepC]<;>
  refine⟨_,?_,rfl⟩<;>first
  |(simp[binOp,Op.intArith];done)
  |(simp[binOp,Op.intCmp];done)
  |(simp[binOp,Op.intDiv,hp];done)
def Zqq{op:BinOp}{k k':IntKind}{x y:Int}{p:Prop}{d:CD}(h:ZDp op k x k' y=some (p,d))(hp:p)(t:TypeId)(M:Cells):
  ∃u,(binOp op t (.int k x) (.int k' y)).run C.P w= .ok u w/\RepC w M d u:=by cases op<;>simp only[ZDp,Ya,Yj,reduceCtorEq]at h<;>obtain⟨rfl,rfl⟩:=h<;>simp only[RepC];{subst hp;exact⟨_,by simp[binOp_and,intBits_and],rfl⟩};{subst hp;exact⟨_,by simp[binOp_or,intBits_or],rfl⟩};{exact⟨_,by simp[binOp_shl,shift_shl k k' x y hp.1 hp.2],rfl⟩};{exact⟨_,by simp[binOp_shr,shift_shr k k' x y hp.1 hp.2],rfl⟩}
def Zxk(hg:G C σ loc a w){o:Oper}{x:Operand}{x':X}{q:Prop}{v:AV}(ho:o.op= .move x\/o.op= .assign x)(hx:cX x=some x')(hp:pevO σ (.mv x')=some (q,v))(hq:q):Snd C σ loc a w o v:=by simp only[pevO,Ya,Yj]at hp;obtain⟨rfl,rfl⟩:=hp;refine⟨a.eval x,?_,ZaJ hg hx hq⟩;rcases ho with ho|ho<;>simp[execOp,ho]
def ZvT(hg:G C σ loc a w){o:Oper}{c x y:Operand}{c' x' y':X}{q:Prop}{v:AV}(ho:o.op= .pick c x y)(hc:cX c=some c')(hx:cX x=some x')(hy:cX y=some y')(hp:pevO σ (.pick c' x' y')=some (q,v))(hq:q):Snd C σ loc a w o v:=by simp only[pevO]at hp;split at hp;{rename_i b ec;replace ec:=ZaP ec;simp only[Ya,Yj]at hp;obtain⟨rfl,rfl⟩:=hp;obtain⟨h1,h2,h3⟩:=hq;have rc:=ZaJ hg hc h1;rw[ec]at rc;simp only[RepA,RepC]at rc;(have bo:∀{z:AV}{u:Value},z.isBo=true->RepA w (MM C σ.own loc) loc z u->u= .bool z.bo:=by intro z u hb hr;cases z<;>simp only[AV.isBo,AV.asC,Yp]at hb;rename_i d;cases d<;>simp only[CD.isBo,Yp]at hb;simp only[RepA,RepC]at hr;exact hr);(cases b with|true=>exact⟨a.eval x,by simp[execOp,ho,rc,asBool],by simp only[RepA,RepC];exact bo (h2 rfl).2 (ZaJ hg hx (h2 rfl).1)⟩|false=>exact⟨a.eval y,by simp[execOp,ho,rc,asBool],by simp only[RepA,RepC];exact bo (h3 rfl).2 (ZaJ hg hy (h3 rfl).1)⟩)};{cases hp}
def Zbi{P:Program}{op:BinOp}{t:TypeId}{x y:Operand}{u v:Value}(h:∀cs,u≠ .agg cs)(h':u≠ .nilIface):(eqGuard op t x y u v).run P w= .ok () w:=by unfold eqGuard;cases u<;>first|exact(h _ rfl).elim|exact(h' rfl).elim|(split<;>simp)
def ZyY(hg:G C σ loc a w){o:Oper}{op:BinOp}{t t':TypeId}{x y:Operand}{x' y':X}{q:Prop}{v:AV}(ho:o.op= .binOp op t x y t')(hx:cX x=some x')(hy:cX y=some y')(hp:pevO σ (.bin op x' y')=some (q,v))(hq:q):Snd C σ loc a w o v:=by simp only[pevO]at hp;split at hp;{rename_i k n k' m ex ey;replace ex:=ZaP ex;replace ey:=ZaP ey;split at hp;{rename_i p d he;simp only[Ya,Yj]at hp;obtain⟨rfl,rfl⟩:=hp;obtain⟨h1,h2,rfl,h4⟩:=hq;have rx:=ZaJ hg hx h1;have ry:=ZaJ hg hy h2;rw[ex]at rx;rw[ey]at ry;simp only[RepA,RepC]at rx ry;obtain⟨u,hu,hr⟩:=Zqo (C:=C) (w:=w) he h4 t (MM C σ.own loc);refine⟨u,?_,by simpa only[RepA]using hr⟩;simp[execOp,ho,rx,ry,Zbi,hu]};{split at hp;{rename_i p d he;simp only[Ya,Yj]at hp;obtain⟨rfl,rfl⟩:=hp;obtain⟨h1,h2,h4⟩:=hq;have rx:=ZaJ hg hx h1;have ry:=ZaJ hg hy h2;rw[ex]at rx;rw[ey]at ry;simp only[RepA,RepC]at rx ry;obtain⟨u,hu,hr⟩:=Zqq (C:=C) (w:=w) he h4 t (MM C σ.own loc);refine⟨u,?_,by simpa only[RepA]using hr⟩;simp[execOp,ho,rx,ry,Zbi,hu]};{cases hp}}};{unfold ZDD at hp;split at hp;all_goals first|(cases hp;done)|(cases hp;exact hq.elim)};{cases hp}
def Zy0(hg:G C σ loc a w){o:Oper}{ne:Bool}{t t':TypeId}{x y:Operand}{x' y':X}{q:Prop}{v:AV}(ho:o.op= .binOp (bif ne then .neq else .eql) t x y t')(ht:C.P.underlying t=some .bool)(hx:cX x=some x')(hy:cX y=some y')(hp:pevO σ (.eqs ne x' y')=some (q,v))(hq:q):Snd C σ loc a w o v:=by simp only[pevO]at hp;split at hp;{rename_i p r ex ey;replace ex:=ZaP ex;replace ey:=ZaP ey;(simp only[Ya,Yj]at hp;obtain⟨rfl,rfl⟩:=hp;obtain⟨h1,h2⟩:=hq;have rx:=ZaJ hg hx h1;have ry:=ZaJ hg hy h2;rw[ex]at rx;rw[ey]at ry;simp only[RepA,RepC]at rx ry;cases ne with|true=>exact⟨.bool (!(p==r)),by simp[execOp,ho,rx,ry,Zbi,binOp,run_equal_bool w _ _ _ ht],by simp[RepA,RepC]⟩|false=>exact⟨.bool (p==r),by simp[execOp,ho,rx,ry,Zbi,binOp,run_equal_bool w _ _ _ ht],by simp[RepA,RepC]⟩)};{cases hp}
def ZCz(hg:G C σ loc a w){o:Oper}{op:UnOp}{t:TypeId}{x:Operand}{x':X}{q:Prop}{v:AV}(ho:o.op= .unOp op t x)(hx:cX x=some x')(hp:pevO σ (.un op x')=some (q,v))(hq:q):Snd C σ loc a w o v:=by simp only[pevO]at hp;split at hp;{rename_i b ex;replace ex:=ZaP ex;simp only[Ya,Yj]at hp;obtain⟨rfl,rfl⟩:=hp;have rx:=ZaJ hg hx hq;rw[ex]at rx;simp only[RepA,RepC]at rx;exact⟨.bool (!b),by simp[execOp,ho,rx,Op.unary],by simp[RepA,RepC]⟩};{rename_i k n ex;replace ex:=ZaP ex;simp only[Ya,Yj]at hp;obtain⟨rfl,rfl⟩:=hp;have rx:=ZaJ hg hx hq;rw[ex]at rx;simp only[RepA,RepC]at rx;exact⟨.int k (k.wrap (0 -n)),by simp[execOp,ho,rx,Op.unary,Op.intArith],by simp[RepA,RepC]⟩};{cases hp}
def ZvS(hg:G C σ loc a w){o:Oper}{x:Operand}{x':X}{q:Prop}{v:AV}(ho:o.op= .nilCheck x)(hx:cX x=some x')(hp:pevO σ (.nilc x')=some (q,v))(hq:q):Snd C σ loc a w o v:=by simp only[pevO]at hp;split at hp;{rename_i cs ex;simp only[Ya,Yj]at hp;obtain⟨rfl,rfl⟩:=hp;have rx:=ZaJ hg hx hq;rw[ex]at rx;refine⟨a.eval x,?_,rx⟩;simp only[RepA,RepC]at rx;obtain⟨ad,e,_⟩:=rx;simp[execOp,ho,e]};{rename_i n off ex;split at hp;(case isFalse=>cases hp);simp only[Ya,Yj]at hp;obtain⟨rfl,rfl⟩:=hp;have rx:=ZaJ hg hx hq;rw[ex]at rx;refine⟨a.eval x,?_,rx⟩;simp only[RepA]at rx;obtain⟨b,_,e⟩:=rx;simp[execOp,ho,e]};{cases hp}
def Zy5(hg:G C σ loc a w){o:Oper}{x:Operand}{t:TypeId}{e:TypeId}{x':X}{q:Prop}{v:AV}(ho:o.op= .call {callee:=.builtin .len,args:=#[x],argTypes:=#[t]})(ht:C.P.underlying t=some (.slice e))(hx:cX x=some x')(hp:pevO σ (.len x')=some (q,v))(hq:q):Snd C σ loc a w o v:=by simp only[pevO]at hp;split at hp;{rename_i n hn;simp only[Ya,Yj]at hp;obtain⟨rfl,rfl⟩:=hp;have rx:=ZaJ hg hx hq;unfold AV.rawLen at hn;split at hn;{rename_i ad m c ex;simp only[Ya]at hn;subst hn;rw[ex]at rx;simp only[RepA,RepC]at rx;refine⟨.int .i64 m,?_,by simp[RepA,RepC]⟩;simp[execOp,ho,resolve,invoke,builtin,rx.1,Builtin.len_,run_underlying ht,goInt]};{cases hn}};{split at hp;{rename_i es he;simp only[Ya,Yj]at hp;obtain⟨rfl,rfl⟩:=hp;have rx:=ZaJ hg hx hq;obtain⟨sz,hr⟩:=hg.elems rx he;simp only[RepC]at hr;obtain⟨A,cap,ev,_⟩:=hr;refine⟨.int .i64 es.length,?_,by simp[RepA,RepC]⟩;simp[execOp,ho,resolve,invoke,builtin,ev,Builtin.len_,run_underlying ht,goInt]};{cases hp}}
def ZCy(hg:G C σ loc a w){o:Oper}{x y:Operand}{mx:Bool}{ts:Array TypeId}{x' y':X}{q:Prop}{v:AV}(ho:o.op= .call {callee:=.builtin (bif mx then .max else .min),args:=#[x,y],argTypes:=ts})(hx:cX x=some x')(hy:cX y=some y')(hp:pevO σ (.mm mx x' y')=some (q,v))(hq:q):Snd C σ loc a w o v:=by simp only[pevO]at hp;split at hp;{rename_i k n k' m ex ey;replace ex:=ZaP ex;replace ey:=ZaP ey;(simp only[Ya,Yj]at hp;obtain⟨rfl,rfl⟩:=hp;obtain⟨h1,h2,rfl⟩:=hq;have rx:=ZaJ hg hx h1;have ry:=ZaJ hg hy h2;rw[ex]at rx;rw[ey]at ry;simp only[RepA,RepC]at rx ry;cases mx with|true=>refine⟨.int k (max n m),?_,by simp[RepA,RepC]⟩;simp[execOp,ho,resolve,invoke,builtin,rx,ry,Builtin.max_,Builtin.max2,Int.max_def];split<;>split<;>omega|false=>refine⟨.int k (min n m),?_,by simp[RepA,RepC]⟩;simp[execOp,ho,resolve,invoke,builtin,rx,ry,Builtin.min_,Builtin.min2,Int.min_def];split<;>split<;>omega)};{cases hp}
def Zy1(hg:G C σ loc a w){o:Oper}{x:Operand}{i:Nat}{x':X}{q:Prop}{v:AV}(ho:o.op= .extract x i)(hx:cX x=some x')(hp:pevO σ (.ext x' i)=some (q,v))(hq:q):Snd C σ loc a w o v:=by simp only[pevO]at hp;split at hp;{rename_i vs ex;split at hp;{rename_i y hy;simp only[Ya,Yj]at hp;obtain⟨rfl,rfl⟩:=hp;have rx:=ZaJ hg hx hq;rw[ex]at rx;simp only[RepA]at rx;obtain⟨l,e,hr⟩:=rx;obtain⟨u,hu,hru⟩:=hr.get i hy;exact⟨u,by simp[execOp,ho,e,Instr.extract,hu],hru⟩};{cases hp}};{cases hp}
def cell_bp{b o:Nat}{l:List Value}{e:TypeId×(Nat×Nat)}(h:AtC w b l e):w.cell? ⟨b,o,none⟩=l[o]?:=by simp[World.cell?,h.1]
def ZCw(hg:G C σ loc a w){o:Oper}{s:TypeId}{x:Operand}{f:Nat}{fs:Array Field}{fd:Field}{n:Nat}{x':X}{q:Prop}{v:AV}(ho:o.op= .fieldAddr s x f)(hs:C.P.underlying s=some (.struct fs))(hf:fs[f]? =some fd)(hn:sizeB C.P fd.type=some n)(h0:n≠0)(hx:cX x=some x')(hp:pevO σ (.fa fd.offset x')=some (q,v))(hq:q):Snd C σ loc a w o v:=by(have hfp:∀ad,(fieldPlace ad fd).run C.P w= .ok (ad.add fd.offset) w:=by(intro ad;unfold sizeB at hn;cases hi:C.P.info? fd.type with|none=>simp[hi]at hn|some i=>simp[hi]at hn;simp[fieldPlace,sizeOf,typeInfo,hi,hn,h0]));simp only[pevO]at hp;split at hp;{rename_i cs ex;simp only[Ya,Yj]at hp;obtain⟨rfl,rfl⟩:=hp;have rx:=ZaJ hg hx hq;rw[ex]at rx;simp only[RepA,RepC]at rx;obtain⟨ad,e,hr⟩:=rx;refine⟨.pointer (some (ad.add fd.offset)),?_,?_⟩;{simp[execOp,ho,e,Instr.fieldAt,run_underlying hs,hf,Instr.sureAddr,hfp]};{simp only[RepA,RepC];exact⟨_,rfl,hr.drop _⟩}};{rename_i m off ex;split at hp;(case isFalse=>cases hp);simp only[Ya,Yj]at hp;obtain⟨rfl,rfl⟩:=hp;have rx:=ZaJ hg hx hq;rw[ex]at rx;simp only[RepA]at rx;obtain⟨b,el,e⟩:=rx;refine⟨.pointer (some ⟨b,off+fd.offset,none⟩),?_,?_⟩;{(have:(⟨b,off,none⟩:Addr).add fd.offset=⟨b,off+fd.offset,none⟩:=by unfold Addr.add;split<;>simp_all);simp[execOp,ho,e,Instr.fieldAt,run_underlying hs,hf,Instr.sureAddr,hfp,this]};{simp only[RepA];exact⟨b,el,rfl⟩}};{cases hp}
def ZCx(hg:G C σ loc a w){o:Oper}{t e:TypeId}{x i:Operand}{sz:Nat}{x' i':X}{q:Prop}{v:AV}(ho:o.op= .indexAddr t x i)(ht:C.P.underlying t=some (.slice e))(hs:sizeB C.P e=some sz)(hx:cX x=some x')(hi:cX i=some i')(hp:pevO σ (.ia sz x' i')=some (q,v))(hq:q):Snd C σ loc a w o v:=by simp only[pevO]at hp;split at hp;{rename_i sz' es k j ex ei;replace ei:=ZaP ei;split at hp;{rename_i hsz;subst hsz;simp only[Ya,Yj]at hp;obtain⟨rfl,rfl⟩:=hp;obtain⟨h1,h2,h3,h4⟩:=hq;have rx:=ZaJ hg hx h1;have ri:=ZaJ hg hi h2;rw[ei]at ri;simp only[RepA,RepC]at ri;have hr:=hg.slots_ rx ex;simp only[RepC]at hr;obtain⟨A,cap,e1,hc,hm,he⟩:=hr;rcases he with rfl|⟨ad,rfl,hE⟩;{simp at h4;omega};{have hget:=RepE.get _ _ j.toNat hE Kc;refine⟨.pointer (some (ad.add (j.toNat*sz'))),?_,?_⟩;{(unfold sizeB at hs;cases hinf:C.P.info? e with|none=>simp[hinf]at hs|some inf=>simp[hinf]at hs;simp[execOp,ho,e1,ri,Instr.indexAt,asIntOf,run_underlying ht,h3,h4,sizeOf,typeInfo,hinf,hs])};{simp only[RepA,RepC];exact⟨_,rfl,hget.2⟩}}};{cases hp}};{cases hp}
def Zxj(hg:G C σ loc a w){o:Oper}{t:TypeId}{x:Operand}{ag:Bool}{sz:Nat}{x':X}{q:Prop}{v:AV}(ho:o.op= .load t x)(ha:isAggB C.P t=some ag)(hs:sizeB C.P t=some sz)(hx:cX x=some x')(hp:pevO σ (.ld (!ag) sz x')=some (q,v))(hq:q):Snd C σ loc a w o v:=by simp only[pevO]at hp;split at hp;{(rename_i cs ex;cases ag with|false=>simp only[YbG,YJ,Ya,Yj]at hp;obtain⟨rfl,rfl⟩:=hp;obtain⟨hq,hlen⟩:=hq;have rx:=ZaJ hg hx hq;rw[ex]at rx;(obtain⟨d,ds,rfl⟩:∃d ds,cs=d::ds:=by(cases cs with|nil=>simp at hlen|cons c cs=>exact⟨_,_,rfl⟩));simp only[RepA,RepC,RepL]at rx;obtain⟨ad,e,⟨u,hu,_,hr⟩,_⟩:=rx;exact⟨u,by simp[execOp,ho,e,Instr.loadAt,Instr.sureAddr,Zb9 ha hu],by simpa only[RepA,YaN]using hr⟩|true=>simp only[Ybq,Yp,YA,Ya,Yj]at hp;obtain⟨rfl,rfl⟩:=hp;obtain⟨h1,h2⟩:=hq;have rx:=ZaJ hg hx h1;rw[ex]at rx;simp only[RepA,RepC]at rx;obtain⟨ad,e,hr⟩:=rx;obtain⟨l,hl,hc,hrs⟩:=hr.vals (loc:=loc) sz _ _ h2;exact⟨.agg l.toArray,by simp[execOp,ho,e,Instr.loadAt,Instr.sureAddr,ZbD ha hs hl hc],by simp only[RepA];exact⟨l,rfl,hrs⟩⟩)};{rename_i n off ex;split at hp;{(rename_i cs hown;have hob:=hg.objs n;rw[hown]at hob;obtain⟨b,l,e,hln,_,hh,hrs⟩:=hob;cases ag with|false=>simp only[YbG,YJ,Ya,Yj]at hp;obtain⟨rfl,rfl⟩:=hp;obtain⟨hq,hlen⟩:=hq;have rx:=ZaJ hg hx hq;rw[ex]at rx;simp only[RepA]at rx;obtain⟨b',hb',ev⟩:=rx;rw[hln]at hb';simp only[Value.pointer.injEq,Ya,Addr.mk.injEq,Ya2]at hb';subst hb';obtain⟨u,hu,hru⟩:=hrs.get (a:=cs.getD off .non) off (by rw[Yb,Yd hlen];rfl);exact⟨u,by simp[execOp,ho,ev,Instr.loadAt,Instr.sureAddr,Zb9 ha ((cell_bp hh).trans hu)],hru⟩|true=>simp only[Ybq,Yp,YA,Ya,Yj]at hp;obtain⟨rfl,rfl⟩:=hp;obtain⟨h1,h2⟩:=hq;have rx:=ZaJ hg hx h1;rw[ex]at rx;simp only[RepA]at rx;obtain⟨b',hb',ev⟩:=rx;rw[hln]at hb';simp only[Value.pointer.injEq,Ya,Addr.mk.injEq,Ya2]at hb';subst hb';have hlen:=hrs.length;(have hl2:((l.drop off).take sz).length=sz:=by simp;omega);(have hc:∀j u,((l.drop off).take sz)[j]? =some u->w.cell? ((⟨b,off,none⟩:Addr).add j)=some u:=by intro j u hj;rw[Y6]at hj;split at hj;{rw[Yaf]at hj;(have:(⟨b,off,none⟩:Addr).add j=⟨b,off+j,none⟩:=by unfold Addr.add;split<;>simp_all);rw[this,cell_bp hh,hj]};{cases hj});exact⟨.agg ((l.drop off).take sz).toArray,by simp[execOp,ho,ev,Instr.loadAt,Instr.sureAddr,ZbD ha hs hl2 hc],by simp only[RepA];exact⟨_,rfl,(hrs.drop off).take sz⟩⟩)};{cases hp}};{cases hp}
def Zy2(hg:G C σ loc a w){o:Oper}{t:TypeId}{x:Operand}{f:Nat}{fs:Array Field}{fd:Field}{ag:Bool}{sz:Nat}{x':X}{q:Prop}{v:AV}(ho:o.op= .field t x f)(ht:C.P.underlying t=some (.struct fs))(hf:fs[f]? =some fd)(ha:isAggB C.P fd.type=some ag)(hs:sizeB C.P fd.type=some sz)(hx:cX x=some x')(hp:pevO σ (.fld (!ag) sz fd.offset x')=some (q,v))(hq:q):Snd C σ loc a w o v:=by simp only[pevO]at hp;split at hp;{(rename_i cs ex;cases ag with|false=>simp only[YbG,YJ]at hp;split at hp;{rename_i d hcs;simp only[Ya,Yj]at hp;obtain⟨rfl,rfl⟩:=hp;have rx:=ZaJ hg hx hq;rw[ex]at rx;simp only[RepA]at rx;obtain⟨l,e,hrs⟩:=rx;obtain⟨u,hu,hru⟩:=hrs.get fd.offset hcs;exact⟨u,by simp[execOp,ho,e,Instr.field,run_underlying ht,hf,asAgg,Zcw (w:=w) ha (cs:=l.toArray) (by simpa using hu)],hru⟩};{cases hp}|true=>simp only[Ybq,Yp,YA,Ya,Yj]at hp;obtain⟨rfl,rfl⟩:=hp;obtain⟨h1,h2⟩:=hq;have rx:=ZaJ hg hx h1;rw[ex]at rx;simp only[RepA]at rx;obtain⟨l,e,hrs⟩:=rx;refine⟨.agg (l.toArray.extract fd.offset (fd.offset+sz)),by simp[execOp,ho,e,Instr.field,run_underlying ht,hf,asAgg,ZmP (w:=w) ha hs],?_⟩;simp only[RepA];refine⟨(l.drop fd.offset).take sz,?_,(hrs.drop _).take _⟩;simp)};{cases hp}
def Zgk(hg:G C σ loc a w):∀(xs:List Operand)(xs':List X),cXs xs=some xs'->(∀x∈xs',(σ.val x).dg=true)->RepAs w (MM C σ.own loc) loc (xs'.map fun x=>(σ.val x).dv) (xs.map a.eval)
 |[],xs',h,_=>by simp[cXs]at h;subst h;simp[RepAs]
 |x::xs,xs',h,hd=>by simp only[cXs,Yao,Yaw,YS,Yz,Ya]at h;obtain⟨y,hy,ys,hys,rfl⟩:=h;simp only[Ye,RepAs];exact⟨_,_,rfl,ZaJ hg hy (hd y Kd),Zgk hg xs ys hys fun z hz=>hd z (by simp[hz])⟩
def ZvR(hg:G C σ loc a w){o:Oper}{f:FuncId}{first caps:Array Operand}{caps':List X}{q:Prop}{v:AV}(ho:o.op= .makeFunc (.func f) first caps)(h0:first.size=0)(hc:cXs caps.toList=some caps')(hp:pevO σ (.mkfn f caps')=some (q,v))(hq:q):Snd C σ loc a w o v:=by simp only[pevO,Ya,Yj]at hp;obtain⟨rfl,rfl⟩:=hp;have hv:=Zgk hg caps.toList caps' hc (by simpa using hq);refine⟨.func (.func f) #[] (caps.map a.eval),?_,?_⟩;{(have:first= #[]:=YaW h0);simp[execOp,ho,Instr.makeFunc,this]};{simp only[RepA];exact⟨caps.toList.map a.eval,by congr 1;apply YaS;simp,hv⟩}
def RepA.cellsA_{M:Cells}{own:Nat->Ob}{x:AV}{v:Value}{vs:List AV}(h:RepA w M loc x v)(he:x.cellsA own=some vs):RepAs w M loc vs v.cells.toList:=by
 cases x<;>simp only[AV.cellsA,Ya,reduceCtorEq]at he<;>(try(split at he<;>(try(cases he;done))<;>simp only[Ya]at he))<;>subst he
 case agg cs=>
  simp only[RepA]at h;obtain⟨l,rfl,hr⟩:=h;simpa [Value.cells]using hr
 all_goals
  have h1:v.cells= #[v]:=by
   cases v<;>first|rfl|(simp only[RepA]at h;first|(have:=h.one;simp[Value.oneCell']at this;done)|(simp at h;done)|(simp[Value.oneCell']at h;done))
  rw[h1];simp only[RepAs];exact⟨v,[],rfl,h,rfl⟩
def ZoP{l:List Value}:∀(k:Nat)(off:Nat)(cs:Array Value),off+k+l.length<=cs.size->
  ((l.zipIdx k).foldl (fun(cs:Array Value)(p:Value×Nat)=>cs.setIfInBounds (off+p.2) p.1) cs).toList=splice cs.toList (off+k) l:=by(induction l with|nil=>intro k off cs _;simp[splice]|cons v l ih=>intro k off cs h;simp only[List.zipIdx_cons,Yav];rw[ih (k+1) off _ (by simp at h|-;omega)];simp only[Yo]at h;simp only[splice,Array.toList_setIfInBounds];(have h1:off+k<cs.toList.length:=by simp;omega);rw[List.take_set,List.drop_set,Yt Kc,show off+(k+1)=off+k+1 from by omega,Yq h1];rw[YbO _ _ (by simp;omega)];simp only[Y4,Ycg (Nat.le_of_lt h1),Yb6,YbL,YO,YH,YM,Yo];rw[show off+k+1+l.length=off+k+(l.length+1)from by omega])
def RepAs.splice{M:Cells}{as bs:List AV}{l m:List Value}(o:Nat)(h:RepAs w M loc as l)(k:RepAs w M loc bs m):RepAs w M loc (splice as o bs) (splice l o m):=by unfold Go.V.splice;rw[k.length];exact(h.take o).append (k.append (h.drop _))
def ZhU(hg:G C σ loc a w)(place:Nat->Option (Nat×Nat)):∀(parts:List (Nat×Operand))(ps:List (Nat×Nat×X))(cs:List AV)(arr:Array Value){p:Prop}{r:List AV},
  (parts.map fun(x:Nat×Operand)=>x.2).mapM cX=some (ps.map fun x=>x.2.2)->(∀(i:Nat)(q:Nat×Operand),parts[i]? =some q->∃r:Nat×Nat×X,ps[i]? =some r/\place q.1=some (r.1,r.2.1))->
  bldGo σ ps cs=some (p,r)->p->RepAs w (MM C σ.own loc) loc cs arr.toList->∃arr',Instr.fill place arr (parts.map fun x=>(x.1,a.eval x.2))=some arr'/\RepAs w (MM C σ.own loc) loc r arr'.toList
 |[],ps,cs,arr,p,r,hps,_,hb,hp,hr=>by(have:ps=[]:=by cases ps with|nil=>rfl|cons=>simp at hps);subst this;simp only[bldGo,Ya,Yj]at hb;obtain⟨rfl,rfl⟩:=hb;exact⟨arr,rfl,hr⟩
 |(i,x)::parts,ps,cs,arr,p,r,hps,hpl,hb,hp,hr=>by(simp only[Ye,Yao,Yaw,YS,Yz,Ya]at hps;obtain⟨y,hy,ys,hys,he⟩:=hps;cases ps with|nil=>simp at he|cons p0 ps=>obtain⟨off,sz,x'⟩:=p0;simp only[Ye,Ya3]at he;obtain⟨rfl,rfl⟩:=he;obtain⟨r0,hr0,hpl0⟩:=hpl 0 (i,x) rfl;simp at hr0;subst hr0;simp only[bldGo]at hb;split at hb;{rename_i vs hvs;split at hb;{rename_i hfit;split at hb;{rename_i p' r' hb';simp only[Ya,Yj]at hb;obtain⟨rfl,rfl⟩:=hb;obtain⟨hd,hp'⟩:=hp;have hvr:=(ZaJ hg hy hd).cellsA_ hvs;have hl1:=hvr.length;have hl2:=hr.length;simp only[Ye,Instr.fill,hpl0];rw[Yx (by simp at hl1 hl2|-;omega)];refine ZhU hg place parts ps _ _ hys (fun j q hq=>by simpa using hpl (j+1) q (by simpa using hq)) hb' hp' ?_;(have hz:(a.eval x).cells.zipIdx.foldl (fun(cs:Array Value)(p:Value×Nat)=>cs.setIfInBounds (off+p.2) p.1) arr=(Go.V.splice arr.toList off (a.eval x).cells.toList).toArray:=by apply YaS;have:=ZoP (l:=(a.eval x).cells.toList) 0 off arr (by simp at hl1 hl2|-;omega);simp only[Yad]at this;rw[List.toList_toArray,<-this,<-Array.foldl_toList];simp);have hz':(a.eval x).cells.zipIdx.foldl (fun(cs:Array Value)(x:Value×Nat)=>match x with|(c,j)=>cs.setIfInBounds (off+j) c) arr=(Go.V.splice arr.toList off (a.eval x).cells.toList).toArray:=hz;rw[hz'];simpa using hr.splice off hvr};{cases hb}};{cases hb}};{cases hb})
end Go.V
namespace Go.V
def Zdu(w:World)(M:Cells):List CD->List Value->Prop
 |[],vs=>vs=[]
 |d::ds,vs=>∃v vs',vs=v::vs'/\RepC w M d v/\Zdu w M ds vs'
def Zbd{w:World}{M:Cells}{d:CD}{ds:List CD}{v:Value}{vs:List Value}:Zdu w M (d::ds) (v::vs)↔RepC w M d v/\Zdu w M ds vs:=by simp only[Zdu,Ya3];constructor;{rintro⟨_,_,⟨rfl,rfl⟩,h1,h2⟩;exact⟨h1,h2⟩};{rintro⟨h1,h2⟩;exact⟨_,_,⟨rfl,rfl⟩,h1,h2⟩}
def ZpV{w:World}{M:Cells}:Zdu w M [] []↔True:=by simp[Zdu]
section
variable{P:Program}{w:World}{M:Cells}{a:Act}{o:Oper}{ds:List CD}{q:Prop}{d:CD}
def Zfx(s:List UInt8):(ByteArray.mk s.toArray).size=s.length:=by rw[ByteArray.size_mk',YaV]
def Zti{op:BinOp}{t t':TypeId}{x y:Operand}(ho:o.op= .binOp op t x y t')(hr:Zdu w M ds [a.eval x,a.eval y])(he:Prim.ev (.sbin op) ds=some (q,d))(hq:q):∃u,(execOp a.eval o).run P w= .ok (.value u) w/\RepC w M d u:=by
 unfold Prim.ev at he;split at he<;>simp only[reduceCtorEq,Ya,Yj,Prim.sbin.injEq]at he;all_goals(try(rename_i h;cases h))
 all_goals
  simp only[Zbd,RepC]at hr;obtain⟨rx,ry,hnil⟩:=hr;clear hnil;obtain⟨rfl,rfl⟩:=he
 {rename_i s1 s2;refine⟨.string ⟨(s1++s2).toArray⟩,?_,by simp only[RepC]⟩;(have h1:¬(9223372036854775807<s1.length+s2.length):=by have:maxLen=9223372036854775807:=rfl;omega);simp[execOp,ho,rx,ry,Zbi,binOp_string_add,run_string_add_if,Zfx,h1,ByteArray.mk_append_mk]};{rename_i s1 s2;exact⟨.bool (s1==s2),by simp[execOp,ho,rx,ry,Zbi,binOp_string_eql],by simp only[RepC]⟩};{rename_i s1 s2;exact⟨.bool (!(s1==s2)),by simp[execOp,ho,rx,ry,Zbi,binOp_string_neq],by simp only[RepC]⟩}
def Ztk{x:Operand}{t:TypeId}(ho:o.op= .call {callee:=.builtin .len,args:=#[x],argTypes:=#[t]})(ht:P.underlying t=some .string)(hr:Zdu w M ds [a.eval x])(he:Prim.ev .slen ds=some (q,d))(hq:q):∃u,(execOp a.eval o).run P w= .ok (.value u) w/\RepC w M d u:=by unfold Prim.ev at he;split at he<;>simp only[reduceCtorEq,Ya,Yj]at he;(all_goals(try(rename_i h;cases h)));simp only[Zbd,RepC]at hr;obtain⟨rx,hnil⟩:=hr;clear hnil;obtain⟨rfl,rfl⟩:=he;rename_i s1;exact⟨.int .i64 s1.length,by simp[execOp,ho,resolve,invoke,builtin,rx,run_len_string w t _ _ ht,goInt,Zfx],by simp only[RepC]⟩
def Ztj{x i:Operand}{t:TypeId}(ho:o.op= .index t x i)(ht:P.underlying t=some .string)(hr:Zdu w M ds [a.eval x,a.eval i])(he:Prim.ev .sidx ds=some (q,d))(hq:q):∃u,(execOp a.eval o).run P w= .ok (.value u) w/\RepC w M d u:=by unfold Prim.ev at he;split at he<;>simp only[reduceCtorEq,Ya,Yj]at he;(all_goals(try(rename_i h;cases h)));simp only[Zbd,RepC]at hr;obtain⟨rx,ri,hnil⟩:=hr;clear hnil;obtain⟨rfl,rfl⟩:=he;rename_i s1 k j;(have hj:j.toNat<s1.length:=by omega);refine⟨.int .u8 (s1.getD j.toNat 0).toNat,?_,by simp only[RepC]⟩;simp[execOp,ho,rx,ri,run_index_string w t _ _ _ ht,Zfx,hq.1,hq.2,hj];rfl
def Zth{s t:TypeId}{x:Operand}{k k0:IntKind}(ho:o.op= .convert s t x)(hs:P.underlying s=some (.int k0))(ht:P.underlying t=some (.int k))(hr:Zdu w M ds [a.eval x])(he:Prim.ev (.conv k) ds=some (q,d))(hq:q):∃u,(execOp a.eval o).run P w= .ok (.value u) w/\RepC w M d u:=by unfold Prim.ev at he;split at he<;>simp only[reduceCtorEq,Ya,Yj,Prim.conv.injEq]at he;(all_goals(try(rename_i h;cases h)));simp only[Zbd,RepC]at hr;obtain⟨rx,hnil⟩:=hr;clear hnil;obtain⟨rfl,rfl⟩:=he;rename_i k1 n;exact⟨.int k (k.wrap n),by simp[execOp,ho,rx,convert,run_underlying hs,run_underlying ht,Conv.intToInt],by simp only[RepC]⟩
def Zn7{t:TypeId}(ht:P.underlying t=some .string)(x:Value)(lo hi mx:Option Value):(Instr.sliceAt t x lo hi mx).run P w=(Instr.slice t x lo hi mx).run P w:=by simp[Instr.sliceAt,run_underlying ht]
def Ztl{x:Operand}{lo hi:Option Operand}{t:TypeId}(ho:o.op= .slice t x lo hi none)(ht:P.underlying t=some .string)(hr:Zdu w M ds ((x::(lo.toList++hi.toList)).map a.eval))(he:Prim.ev (.sslc lo.isSome hi.isSome) ds=some (q,d))(hq:q):∃u,(execOp a.eval o).run P w= .ok (.value u) w/\RepC w M d u:=by(have hex:(execOp a.eval o).run P w=((Instr.slice t (a.eval x) (lo.map a.eval) (hi.map a.eval) none).run P w).andThen fun v w'=> .ok (.value v) w':=by simp[execOp,ho,Zn7 ht]);(rw[hex];cases lo with|none=>(cases hi with|none=>simp only[Ych,Yck,Yas,Ye,Yg,Ycj]at*;unfold Prim.ev at he;split at he<;>simp only[reduceCtorEq,Ya,Yj,Prim.sslc.injEq,Ycu,Yc3]at he;(all_goals(try(rename_i h;cases h)));simp only[Zbd,RepC]at hr;obtain⟨rx,hnil⟩:=hr;clear hnil;obtain⟨rfl,rfl⟩:=he;rename_i s1;exact⟨.string ⟨s1.toArray⟩,by rw[rx,run_slice_string_all w t _ ht,ByteArray.extract_mk,Zfx];simp,by simp only[RepC]⟩|some h=>simp only[Ych,Yci,Yck,YcN,YM,Ye,Yg,Ycj,YR]at*;unfold Prim.ev at he;split at he<;>simp only[reduceCtorEq,Ya,Yj,Prim.sslc.injEq,Ycu,Yc3]at he;(all_goals(try(rename_i h;cases h)));simp only[Zbd,RepC]at hr;obtain⟨rx,rh,hnil⟩:=hr;clear hnil;obtain⟨rfl,rfl⟩:=he;rename_i s1 k j;exact⟨.string ⟨(s1.take j.toNat).toArray⟩,by rw[rx,rh,run_slice_string_to_if w t _ _ _ ht,Zfx,Yt hq,ByteArray.extract_mk];simp,by simp only[RepC]⟩)|some l=>(cases hi with|none=>simp only[Ych,Yci,Yck,YcN,Yas,Ye,Yg,Ycj,YR]at*;unfold Prim.ev at he;split at he<;>simp only[reduceCtorEq,Ya,Yj,Prim.sslc.injEq,Ycu,Yc3]at he;(all_goals(try(rename_i h;cases h)));simp only[Zbd,RepC]at hr;obtain⟨rx,rh,hnil⟩:=hr;clear hnil;obtain⟨rfl,rfl⟩:=he;rename_i s1 k j;refine⟨.string ⟨(s1.drop j.toNat).toArray⟩,?_,by simp only[RepC]⟩;rw[rx,rh,run_slice_string_from_if w t _ _ _ ht,Zfx,Yt hq,ByteArray.extract_mk];rw[YG Kd];rfl|some h=>simp only[Ych,Yci,Yck,YcN,YH,YM,Ye,Yg,Ycj,YR]at*;unfold Prim.ev at he;split at he<;>simp only[reduceCtorEq,Ya,Yj,Prim.sslc.injEq,Ycu,Yc3]at he;(all_goals(try(rename_i h;cases h)));simp only[Zbd,RepC]at hr;obtain⟨rx,rl,rh,hnil⟩:=hr;clear hnil;obtain⟨rfl,rfl⟩:=he;rename_i s1 k1 j1 k2 j2;refine⟨.string ⟨((s1.drop j1.toNat).take (j2.toNat -j1.toNat)).toArray⟩,?_,by simp only[RepC]⟩;rw[rx,rl,rh,run_slice_string w t _ _ _ _ _ ht hq.1 hq.2.1 (by rw[Zfx];exact hq.2.2),ByteArray.extract_mk];rfl))
def ZqF{p:Prim}{l:List Operand}(hc:cPrim P o.op=some (p,l))(hr:Zdu w M ds (l.map a.eval))(he:p.ev ds=some (q,d))(hq:q):∃u,(execOp a.eval o).run P w= .ok (.value u) w/\RepC w M d u:=by generalize hop:o.op=op at hc;unfold cPrim at hc;split at hc;{split at hc;{simp only[Ya,Yj]at hc;obtain⟨rfl,rfl⟩:=hc;exact Zti hop hr he hq};{cases hc}};{split at hc;{split at hc;{rename_i e1 e2 ht;simp only[Ya,Yj]at hc;obtain⟨rfl,rfl⟩:=hc;rename_i args ts _ _ x t ea;(have h1:args= #[x]:=by apply YaS;exact ea);(have h2:ts= #[t]:=by apply YaS;exact e1);subst h1;subst h2;exact Ztk hop ht hr he hq};{cases hc}};{cases hc}};{split at hc;{rename_i ht;simp only[Ya,Yj]at hc;obtain⟨rfl,rfl⟩:=hc;exact Ztj hop ht hr he hq};{cases hc}};{split at hc;{rename_i ht;simp only[Ya,Yj]at hc;obtain⟨rfl,rfl⟩:=hc;exact Ztl hop ht hr he hq};{cases hc}};{split at hc;{rename_i hs ht;simp only[Ya,Yj]at hc;obtain⟨rfl,rfl⟩:=hc;exact Zth hop hs ht hr he hq};{cases hc}};{cases hc}
end
def Zoy{w:World}{M:Cells}{loc:Nat->Value}:∀{vs:List AV}{ds:List CD}{us:List Value},vs.mapM AV.asC=some ds->RepAs w M loc vs us->Zdu w M ds us
 |[],ds,us,h,hr=>by simp at h;subst h;simp only[RepAs]at hr;subst hr;rw[ZpV];trivial
 |x::vs,ds,us,h,hr=>by simp only[Yao,Yaw,YS,Yz,Ya]at h;obtain⟨d,hd,ds',hds,rfl⟩:=h;simp only[RepAs]at hr;obtain⟨u,us',rfl,h1,h2⟩:=hr;rw[ZaP hd]at h1;rw[Zbd];exact⟨by simpa only[RepA]using h1,Zoy hds h2⟩
def ZvU{C:Ctx}{σ:St}{loc:Nat->Value}{a:Act}{w:World}(hg:G C σ loc a w){o:Oper}{p:Prim}{l:List Operand}{xs:List X}{q:Prop}{v:AV}(hc:cPrim C.P o.op=some (p,l))(hx:cXs l=some xs)(hp:pevO σ (.prim p xs)=some (q,v))(hq:q):Snd C σ loc a w o v:=by simp only[pevO,ZmJ]at hp;split at hp;{rename_i ds hds;split at hp;{rename_i q' d he;simp only[Ya,Yj]at hp;obtain⟨rfl,rfl⟩:=hp;have hr:=Zgk hg l xs hx fun x hm=>Yn.1 hq.1 x hm;obtain⟨u,h1,h2⟩:=ZqF hc (Zoy hds hr) he hq.2;exact⟨u,h1,by simpa only[RepA]using h2⟩};{unfold ZmI at hp;split at hp;{simp only[Ya,Yj]at hp;exact(hp.1▸hq:False).elim};{simp only[Ya,Yj]at hp;exact(hp.1▸hq:False).elim};{cases hp}}};{cases hp}
end Go.V
namespace Go.V
variable{C:Ctx}{σ:St}{loc:Nat->Value}{a:Act}{w:World}
def ZfZ{α β:Type}{f:α->Option β}:∀{l:List α}{r:List β}{i:Nat}{x:α},l.mapM f=some r->l[i]? =some x->∃y,r[i]? =some y/\f x=some y
 |[],_,_,_,_,h=>by simp at h
 |z::l,r,i,x,h,hx=>by(simp only[Yao,Yaw,YS,Yz,Ya]at h;obtain⟨y,hy,ys,hys,rfl⟩:=h;match i,hx with|0,hx=>simp at hx;subst hx;exact⟨y,rfl,hy⟩|i+1,hx=>simpa using ZfZ hys (by simpa using hx))
def ZcR{P:Program}{t:TypeId}{z:List AV}(h:zeroB P t=some z):∃i v,P.info? t=some i/\i.zero=some v/\(∀u∈v.cells.toList,u.oneCell'=true)/\z=v.cells.toList.map fun v=> .c (ZcV v):=by unfold zeroB at h;split at h;{rename_i v hv;split at h;{(rename_i hall;simp at h;cases hi:P.info? t with|none=>simp[hi]at hv|some i=>simp[hi]at hv;exact⟨i,v,rfl,hv,fun u hu=>Yn.1 hall u hu,h.symm⟩)};{cases h}};{cases h}
def ZyZ(hg:G C σ loc a w){o:Oper}{t:TypeId}{parts:Array (Nat×Operand)}{fs:Array Field}{places:List (Nat×Nat)}{z:List AV}{ps:List (Nat×Nat×X)}{q:Prop}{v:AV}(ho:o.op= .build t parts)(hu:C.P.underlying t=some (.struct fs))(hpl:fs.toList.mapM (fun f=>(C.P.info? f.type).map fun i=>(f.offset,i.size))=some places)(hz:zeroB C.P t=some z)(hps:parts.toList.mapM (cPart places)=some ps)(hp:pevO σ (.bld z ps)=some (q,v))(hq:q):Snd C σ loc a w o v:=by
 simp only[pevO,Yh]at hp;obtain⟨⟨p,r⟩,hb,he⟩:=hp;simp only[Yj]at he;obtain⟨rfl,rfl⟩:=he;obtain⟨it,zv,hit,hzv,hone,rfl⟩:=ZcR hz;have hall:∀(l:List (Nat×Operand))(ps:List (Nat×Nat×X)),l.mapM (cPart places)=some ps->
   (l.map fun(x:Nat×Operand)=>x.2).mapM cX=some (ps.map fun x=>x.2.2)/\(∀(i:Nat)(q:Nat×Operand),l[i]? =some q->∃r:Nat×Nat×X,ps[i]? =some r/\places.toArray[q.1]? =some (r.1,r.2.1)):=by
  intro l;induction l with
  |nil=>intro ps h;simp at h;subst h;simp
  |cons p l ih=>
   intro ps h;simp only[Yao,Yaw,YS,Yz,Ya]at h;obtain⟨y,hy,ys,hys,rfl⟩:=h;unfold cPart at hy;split at hy
   ·rename_i pl x h1 h2;simp only[Ya]at hy;subst hy;obtain⟨i1,i2⟩:=ih ys hys;refine⟨by simp[h2,i1],fun i q hq=>?_⟩;match i,hq with
    |0,hq=>simp at hq;subst hq;exact⟨_,rfl,by simpa using h1⟩
    |i+1,hq=>simpa using i2 i q (by simpa using hq)
   ·cases hy
 obtain⟨h1,h2⟩:=hall _ _ hps;obtain⟨arr',hf,hr⟩:=ZhU hg (places.toArray[·]?) parts.toList ps _ zv.cells h1 h2 hb hq (Zbo w _ loc _ hone);(have hbuilt:C.P.built t (parts.map fun(i,x)=>(i,a.eval x)).toList=some arr':=by unfold Program.built;simp only[hit,hu,hzv,hpl];simpa using hf);refine⟨.agg arr',?_,by simp only[RepA];exact⟨arr'.toList,Kd,hr⟩⟩;simp[execOp,ho,run_build w t _ arr' hbuilt]
def ZeJ(hg:G C σ loc a w){x:Option Operand}{x':Option X}{n:Nat}{p:Prop}{k:Int}(hx:cOX x=some x')(hb:bound σ n x'=some (p,k))(hp:p):
  (x=none/\k=n)\/∃o kd,x=some o/\a.eval o= .int kd k:=by(cases x with|none=>simp[cOX]at hx;subst hx;simp[bound]at hb;exact .inl ⟨rfl,hb.2.symm⟩|some o=>(cases ho:cX o with|none=>simp[cOX,ho]at hx|some y=>simp[cOX,ho]at hx;subst hx;simp only[bound]at hb;split at hb;{rename_i kd m e;replace e:=ZaP e;simp only[Ya,Yj]at hb;obtain⟨rfl,rfl⟩:=hb;have r:=ZaJ hg ho hp;rw[e]at r;simp only[RepA,RepC]at r;exact .inr ⟨o,kd,rfl,r⟩};{cases hb}))
def Zy6(hg:G C σ loc a w){o:Oper}{t e:TypeId}{x:Operand}{lo hi:Option Operand}{sz:Nat}{x':X}{lo' hi':Option X}{q:Prop}{v:AV}(ho:o.op= .slice t x lo hi none)(ht:C.P.underlying t=some (.slice e))(hs:sizeB C.P e=some sz)(hx:cX x=some x')(hlo:cOX lo=some lo')(hhi:cOX hi=some hi')(hp:pevO σ (.slc sz x' lo' hi')=some (q,v))(hq:q):Snd C σ loc a w o v:=by simp only[pevO]at hp;split at hp;{rename_i sz' es ex;split at hp;{rename_i hsz;subst hsz;split at hp;{rename_i p l p2 h hl hh;simp only[Ya,Yj]at hp;obtain⟨rfl,rfl⟩:=hp;obtain⟨h1,hp1,hp2,h2,h3,h4⟩:=hq;have rx:=ZaJ hg hx h1;have hr:=hg.slots_ rx ex;simp only[RepC]at hr;obtain⟨A,cap,e1,hc,hm,he⟩:=hr;have bl:=ZeJ hg hlo hl hp1;have bh:=ZeJ hg hhi hh hp2;obtain⟨ln,rfl⟩:=YaM h2;obtain⟨hn,rfl⟩:=YaM (show(0:Int)<=h by omega);(have hlh:ln<=hn:=by omega);(have hhe:hn<=es.length:=by omega);(unfold sizeB at hs;cases hinf:C.P.info? e with|none=>simp[hinf]at hs|some inf=>simp[hinf]at hs;(have hrun:(execOp a.eval o).run C.P w= .ok (.value (.slice (if cap=ln then A else A.map (·.add (ln*sz'))) (hn -ln) (cap -ln))) w:=by rcases bl with⟨rfl,hl0⟩|⟨ol,kl,rfl,el⟩<;>rcases bh with⟨rfl,hh0⟩|⟨oh,kh,rfl,eh⟩;{(have e2:ln=0:=by simp at hl0;omega);(have e3:hn=es.length:=by omega);subst e2;subst e3;simp[execOp,ho,e1,Instr.sliceAt,Instr.slice,run_underlying ht,Instr.sliceBounds,sizeOf,typeInfo,hinf]};{(have e2:ln=0:=by simp at hl0;omega);subst e2;simp[execOp,ho,e1,eh,Instr.sliceAt,Instr.slice,run_underlying ht,Instr.sliceBounds,Instr.sliceBound,asIntOf,sizeOf,typeInfo,hinf,show hn<=cap by omega]};{(have e3:hn=es.length:=by omega);subst e3;simp[execOp,ho,e1,el,Instr.sliceAt,Instr.slice,run_underlying ht,Instr.sliceBounds,Instr.sliceBound,asIntOf,sizeOf,typeInfo,hinf,hs,hlh]};{simp[execOp,ho,e1,el,eh,Instr.sliceAt,Instr.slice,run_underlying ht,Instr.sliceBounds,Instr.sliceBound,asIntOf,sizeOf,typeInfo,hinf,hs,hlh,show hn<=cap by omega]});refine⟨_,hrun,?_⟩;simp only[RepA,RepC];refine⟨_,_,by simp only[Yr,Yac,Y4,Ycg hhe];rfl,by simp only[Yr,Yac,Y4,Ycg hhe];omega,Kc,?_⟩;by_cases hemp:(es.take hn).drop ln=[];{exact .inl hemp};{right;(have hlt:ln<hn:=by rcases YaG ln hn with h'|h';{exact h'};{exact(hemp (List.drop_eq_nil_of_le (by simp;omega))).elim});rcases he with rfl|⟨ad,rfl,hE⟩;{simp at hhe;omega};{refine⟨ad.add (ln*sz'),by rw[Yx Kc];rfl,?_⟩;exact(hE.take hn).drop ln}})};{cases hp}};{cases hp}};{cases hp}
def Zy3(hg:G C σ loc a w){o:Oper}{t e:TypeId}{n:Nat}{x i:Operand}{sz:Nat}{x' i':X}{q:Prop}{v:AV}(ho:o.op= .indexAddr t x i)(ht:C.P.underlying t=some (.array n e))(hs:sizeB C.P e=some sz)(hx:cX x=some x')(hi:cX i=some i')(hp:pevO σ (.iap n sz x' i')=some (q,v))(hq:q):Snd C σ loc a w o v:=by(unfold sizeB at hs;cases hinf:C.P.info? e with|none=>simp[hinf]at hs|some inf=>simp[hinf]at hs;simp only[pevO]at hp;split at hp;(case h_2=>cases hp);rename_i k j ei;replace ei:=ZaP ei;split at hp;{rename_i m off ex;by_cases hbx:(σ.own m).isBox=true;(case neg=>rw[Yx hbx]at hp;cases hp);rw[Yt hbx]at hp;simp only[Ya,Yj]at hp;obtain⟨rfl,rfl⟩:=hp;obtain⟨h1,h2,h3,h4⟩:=hq;have rx:=ZaJ hg hx h1;have ri:=ZaJ hg hi h2;rw[ei]at ri;rw[ex]at rx;simp only[RepA,RepC]at ri rx;obtain⟨b,el,ev⟩:=rx;refine⟨.pointer (some ⟨b,off+j.toNat*sz,none⟩),?_,?_⟩;{(have:(⟨b,off,none⟩:Addr).add (j.toNat*sz)=⟨b,off+j.toNat*sz,none⟩:=by unfold Addr.add;split<;>simp_all);simp[execOp,ho,ev,ri,Instr.indexAt,asIntOf,run_underlying ht,h3,h4,sizeOf,typeInfo,hinf,hs,this,Instr.sureAddr]};{simp only[RepA];exact⟨b,el,rfl⟩}};{rename_i cs ex;simp only[Ya,Yj]at hp;obtain⟨rfl,rfl⟩:=hp;obtain⟨h1,h2,h3,h4⟩:=hq;have rx:=ZaJ hg hx h1;have ri:=ZaJ hg hi h2;rw[ei]at ri;rw[ex]at rx;simp only[RepA,RepC]at ri rx;obtain⟨ad,ev,hr⟩:=rx;refine⟨.pointer (some (ad.add (j.toNat*sz))),?_,?_⟩;{simp[execOp,ho,ev,ri,Instr.indexAt,asIntOf,run_underlying ht,h3,h4,sizeOf,typeInfo,hinf,hs,Instr.sureAddr]};{simp only[RepA,RepC];exact⟨_,rfl,hr.drop _⟩}};{cases hp})
def ZqC(hg:G C σ loc a w){o:Oper}{i:I}(hc:cI C.P o.op=some i){q:Prop}{v:AV}(hp:pevO σ i=some (q,v))(hq:q):Snd C σ loc a w o v:=by(generalize ho:o.op=op at hc;cases Zcd hc with|move hx=>exact Zxk hg (.inl ho) hx hp hq|assign hx=>exact Zxk hg (.inr ho) hx hp hq|pick h1 hx hy=>exact ZvT hg ho h1 hx hy hp hq|load ha hs hx=>exact Zxj hg ho ha hs hx hp hq|nilCheck hx=>exact ZvS hg ho hx hp hq|bin ht hx hy=>exact ZyY hg ho hx hy hp hq|prim hpr hx=>exact ZvU hg (by rw[ho];exact hpr) hx hp hq|eqs ne ht hx hy=>exact Zy0 hg ho ht hx hy hp hq|un hx=>exact ZCz hg ho hx hp hq|mkfn h0 h1=>exact ZvR hg ho h0 h1 hp hq|fa hs hf hn h0 hx=>exact ZCw hg ho hs hf hn h0 hx hp hq|ia ht hs hx hi=>exact ZCx hg ho ht hs hx hi hp hq|fld ht hf ha hs hx=>exact Zy2 hg ho ht hf ha hs hx hp hq|bld hu hpl hz hps=>exact ZyZ hg ho hu hpl hz hps hp hq|ext hx=>exact Zy1 hg ho hx hp hq|slc ht hs hx hlo hhi=>exact Zy6 hg ho ht hs hx hlo hhi hp hq|len ht hx=>exact Zy5 hg ho ht hx hp hq|mm mx hx hy=>exact ZCy hg ho hx hy hp hq|iap ht hs hx hi=>exact Zy3 hg ho ht hs hx hi hp hq|raw|mkm|mget|mput|alloc|box|store|seq|nils|mks|bsl|call|mmn|app=>simp[pevO]at hp)
end Go.V
namespace Go.V
variable{C:Ctx}{σ:St}{loc:Nat->Value}{a:Act}{w:World}
def ZCC(hg:G C σ loc a w){o:Oper}{s:TypeId}{x:Operand}{f:Nat}{fs:Array Field}{fd:Field}{n:Nat}{x':X}{q:Prop}{v:AV}(ho:o.op= .fieldAddr s x f)(hs:C.P.underlying s=some (.struct fs))(hf:fs[f]? =some fd)(hn:sizeB C.P fd.type=some n)(h0:n≠0)(hx:cX x=some x')(hp:pvw σ (.fa fd.offset x')=some (q,v))(hq:q):Snd C σ loc a w o v:=by(have hfp:∀ad,(fieldPlace ad fd).run C.P w= .ok (ad.add fd.offset) w:=by(intro ad;unfold sizeB at hn;cases hi:C.P.info? fd.type with|none=>simp[hi]at hn|some i=>simp[hi]at hn;simp[fieldPlace,sizeOf,typeInfo,hi,hn,h0]));simp only[pvw]at hp;split at hp;{rename_i m off ex;split at hp;{simp only[Ya,Yj]at hp;obtain⟨rfl,rfl⟩:=hp;have rx:=ZaJ hg hx hq;rw[ex]at rx;simp only[RepA]at rx;obtain⟨b,el,e⟩:=rx;refine⟨.pointer (some ⟨b,off+fd.offset,none⟩),?_,?_⟩;{(have:(⟨b,off,none⟩:Addr).add fd.offset=⟨b,off+fd.offset,none⟩:=by unfold Addr.add;split<;>simp_all);simp[execOp,ho,e,Instr.fieldAt,run_underlying hs,hf,Instr.sureAddr,hfp,this]};{simp only[RepA];exact⟨b,el,rfl⟩}};{cases hp}};{cases hp}
def Zv5(hg:G C σ loc a w){o:Oper}{x:Operand}{x':X}{q:Prop}{v:AV}(ho:o.op= .nilCheck x)(hx:cX x=some x')(hp:pvw σ (.nilc x')=some (q,v))(hq:q):Snd C σ loc a w o v:=by simp only[pvw]at hp;split at hp;{rename_i n off ex;split at hp;{simp only[Ya,Yj]at hp;obtain⟨rfl,rfl⟩:=hp;have rx:=ZaJ hg hx hq;rw[ex]at rx;refine⟨a.eval x,?_,rx⟩;simp only[RepA]at rx;obtain⟨b,_,e⟩:=rx;simp[execOp,ho,e]};{cases hp}};{cases hp}
def ZCE(hg:G C σ loc a w){o:Oper}{t:TypeId}{x:Operand}{ag:Bool}{sz:Nat}{x':X}{q:Prop}{v:AV}(ho:o.op= .load t x)(ha:isAggB C.P t=some ag)(hs:sizeB C.P t=some sz)(hx:cX x=some x')(hp:pvw σ (.ld (!ag) sz x')=some (q,v))(hq:q):Snd C σ loc a w o v:=by simp only[pvw]at hp;split at hp;{rename_i n off ex;split at hp;{rename_i cs hown;have hob:=hg.objs n;rw[hown]at hob;obtain⟨b,l,rest,e,hln,hh,hrs⟩:=hob;(have hcell:∀(o:Nat)(u:Value),l[o]? =some u->w.cell? ⟨b,o,none⟩=some u:=by intro o u hu;rw[cell_bp hh,Y3 (Ym.1 hu).1,hu]);(cases ag with|false=>simp only[YbG,YJ,Ya,Yj]at hp;obtain⟨rfl,rfl⟩:=hp;obtain⟨hq,hlen⟩:=hq;have rx:=ZaJ hg hx hq;rw[ex]at rx;simp only[RepA]at rx;obtain⟨b',hb',ev⟩:=rx;rw[hln]at hb';simp only[Value.pointer.injEq,Ya,Addr.mk.injEq,Ya2]at hb';subst hb';obtain⟨u,hu,hru⟩:=hrs.get (a:=cs.getD off .non) off (by rw[Yb,Yd hlen];rfl);exact⟨u,by simp[execOp,ho,ev,Instr.loadAt,Instr.sureAddr,Zb9 ha (hcell _ _ hu)],hru⟩|true=>simp only[Ybq,Yp,YA,Ya,Yj]at hp;obtain⟨rfl,rfl⟩:=hp;obtain⟨h1,h2⟩:=hq;have rx:=ZaJ hg hx h1;rw[ex]at rx;simp only[RepA]at rx;obtain⟨b',hb',ev⟩:=rx;rw[hln]at hb';simp only[Value.pointer.injEq,Ya,Addr.mk.injEq,Ya2]at hb';subst hb';have hlen:=hrs.length;(have hl2:((l.drop off).take sz).length=sz:=by simp;omega);(have hc:∀j u,((l.drop off).take sz)[j]? =some u->w.cell? ((⟨b,off,none⟩:Addr).add j)=some u:=by intro j u hj;rw[Y6]at hj;split at hj;{rw[Yaf]at hj;(have:(⟨b,off,none⟩:Addr).add j=⟨b,off+j,none⟩:=by unfold Addr.add;split<;>simp_all);rw[this];exact hcell _ _ hj};{cases hj});exact⟨.agg ((l.drop off).take sz).toArray,by simp[execOp,ho,ev,Instr.loadAt,Instr.sureAddr,ZbD ha hs hl2 hc],by simp only[RepA];exact⟨_,rfl,(hrs.drop off).take sz⟩⟩)};{cases hp}};{cases hp}
def ZCD(hg:G C σ loc a w){o:Oper}{t e:TypeId}{x i:Operand}{sz:Nat}{x' i':X}{q:Prop}{v:AV}(ho:o.op= .indexAddr t x i)(ht:C.P.underlying t=some (.slice e))(hs:sizeB C.P e=some sz)(hx:cX x=some x')(hi:cX i=some i')(hp:pvw σ (.ia sz x' i')=some (q,v))(hq:q):Snd C σ loc a w o v:=by simp only[pvw]at hp;split at hp;{rename_i sz' n off len cap k j ex ei;replace ei:=ZaP ei;split at hp;{rename_i hsz;subst hsz;simp only[Ya,Yj]at hp;obtain⟨rfl,rfl⟩:=hp;obtain⟨h1,h2,h3,h4⟩:=hq;have rx:=ZaJ hg hx h1;have ri:=ZaJ hg hi h2;rw[ei]at ri;rw[ex]at rx;simp only[RepA,RepC]at ri rx;obtain⟨b,o',el,ev,hoff,hlc,_⟩:=rx;have ho':o'=off:=hoff Kc;subst ho';refine⟨.pointer (some ⟨b,o'+j.toNat*sz',none⟩),?_,?_⟩;{(unfold sizeB at hs;cases hinf:C.P.info? e with|none=>simp[hinf]at hs|some inf=>simp[hinf]at hs;(have:(⟨b,o',none⟩:Addr).add (j.toNat*sz')=⟨b,o'+j.toNat*sz',none⟩:=by unfold Addr.add;split<;>simp_all);simp[execOp,ho,ev,ri,Instr.indexAt,asIntOf,run_underlying ht,h3,h4,sizeOf,typeInfo,hinf,hs,this])};{simp only[RepA];exact⟨b,el,rfl⟩}};{cases hp}};{cases hp}
def Zzg(hg:G C σ loc a w){o:Oper}{x:Operand}{t:TypeId}{e:TypeId}{x':X}{q:Prop}{v:AV}(ho:o.op= .call {callee:=.builtin .len,args:=#[x],argTypes:=#[t]})(ht:C.P.underlying t=some (.slice e))(hx:cX x=some x')(hp:pvw σ (.len x')=some (q,v))(hq:q):Snd C σ loc a w o v:=by simp only[pvw]at hp;split at hp;{rename_i sz n off len cap ex;simp only[Ya,Yj]at hp;obtain⟨rfl,rfl⟩:=hp;have rx:=ZaJ hg hx hq;rw[ex]at rx;simp only[RepA]at rx;obtain⟨b,o',_,ev,_⟩:=rx;refine⟨.int .i64 len,?_,by simp[RepA,RepC]⟩;simp[execOp,ho,resolve,invoke,builtin,ev,Builtin.len_,run_underlying ht,goInt]};{simp only[Ya,Yj]at hp;obtain⟨rfl,_⟩:=hp;exact hq.elim}
def Zzj(hg:G C σ loc a w){o:Oper}{t e:TypeId}{x:Operand}{lo hi:Option Operand}{sz:Nat}{x':X}{lo' hi':Option X}{q:Prop}{v:AV}(ho:o.op= .slice t x lo hi none)(ht:C.P.underlying t=some (.slice e))(hs:sizeB C.P e=some sz)(hx:cX x=some x')(hlo:cOX lo=some lo')(hhi:cOX hi=some hi')(hp:pvw σ (.slc sz x' lo' hi')=some (q,v))(hq:q):Snd C σ loc a w o v:=by simp only[pvw]at hp;split at hp;{rename_i sz' n off len cap ex;split at hp;{rename_i hsz;subst hsz;split at hp;{rename_i p l p2 h hl hh;simp only[Ya,Yj]at hp;obtain⟨rfl,rfl⟩:=hp;obtain⟨h1,hp1,hp2,h2,h3,h4⟩:=hq;have rx:=ZaJ hg hx h1;rw[ex]at rx;simp only[RepA]at rx;obtain⟨b,o',el,ev,hoff,hlc,hcm⟩:=rx;have bl:=ZeJ hg hlo hl hp1;have bh:=ZeJ hg hhi hh hp2;obtain⟨ln,rfl⟩:=YaM h2;obtain⟨hn,rfl⟩:=YaM (show(0:Int)<=h by omega);(have hlh:ln<=hn:=by omega);(have hhe:hn<=cap:=by omega);(unfold sizeB at hs;cases hinf:C.P.info? e with|none=>simp[hinf]at hs|some inf=>simp[hinf]at hs;(have hrun:(execOp a.eval o).run C.P w= .ok (.value (.slice (some (if cap=ln then⟨b,o',none⟩else(⟨b,o',none⟩:Addr).add (ln*sz'))) (hn -ln) (cap -ln))) w:=by rcases bl with⟨rfl,hl0⟩|⟨ol,kl,rfl,el⟩<;>rcases bh with⟨rfl,hh0⟩|⟨oh,kh,rfl,eh⟩;{(have e2:ln=0:=by simp at hl0;omega);(have e3:hn=len:=by omega);subst e2;subst e3;by_cases hc0:cap=0<;>simp[execOp,ho,ev,Instr.sliceAt,Instr.slice,run_underlying ht,Instr.sliceBounds,sizeOf,typeInfo,hinf,hc0,Zdw]};{(have e2:ln=0:=by simp at hl0;omega);subst e2;by_cases hc0:cap=0<;>simp[execOp,ho,ev,eh,Instr.sliceAt,Instr.slice,run_underlying ht,Instr.sliceBounds,Instr.sliceBound,asIntOf,sizeOf,typeInfo,hinf,show hn<=cap by omega,hc0,Zdw,show hn<=0↔hn=0 by omega]<;>omega};{(have e3:hn=len:=by omega);subst e3;by_cases hc0:cap=ln<;>simp[execOp,ho,ev,el,Instr.sliceAt,Instr.slice,run_underlying ht,Instr.sliceBounds,Instr.sliceBound,asIntOf,sizeOf,typeInfo,hinf,hs,hlh,hc0]};{by_cases hc0:cap=ln<;>simp[execOp,ho,ev,el,eh,Instr.sliceAt,Instr.slice,run_underlying ht,Instr.sliceBounds,Instr.sliceBound,asIntOf,sizeOf,typeInfo,hinf,hs,hlh,show hn<=cap by omega,hc0]<;>omega});refine⟨_,hrun,?_⟩;simp only[RepA];refine⟨b,if cap=ln then o' else o'+ln*sz',el,?_,fun hc=>?_,Kc,Kc⟩;{(have:(⟨b,o',none⟩:Addr).add (ln*sz')=⟨b,o'+ln*sz',none⟩:=by unfold Addr.add;split<;>simp_all);rw[this];(have e5:((hn:Int) -(ln:Int)).toNat=hn -ln:=by omega);rw[e5];split<;>rfl};{rw[Yx (by simp at hc;omega),hoff (by simp at hc;omega)];simp})};{cases hp}};{cases hp}};{cases hp}
def ZjY(hg:G C σ loc a w)(mx:Bool)(k:IntKind):∀(xs:List Operand)(xs':List X)(n r:Int)(p:Prop),cXs xs=some xs'->ZCp mx k σ n xs'=some (p,r)->p->
  ((xs.map a.eval).foldlM (bif mx then Builtin.max2 else Builtin.min2) (.int k n)).run C.P w= .ok (.int k r) w
 |[],xs',n,r,p,h,hm,_=>by simp[cXs]at h;subst h;simp only[ZCp,Ya,Yj]at hm;simp[hm.2]
 |x::xs,xs',n,r,p,h,hm,hp=>by
  simp only[cXs,Yao,Yaw,YS,Yz,Ya]at h;obtain⟨y,hy,ys,hys,rfl⟩:=h;simp only[ZCp]at hm;split at hm
  ·rename_i k' b e;replace e:=ZaP e;split at hm
   ·rename_i p' r' hm';simp only[Ya,Yj]at hm;obtain⟨rfl,rfl⟩:=hm;obtain⟨h1,rfl,h3⟩:=hp;have rx:=ZaJ hg hy h1;rw[e]at rx;simp only[RepA,RepC]at rx;have ih:=ZjY hg mx k' xs ys _ _ _ hys hm' h3;simp only[Ye,List.foldlM_cons,Sem.run_bind,rx];cases mx with
    |true=>(have e1:(Builtin.max2 (.int k' n) (.int k' b)).run C.P w= .ok (.int k' (max n b)) w:=by simp[Builtin.max2,Int.max_def];split<;>split<;>omega);simp only[cond_true,e1,Result.andThen_ok]at ih|-;exact ih
    |false=>(have e1:(Builtin.min2 (.int k' n) (.int k' b)).run C.P w= .ok (.int k' (min n b)) w:=by simp[Builtin.min2,Int.min_def];split<;>split<;>omega);simp only[cond_false,e1,Result.andThen_ok]at ih|-;exact ih
   ·cases hm
  ·cases hm
def Zzh(hg:G C σ loc a w){o:Oper}{args:Array Operand}{mx:Bool}{ts:Array TypeId}{xs':List X}{q:Prop}{v:AV}(ho:o.op= .call {callee:=.builtin (bif mx then .max else .min),args:=args,argTypes:=ts})(hx:cXs args.toList=some xs')(hp:pvw σ (.mmn mx xs')=some (q,v))(hq:q):Snd C σ loc a w o v:=by(cases ea:args.toList with|nil=>rw[ea]at hx;simp[cXs]at hx;subst hx;simp[pvw]at hp|cons x xs=>rw[ea]at hx;simp only[cXs,Yao,Yaw,YS,Yz,Ya]at hx;obtain⟨y,hy,ys,hys,rfl⟩:=hx;simp only[pvw]at hp;split at hp;{rename_i k n e;replace e:=ZaP e;split at hp;{rename_i p r hm;simp only[Ya,Yj]at hp;obtain⟨rfl,rfl⟩:=hp;have rx:=ZaJ hg hy hq.1;rw[e]at rx;simp only[RepA,RepC]at rx;have:=ZjY hg mx k xs ys _ _ _ hys hm hq.2;refine⟨.int k r,?_,by simp[RepA,RepC]⟩;(have el:(args.map a.eval).toList= .int k n::xs.map a.eval:=by rw[YbX,ea];simp[rx]);(cases mx with|true=>simp only[cond_true]at this;simp[execOp,ho,resolve,invoke,builtin,Builtin.max_,ea,rx,this]|false=>simp only[cond_false]at this;simp[execOp,ho,resolve,invoke,builtin,Builtin.min_,ea,rx,this])};{cases hp}};{cases hp})
def Zzf(hg:G C σ loc a w){o:Oper}{t e:TypeId}{n:Nat}{x i:Operand}{sz:Nat}{x' i':X}{q:Prop}{v:AV}(ho:o.op= .indexAddr t x i)(ht:C.P.underlying t=some (.array n e))(hs:sizeB C.P e=some sz)(hx:cX x=some x')(hi:cX i=some i')(hp:pvw σ (.iap n sz x' i')=some (q,v))(hq:q):Snd C σ loc a w o v:=by(unfold sizeB at hs;cases hinf:C.P.info? e with|none=>simp[hinf]at hs|some inf=>simp[hinf]at hs;simp only[pvw]at hp;split at hp;{rename_i m off k j ex ei;replace ei:=ZaP ei;simp only[Ya,Yj]at hp;obtain⟨rfl,rfl⟩:=hp;obtain⟨h1,h2,h3,h4⟩:=hq;have rx:=ZaJ hg hx h1;have ri:=ZaJ hg hi h2;rw[ei]at ri;rw[ex]at rx;simp only[RepA,RepC]at ri rx;obtain⟨b,el,ev⟩:=rx;refine⟨.pointer (some ⟨b,off+j.toNat*sz,none⟩),?_,?_⟩;{(have:(⟨b,off,none⟩:Addr).add (j.toNat*sz)=⟨b,off+j.toNat*sz,none⟩:=by unfold Addr.add;split<;>simp_all);simp[execOp,ho,ev,ri,Instr.indexAt,asIntOf,run_underlying ht,h3,h4,sizeOf,typeInfo,hinf,hs,this,Instr.sureAddr]};{simp only[RepA];exact⟨b,el,rfl⟩}};{rename_i cs k j ex ei;replace ei:=ZaP ei;simp only[Ya,Yj]at hp;obtain⟨rfl,rfl⟩:=hp;obtain⟨h1,h2,h3,h4⟩:=hq;have rx:=ZaJ hg hx h1;have ri:=ZaJ hg hi h2;rw[ei]at ri;rw[ex]at rx;simp only[RepA,RepC]at ri rx;obtain⟨ad,ev,hr⟩:=rx;refine⟨.pointer (some (ad.add (j.toNat*sz))),?_,?_⟩;{simp[execOp,ho,ev,ri,Instr.indexAt,asIntOf,run_underlying ht,h3,h4,sizeOf,typeInfo,hinf,hs,Instr.sureAddr]};{simp only[RepA,RepC];exact⟨_,rfl,hr.drop _⟩}};{cases hp})
def Zr3{P:Program}{t e:TypeId}{A:Option Addr}{l c:Nat}(ht:P.underlying t=some (.slice e))(ne:Bool):
  (binOp (bif ne then .neq else .eql) t (.slice A l c) (.slice none 0 0)).run P w= .ok (.bool (bif ne then !A.isNone else A.isNone)) w:=by(have h:(Op.equal t (.slice A l c) (.slice none 0 0)).run P w= .ok A.isNone w:=by(have:∀d,(Op.equalIn (d+1) t (.slice A l c) (.slice none 0 0)).run P w= .ok A.isNone w:=fun d=>by cases A<;>simp[Op.equalIn,run_underlying ht]);exact this 9999);cases ne<;>simp[binOp,h]
def ZvO{o:Oper}{ne:Bool}{t t' e:TypeId}{x:Operand}(ho:o.op= .binOp (bif ne then .neq else .eql) t x (.const (.slice none 0 0)) t')(ht:C.P.underlying t=some (.slice e)){A:Option Addr}{l c:Nat}(he:a.eval x= .slice A l c):
  (execOp a.eval o).run C.P w= .ok (.value (.bool (bif ne then !A.isNone else A.isNone))) w:=by have:=Zr3 (w:=w) (P:=C.P) (A:=A) (l:=l) (c:=c) ht ne;have hc:a.eval (Operand.const (Value.slice none 0 0))= .slice none 0 0:=rfl;simp[execOp,ho,he,Zbi,hc,this]
def Zv6(hg:G C σ loc a w){o:Oper}{ne:Bool}{t t' e:TypeId}{x:Operand}{x':X}{q:Prop}{v:AV}(ho:o.op= .binOp (bif ne then .neq else .eql) t x (.const (.slice none 0 0)) t')(ht:C.P.underlying t=some (.slice e))(hx:cX x=some x')(hp:pvw σ (.nils ne x')=some (q,v))(hq:q):Snd C σ loc a w o v:=by(have key:∀A l c,a.eval x= .slice A l c->(execOp a.eval o).run C.P w= .ok (.value (.bool (bif ne then !A.isNone else A.isNone))) w:=by intro A l c he;have:=Zr3 (w:=w) (P:=C.P) (A:=A) (l:=l) (c:=c) ht ne;have hc:a.eval (Operand.const (Value.slice none 0 0))= .slice none 0 0:=rfl;simp[execOp,ho,he,Zbi,hc,this]);simp only[pvw]at hp;split at hp;{rename_i ex;simp only[Ya,Yj]at hp;obtain⟨rfl,rfl⟩:=hp;have rx:=ZaJ hg hx hq;rw[ex]at rx;simp only[RepA]at rx;obtain⟨b,o',_,ev,_⟩:=rx;exact⟨_,key _ _ _ ev,by cases ne<;>simp[RepA,RepC]⟩};{rename_i ex;simp only[Ya,Yj]at hp;obtain⟨rfl,rfl⟩:=hp;have rx:=ZaJ hg hx hq;rw[ex]at rx;simp only[RepA,RepC]at rx;exact⟨_,key _ _ _ rx.1,by cases ne<;>simp[RepA,RepC]⟩};{rename_i ex;simp only[Ya,Yj]at hp;obtain⟨rfl,rfl⟩:=hp;have rx:=ZaJ hg hx hq;rw[ex]at rx;simp only[RepA,RepC]at rx;obtain⟨A,cap,ev,_,_,he⟩:=rx;rcases he with he|⟨ad,rfl,_⟩;{cases he};{exact⟨_,key _ _ _ ev,by cases ne<;>simp[RepA,RepC]⟩}};{cases hp}
def Zja{P:Program}{M:Cells}{xs ys:List AV}{us vs:List Value}(hx:RepAs w M loc xs us)(hy:RepAs w M loc ys vs)(d:Nat):∀(fs:List Field)(r:Bool),(∀ f ∈ fs,f.name ≠ "_" /\ ((∃ k,P.underlying f.type = some (.int k)) \/ P.underlying f.type = some .bool)) ->
  Zft xs ys (fs.map fun f=>(f.offset,match P.underlying f.type with|some (.int _)=>true|_=>false))=some r->(Op.eqFields (d+1) us.toArray vs.toArray fs).run P w= .ok r w
 |[],r,_,h=>by simp only[Yg,Zft,Ya]at h;simp[Op.eqFields,h]
 |f::fs,r,hf,h=>by
  obtain⟨hn,hff⟩:=hf f Kd;have one:∀u v,us[f.offset]? =some u->vs[f.offset]? =some v->(part f.type us.toArray f.offset).run P w= .ok u w/\(part f.type vs.toArray f.offset).run P w= .ok v w:=by intro u v hu hv;(have ha:isAggB P f.type=some false:=by rcases hff with⟨k,hk⟩|hk<;>simp[isAggB,hk]);exact⟨Zcw ha (by simpa using hu),Zcw ha (by simpa using hv)⟩
  have fin:∀(p r':Bool)(u v:Value),us[f.offset]? =some u->vs[f.offset]? =some v->(Op.equalIn (d+1) f.type u v).run P w= .ok p w->(Op.eqFields (d+1) us.toArray vs.toArray fs).run P w= .ok r' w->
    (Op.eqFields (d+1) us.toArray vs.toArray (f::fs)).run P w= .ok (p&&r') w:=by
   intro p r' u v hu hv he ih;obtain⟨p1,p2⟩:=one _ _ hu hv;simp only[Op.eqFields,Yt hn,Sem.run_bind,p1,p2,he,Result.andThen_ok];cases p
   ·simp
   ·simpa using ih
  have ih:=fun r' hr=>Zja hx hy d fs r' (fun g hg=>hf g (by simp[hg])) hr;rcases hff with⟨k,hk⟩|hk;{simp only[Ye,hk,Zft]at h;split at h;{rename_i k1 p k2 q r' e1 e2 hr;split at h;{rename_i hkk;subst hkk;simp only[Ya]at h;subst h;obtain⟨u,hu,hru⟩:=hx.get _ e1;obtain⟨v,hv,hrv⟩:=hy.get _ e2;simp only[RepA,RepC]at hru hrv;subst hru;subst hrv;exact fin _ _ _ _ hu hv (run_equalIn_int w d f.type k1 k p q hk) (ih r' hr)};{cases h}};{cases h}};{simp only[Ye,hk,Zft]at h;split at h;{rename_i p q r' e1 e2 hr;simp only[Ya]at h;subst h;obtain⟨u,hu,hru⟩:=hx.get _ e1;obtain⟨v,hv,hrv⟩:=hy.get _ e2;simp only[RepA,RepC]at hru hrv;subst hru;subst hrv;exact fin _ _ _ _ hu hv (run_equalIn_bool' w d f.type p q hk) (ih r' hr)};{cases h}}
def Zzi(hg:G C σ loc a w){o:Oper}{ne:Bool}{t t':TypeId}{x y:Operand}{fs:Array Field}{x' y':X}{q:Prop}{v:AV}(ho:o.op= .binOp (bif ne then .neq else .eql) t x y t')(ht:C.P.underlying t=some (.struct fs))(hf:flatEq C.P t=true)(hx:cX x=some x')(hy:cX y=some y')(hp:pvw σ (.seq ne (offsB C.P t) x' y')=some (q,v))(hq:q):Snd C σ loc a w o v:=by
 simp only[pvw]at hp;split at hp
 ·rename_i xs ys ex ey;split at hp
  ·rename_i r hr;simp only[Ya,Yj]at hp;obtain⟨rfl,rfl⟩:=hp;have rx:=ZaJ hg hx hq.1;have ry:=ZaJ hg hy hq.2;rw[ex]at rx;rw[ey]at ry;simp only[RepA]at rx ry;obtain⟨us,eu,hus⟩:=rx;obtain⟨vs,ev,hvs⟩:=ry;simp only[flatEq,ht,Yf,YaB]at hf;obtain⟨⟨hs,hg1⟩,hall⟩:=hf;have hfo:C.P.fieldsOf t=fs:=by simp[Program.fieldsOf,ht]
   simp only[offsB,ht]at hr;have h1:=Zja (P:=C.P) hus hvs 9998 fs.toList r (fun f hfm =>by
    have:=Yn.1 hall f hfm;simp only[Yf,Yc5]at this;refine⟨this.1,?_⟩;have h2:=this.2;split at h2
    ·rename_i k hk;exact .inl ⟨k,hk⟩
    ·rename_i hk;exact .inr hk
    ·cases h2) hr
   have h2:(Op.equal t (.agg us.toArray) (.agg vs.toArray)).run C.P w= .ok r w:=by
    show(Op.equalIn (9999+1) t (.agg us.toArray) (.agg vs.toArray)).run C.P w= .ok r w;rw[run_equalIn_struct w 9999 t _ _ (by rw[hfo];exact ht) hs,hfo];exact h1
   refine⟨.bool (bif ne then !r else r),?_,by cases ne<;>simp[RepA,RepC]⟩;cases ne<;>simp[execOp,ho,eu,ev,run_eqGuard_agg (w:=w) _ t x y _ _ hg1,binOp,h2]
  ·cases hp
 ·cases hp
def Zem{kk ek:IntKind}(k:Int):∀(es:List MapEntry)(l:List (Int×Int))(i:Nat),es.map (fun e=>(e.key,e.val))=l.map (fun p=>(Value.int kk p.1,Value.int ek p.2))->
  (Instr.findNow (.int kk) (.int kk k) es i=some none/\mget l k=0/\∀v,mput l k v=l++[(k,v)])\/
  ∃j e,Instr.findNow (.int kk) (.int kk k) es i=some (some (i+j,.int ek (mget l k)))/\es[j]? =some e/\e.key= .int kk k/\∀v,mput l k v=l.set j (k,v)
 |[],[],_,_=> .inl ⟨rfl,rfl,fun _=>rfl⟩
 |[],_::_,_,h=>by simp at h
 |_::_,[],_,h=>by simp at h
 |e::es,(x,y)::l,i,h=>by simp only[Ye,Ya3,Yj]at h;obtain⟨⟨h1,h2⟩,h3⟩:=h;by_cases hx:k=x;{subst hx;exact .inr ⟨0,e,by simp[Instr.findNow,Instr.sameNow,h1,h2,mget],rfl,h1,fun v=>by simp[mput]⟩};{(have hb:(k==x)=false:=by simpa using hx);rcases Zem k es l (i+1) h3 with⟨k1,k2,k3⟩|⟨j,e',k1,k2,k3,k4⟩;{exact .inl ⟨by simp only[Instr.findNow,Instr.sameNow,h1,YJ,hb,k1],by simp[mget,hx,k2],fun v=>by simp[mput,hx,k3]⟩};{exact .inr ⟨j+1,e',by simp only[Instr.findNow,Instr.sameNow,h1,YJ,hb,k1,mget,hx,YA];rw[show i+1+j=i+(j+1)from by omega],by simpa using k2,k3,fun v=>by simp[mput,hx,k4]⟩}}
def ZfL{P:Program}{kt:TypeId}{kk:IntKind}{n:Int}(hd:P.underlying kt=some (.int kk))(e:Bool):(Instr.checkKey e 10000 kt (.int kk n)).run P w= .ok () w:=
 MapKept.run_checkKey hd (by simp[MapKept.IsKey]) e 9999
def Zv4(hg:G C σ loc a w){o:Oper}{t k e:TypeId}{kk ek:IntKind}{x i:Operand}{x' i':X}{q:Prop}{v:AV}(ho:o.op= .lookup t x i false)(ht:C.P.underlying t=some (.map k e))(hk:C.P.underlying k=some (.int kk))(hz:(C.P.info? e).bind (·.zero)=some (.int ek 0))(hx:cX x=some x')(hi:cX i=some i')(hp:pvw σ (.mget kk ek x' i')=some (q,v))(hq:q):Snd C σ loc a w o v:=by simp only[pvw]at hp;split at hp;{rename_i n k' j ex ei;replace ei:=ZaP ei;split at hp;{rename_i kk' ek' l hown;split at hp;{rename_i hc;obtain⟨rfl,rfl,rfl⟩:=hc;simp only[Ya,Yj]at hp;obtain⟨rfl,rfl⟩:=hp;obtain⟨h1,h2⟩:=hq;have rx:=ZaJ hg hx h1;have ri:=ZaJ hg hi h2;rw[ex]at rx;rw[ei]at ri;simp only[RepA,RepC]at rx ri;have hob:=hg.objs n;rw[hown]at hob;obtain⟨b,es,clock,hloc,_,hb,hes⟩:=hob;rw[hloc]at rx;(have hzv:(zeroValue e).run C.P w= .ok (.int ek' 0) w:=by(cases hinf:C.P.info? e with|none=>simp[hinf]at hz|some inf=>simp only[hinf,Ya8]at hz;simp[zeroValue,typeInfo,hinf,hz]));refine⟨.int ek' (mget l j),?_,by simp only[RepA,RepC]⟩;rcases Zem j es.toList l 0 hes with⟨k1,k2,_⟩|⟨m,e',k1,k2,k3,_⟩;{simp[execOp,ho,rx.1,ri,Instr.lookup,run_underlying ht,MapKept.run_getObj_map hb,ZfL hk,MapKept.run_findKey hk k1,hzv,k2]};{simp[execOp,ho,rx.1,ri,Instr.lookup,run_underlying ht,MapKept.run_getObj_map hb,ZfL hk,MapKept.run_findKey hk k1]}};{cases hp}};{cases hp}};{cases hp}
def ZmK(hg:G C σ loc a w){o:Oper}{i:I}(hc:cI C.P o.op=some i){q:Prop}{v:AV}(hp:pvw σ i=some (q,v))(hq:q):Snd C σ loc a w o v:=by(generalize ho:o.op=op at hc;cases Zcd hc with|load ha hs hx=>exact ZCE hg ho ha hs hx hp hq|nilCheck hx=>exact Zv5 hg ho hx hp hq|fa hs hf hn h0 hx=>exact ZCC hg ho hs hf hn h0 hx hp hq|ia ht hs hx hi=>exact ZCD hg ho ht hs hx hi hp hq|iap ht hs hx hi=>exact Zzf hg ho ht hs hx hi hp hq|slc ht hs hx hlo hhi=>exact Zzj hg ho ht hs hx hlo hhi hp hq|len ht hx=>exact Zzg hg ho ht hx hp hq|mmn mx hxs=>exact Zzh hg ho hxs hp hq|seq ne ht hf hx hy=>exact Zzi hg ho ht hf hx hy hp hq|nils ne ht hx=>exact Zv6 hg ho ht hx hp hq|mget ht hk he hz hx hi=>exact Zv4 hg ho ht hk hz hx hi hp hq|raw|prim|mkm|mput|move|assign|pick|bin|eqs|un|mkfn|fld|bld|ext|mm|alloc|box|store|mks|bsl|call|app=>simp[pvw]at hp)
def ZzS{i:I}{r:Prop×AV}(h:vwp σ i=some r):pvw σ i=some r:=by
 cases i<;>(try(simp[vwp]at h;done))
 case ia sz x y=>
  simp only[vwp]at h;simp only[pvw];split at h
  ·rename_i sz' n off len cap hv;split at h
   ·split at h
    ·rename_i hi;rw[hv,hi];exact h
    ·cases h
   ·cases h
  ·cases h
 case len x=>
  simp only[vwp]at h;simp only[pvw];split at h
  ·rename_i sz' n off len cap hv;split at h
   ·exact h
   ·cases h
  ·cases h
 case slc sz x lo hi=>
  simp only[vwp]at h;simp only[pvw];split at h
  ·rename_i sz' n off len cap hv;split at h
   ·exact h
   ·cases h
  ·cases h
def Zs4(hg:G C σ loc a w){o:Oper}{i:I}(hc:cI C.P o.op=some i){q:Prop}{v:AV}(hp:pev σ i=some (q,v))(hq:q):Snd C σ loc a w o v:=by unfold pev at hp;split at hp;{rename_i r hr;simp only[Ya]at hp;subst hp;exact ZmK hg hc (ZzS hr) hq};{exact ZqC hg hc hp hq}
end Go.V
namespace Go.V
variable{C:Ctx}{σ:St}{loc:Nat->Value}{a:Act}{w:World}
def Zbw(w:World)(o:Obj)(i:Nat)(h:i<w.heap.size):(w.alloc o).heap[i]? =w.heap[i]?:=Go.RowKit.Below.heap_alloc w o i h
def Zbv(w:World)(o:Obj):(w.alloc o).heap[w.heap.size]? =some o:=Go.World.alloc_heap_new w o
abbrev markO:Obj:=.deferred (some [])
def Zhf{w':World}{B e sz:Nat}{v:Value}{n:Nat}{xs:List Value}(h:w.ownsRow B e sz v n xs)(hb:∀g,v.ownBlock=some g->w'.heap[g]? =w.heap[g]?):w'.ownsRow B e sz v n xs:=by refine⟨h.1,?_⟩;rcases h.2 with hn|⟨g,cap,cur,rfl,hB,hg,rest⟩;{exact .inl hn};{exact .inr ⟨g,cap,cur,rfl,hB,(hb g rfl).trans hg,rest⟩}
def Ob.has_none(v:Value)(b:Nat):¬Ob.has .none v b:=by cases v<;>exact id
def Ob.has_prg(d:Nat)(o:Ob)(v:Value)(b:Nat):(o.prg d).has v b↔o.has v b:=by cases o<;>cases v<;>first|exact YaK|(rename_i p;cases p<;>exact YaK)|(rename_i p _ _;cases p<;>exact YaK)
def Ob.mut_prg(d:Nat)(o:Ob)(v:Value):(o.prg d).mut v=o.mut v:=by cases o<;>cases v<;>first|rfl|(rename_i p;cases p<;>rfl)|(rename_i p _ _;cases p<;>rfl)
def Ob.has_own{e sz:Nat}{es:List (List CD)}{v:Value}{b:Nat}:(Ob.grow e sz es).has v b↔v.ownBlock=some b:=by(cases v<;>first|(simp[Ob.has,Value.ownBlock];done)|skip);rename_i A _ _;cases A<;>simp[Ob.has,Value.ownBlock]
section
variable{P:Program}{A:Nat->Prop}
def ObOk.lt{M:Cells}{v:Value}{o:Ob}{b:Nat}(h:ObOk P A w M loc v o)(hb:o.has v b):b<w.heap.size:=by(cases o with|none=>exact(Ob.has_none _ _ hb).elim|box cs=>obtain⟨b',l,e,rfl,_,hh,_⟩:=h;simp only[Ob.has]at hb;subst hb;exact hh.lt|win cs=>obtain⟨b',l,rest,e,rfl,hh,_⟩:=h;simp only[Ob.has]at hb;subst hb;exact hh.lt|grow e sz es=>obtain⟨xs,hown,_⟩:=h;rw[Ob.has_own]at hb;exact(hown.lt b hb).2|guest g rem=>obtain⟨_,L,rfl,_,hL⟩:=h;simp only[Ob.has,Zan]at hb;exact(hL b hb).1|mp kk ek l=>obtain⟨b',es,clock,rfl,_,hh,_⟩:=h;simp only[Ob.has]at hb;subst hb;exact(YK.1 hh).1)
def RepG.keep{w':World}{M M':Cells}{sz:Nat}{es:List (List CD)}{xs:List Value}(hk:Keeps w w' M M')(h:RepG w M sz es xs):RepG w' M' sz es xs:=⟨h.1,RepAs.keep hk _ _ h.2⟩
def ObOk.keep{w':World}{M M':Cells}{v:Value}{d:Nat}{loc':Nat->Value}{o:Ob}(hl:∀m,m≠d->loc' m=loc m)(hk:Keeps w w' M M')(hs:w.heap.size<=w'.heap.size)(hb:∀b,o.has v b->w'.heap[b]? =w.heap[b]?)(h:ObOk P A w M loc v o):ObOk P A w' M' loc' v (o.prg d):=by(cases o with|none=>trivial|box cs=>obtain⟨b,l,e,rfl,hB,hh,hr⟩:=h;exact⟨b,l,e,rfl,hB,hh.trans (hb b rfl),RepAs.keep hk _ _ (hr.prg hl)⟩|win cs=>obtain⟨b,l,rest,e,rfl,hh,hr⟩:=h;exact⟨b,l,rest,e,rfl,hh.trans (hb b rfl),RepAs.keep hk _ _ (hr.prg hl)⟩|grow e sz es=>obtain⟨xs,hown,hA,hr,hp⟩:=h;exact⟨xs,Zhf hown (fun g hg=>hb g (Ob.has_own.2 hg)),hA,hr.keep hk,hp⟩|guest g rem=>obtain⟨hok,L,rfl,hJ,hL⟩:=h;exact⟨hok,L,rfl,hok.keep hJ hk (fun b hbL=>hb b ((Zan L b).2 hbL)) hs,fun b hbL=>⟨YaR (hL b hbL).1 hs,(hL b hbL).2⟩⟩|mp kk ek l=>obtain⟨b,es,clock,rfl,hB,hh,hr⟩:=h;exact⟨b,es,clock,rfl,hB,(hb b rfl).trans hh,hr⟩)
def ObOk.keep'{w':World}{M M':Cells}{v:Value}{o:Ob}(hk:Keeps w w' M M')(hs:w.heap.size<=w'.heap.size)(hb:∀b,o.has v b->w'.heap[b]? =w.heap[b]?)(h:ObOk P A w M loc v o):ObOk P A w' M' loc v o:=by(cases o with|none=>trivial|box cs=>obtain⟨b,l,e,rfl,hB,hh,hr⟩:=h;exact⟨b,l,e,rfl,hB,hh.trans (hb b rfl),RepAs.keep hk _ _ hr⟩|win cs=>obtain⟨b,l,rest,e,rfl,hh,hr⟩:=h;exact⟨b,l,rest,e,rfl,hh.trans (hb b rfl),RepAs.keep hk _ _ hr⟩|grow e sz es=>exact ObOk.keep (d:=0) (loc':=loc) (fun _ _=>rfl) hk hs hb h|guest g rem=>exact ObOk.keep (d:=0) (loc':=loc) (fun _ _=>rfl) hk hs hb h|mp kk ek l=>exact ObOk.keep (d:=0) (loc':=loc) (fun _ _=>rfl) hk hs hb h)
end
def ZoR(hg:G C σ loc a w){d:Nat}(hd:d<C.N)(v:Value)(t:Nat):(a.put (some d) v).tmps.getD t undef=if t=d then v else a.tmps.getD t undef:=by have hs:=hg.size;simp only[Act.put,YZ,Ya1];by_cases h:d=t;{subst h;simp[hs,hd]};{rw[Yx h,Yx (Ycz h)]}
def G.put(hg:G C σ loc a w){d:Option Nat}(hd:d.all (·<C.N)=true){x:AV}{v:Value}(h:RepA w (MM C σ.own loc) loc x v):G C (σ.put d x) loc (a.put d v) w:=by(cases d with|none=>exact hg|some d=>(have hd':d<C.N:=by simpa using hd);refine⟨hg.fr,hg.m0,hg.kp,hg.marks,hg.mnd,hg.pin,by simpa [Act.put]using hg.size,fun t=>?_,hg.objs,hg.disj⟩;rw[ZoR hg hd'];simp only[St.put,upd];split;{exact h};{exact hg.slots t})
def G.fresh(hg:G C σ loc a w){own1:Nat->Ob}{w':World}{d:Nat}(hd:d<C.N){r:AV}{o:Ob}{v u:Value}(h1:∀n,own1 n=σ.own n\/own1 n= .none)(h1d:own1 d= .none)(hfr:Fr C w')(hs:w.heap.size<=w'.heap.size)(hk:Keeps w w' (MM C σ.own loc) (MM C (upd (ZbE d own1) d (o.prg d)) (upd loc d v)))(hb:∀n b,(own1 n).has (loc n) b->w'.heap[b]? =w.heap[b]?)(hob:ObOk C.P C.A w' (MM C (upd (ZbE d own1) d (o.prg d)) (upd loc d v)) (upd loc d v) v (o.prg d))(hbd:∀n b,n≠d->o.has v b->(own1 n).has (loc n) b->False)(hmk:∀D:Nat,w.heap[D]? =some markO->w'.heap[D]? =w.heap[D]?)(hmd:∀b,o.has v b->w.heap.size<=b\/Foot σ.own loc b)(hr:RepA w' (MM C (upd (ZbE d own1) d (o.prg d)) (upd loc d v)) (upd loc d v) r u):
  G C (St.new ⟨σ.env,own1⟩ d r o) (upd loc d v) (a.put (some d) u) w':=by(have hl:∀m,m≠d->upd loc d v m=loc m:=fun m hm=>by simp[upd,hm]);(have hfoot:∀n b,n≠d->((St.new ⟨σ.env,own1⟩ d r o).own n).has (upd loc d v n) b->(own1 n).has (loc n) b:=by intro n b hnd h;simp only[St.new,upd,hnd,YA,ZbE,Ob.has_prg]at h;exact h);(have hfootd:∀b,((St.new ⟨σ.env,own1⟩ d r o).own d).has (upd loc d v d) b->o.has v b:=by intro b h;simp only[St.new,upd,YJ,Ob.has_prg]at h;exact h);(have Zqn:∀n b,(own1 n).has (loc n) b->(σ.own n).has (loc n) b:=by intro n b h;rcases h1 n with h'|h';{rwa [h']at h};{rw[h']at h;exact(Ob.has_none _ _ h).elim});refine⟨hfr,hg.m0,hg.kp.trans hk,fun x hx=>?_,hg.mnd,fun n hn=>⟨(hg.pin n hn).1,(hl n (by have:=(hg.pin n hn).1;omega)).trans (hg.pin n hn).2.1,(hg.pin n hn).2.2⟩,by simpa [Act.put]using hg.size,fun t=>?_,fun n=>?_,fun n m b hnm hn hm=>?_⟩;{obtain⟨D,e1,e2,e3,e4⟩:=hg.marks x hx;refine⟨D,e1,e2,(hmk D e3).trans e3,?_⟩;rintro⟨n,hn⟩;by_cases hnd:n=d;{subst hnd;rcases hmd D (hfootd D hn)with h|h;{have:=(YK.1 e3).1;omega};{exact e4 h}};{exact e4 ⟨n,Zqn n D (hfoot n D hnd hn)⟩}};{rw[ZoR hg hd];simp only[St.new];by_cases ht:t=d;{subst ht;simpa [upd]using hr};{simp only[upd,ht,YA,ZdI];exact RepA.keep hk _ _ (RepA.prg hl (hg.slots t))}};{simp only[St.new];by_cases hn:n=d;{subst hn;simpa [upd]using hob};{(have e1:upd (ZbE d own1) d (o.prg d) n=(own1 n).prg d:=by simp[upd,hn,ZbE]);rw[e1,hl n hn];refine ObOk.keep hl hk hs (hb n) ?_;rcases h1 n with h|h;{rw[h];exact hg.objs n};{rw[h];trivial}}};{by_cases hnd:n=d;{subst hnd;exact hbd m b (Ycz hnm) (hfootd b hn) (hfoot m b (Ycz hnm) hm)};{by_cases hmd:m=d;{subst hmd;exact hbd n b hnd (hfootd b hm) (hfoot n b hnd hn)};{exact hg.disj n m b hnm (Zqn n b (hfoot n b hnd hn)) (Zqn m b (hfoot m b hmd hm))}}}
def Fr.alloc{w:World}(h:Fr C w)(o:Obj):Fr C (w.alloc o):=
 ⟨h.os,h.tape,h.output,by have:=h.size;simp;omega,fun k hk hx=>(Zbw w o k (YaR hk h.size)).trans (h.block k hk hx)⟩
def Zbx{w:World}{p:Addr}(h:(w.cell? p).isSome=true):p.block<w.heap.size:=by obtain⟨u,hu⟩:=YaA.1 h;exact World.block_lt_of_cell? w p hu
def G.newblock(hg:G C σ loc a w){d:Nat}(hd:d<C.N)(hn:(σ.own d).isNone=true){r:AV}{ob:Ob}{v u:Value}{ob0:Obj}(hv:∀b,ob.has v b->b=w.heap.size)(hob:∀(M:Cells)(loc':Nat->Value),Keeps w (w.alloc ob0) (MM C σ.own loc) M->(∀m,m≠d->loc' m=loc m)->loc' d=v->ObOk C.P C.A (w.alloc ob0) M loc' v (ob.prg d))(hr:∀(M:Cells)(loc':Nat->Value),loc' d=v->RepA (w.alloc ob0) M loc' r u):
  G C (St.new σ d r ob) (upd loc d v) (a.put (some d) u) (w.alloc ob0):=by
 (have hnone:σ.own d= .none:=by cases h:σ.own d<;>simp_all [Ob.isNone]);have hk:Keeps w (w.alloc ob0) (MM C σ.own loc) (MM C (upd (ZbE d σ.own) d (ob.prg d)) (upd loc d v)):=by refine⟨fun p hp _=>World.cell?_alloc_lt w _ p (Zbx hp),fun p hp hm hm'=>?_⟩;have hlt:=Zbx hp;rcases hm' with h0|⟨n,h0⟩;{exact hm (.inl h0)};{by_cases hnd:n=d;{subst hnd;simp only[upd,YJ,Ob.mut_prg]at h0;have:=hv _ (Ob.has_of_mut h0);omega};{simp only[upd,hnd,YA,ZbE,Ob.mut_prg]at h0;exact hm (.inr ⟨n,h0⟩)}}
 refine G.fresh (own1:=σ.own) hg hd (fun n=> .inl rfl) hnone (hg.fr.alloc _) Kd hk (fun n b hb=>Zbw w _ b ((hg.objs n).lt hb)) (hob _ _ hk (fun m hm=>by simp[upd,hm]) (by simp[upd])) (fun n b _ h1 h2=>?_)
  (fun D hD=>Zbw w _ D (YK.1 hD).1) (fun b hb=> .inl (by have:=hv b hb;omega)) (hr _ _ (by simp[upd]))
 have:=(hg.objs n).lt h2;have:=hv b h1;omega
def Mnd(C:Ctx)(σ':St)(a:Act)(w:World)(o:Oper):Prop:=
 ∃w' loc',(∃u,(execOp a.eval o).run C.P w= .ok (.value u) w'/\G C σ' loc' (a.put o.dst u) w')\/((execOp a.eval o).run C.P w= .ok .skip w'/\G C σ' loc' (a.put o.dst undef) w')
def ZsQ(hg:G C σ loc a w){o:Oper}{e:TypeId}{z:List AV}{d:Nat}(ho:o.op= .alloc e)(hod:o.dst=some d)(hd:d<C.N)(hz:zeroB C.P e=some z)(hn:(σ.own d).isNone=true):
  Mnd C (σ.new d (.bp d 0) (.box z)) a w o:=by obtain⟨it,zv,hit,hzv,hone,rfl⟩:=ZcR hz;refine⟨w.alloc (.cells zv.cells e),upd loc d (.pointer (some ⟨w.heap.size,0,none⟩)),.inl ⟨.pointer (some ⟨w.heap.size,0,none⟩),?_,?_⟩⟩;{simp[execOp,ho,Instr.alloc,zeroValue,typeInfo,hit,hzv,newVar,newRow]};{rw[hod];refine hg.newblock hd hn (fun b hb=>hb.symm) (fun M loc' hk hl hv=>?_) (fun M loc' hv=>?_);{refine⟨w.heap.size,zv.cells.toList,(e,(0,0)),rfl,.inl hg.fr.size,AtC.of (by rw[Zbv]),?_⟩;have:=Zbo (w.alloc (.cells zv.cells e)) M loc zv.cells.toList hone;exact this.prg hl};{simp only[RepA];exact⟨_,hv,rfl⟩}}
def ZyJ(hg:G C σ loc a w){o:Oper}{e:TypeId}{x:Operand}{x':X}{d:Nat}{cs:List AV}(ho:o.op= .box e x)(hod:o.dst=some d)(hd:d<C.N)(hx:cX x=some x')(hdg:(σ.val x').dg=true)(hc:(σ.val x').dv.cellsA σ.own=some cs)(hn:(σ.own d).isNone=true):
  Mnd C (σ.new d (.bp d 0) (.box cs)) a w o:=by have hr:=(ZaJ hg hx hdg).cellsA_ hc;refine⟨w.alloc (.cells (a.eval x).cells e),upd loc d (.pointer (some ⟨w.heap.size,0,none⟩)),.inl ⟨.pointer (some ⟨w.heap.size,0,none⟩),?_,?_⟩⟩;{simp[execOp,ho,Instr.box,newVar,newRow]};{rw[hod];refine hg.newblock hd hn (fun b hb=>hb.symm) (fun M loc' hk hl hv=>?_) (fun M loc' hv=>?_);{exact⟨w.heap.size,(a.eval x).cells.toList,(e,(0,0)),rfl,.inl hg.fr.size,AtC.of (by rw[Zbv]),RepAs.keep hk _ _ (hr.prg hl)⟩};{simp only[RepA];exact⟨_,hv,rfl⟩}}
def Zpv{α:Type}(cs:List α)(o:Nat)(vs:List α)(h:o+vs.length<=cs.length):ZmT cs o vs=splice cs o vs:=by unfold ZmT;split;{rename_i v;simp only[splice,YaZ,YH,YM];exact List.set_eq_take_append_cons_drop.trans (by rw[Yt (by simp at h;omega)])};{rfl}
def RepA.one_{M:Cells}{x:AV}{v:Value}(h:RepA w M loc x v)(hb:x.oneB=true):v.oneCell'=true:=by cases x<;>simp only[AV.oneB,Yp]at hb<;>simp only[RepA]at h;{exact h.one};{obtain⟨b,_,rfl⟩:=h;rfl};{exact h.2};{obtain⟨b,o,_,rfl,_⟩:=h;rfl};{obtain⟨l,rfl,_⟩:=h;rfl}
def RepAs.ones{M:Cells}:∀{as:List AV}{l:List Value},RepAs w M loc as l->as.all AV.oneB=true->∀v∈l,v.oneCell'=true
 |[],l,h,_=>by simp only[RepAs]at h;subst h;simp
 |x::as,l,h,hb=>by simp only[RepAs]at h;obtain⟨v,vs,rfl,h1,h2⟩:=h;simp only[YaE,Yf]at hb;intro u hu;rcases YF.1 hu with rfl|hu;{exact h1.one_ hb.1};{exact h2.ones hb.2 u hu}
def Fr.setRow{w:World}(h:Fr C w){g:Nat}(hg:C.B<=g\/C.X g)(cs:Array Value):Fr C (w.setRow g cs):=
 ⟨h.os,h.tape,h.output,by have:=h.size; simp; omega,fun k hk hx =>by
  rw[setRow_other w g k cs (by rintro rfl;rcases hg with h'|h';omega;exact hx h')];exact h.block k hk hx⟩
def G.setBox(hg:G C σ loc a w){n off b:Nat}{cs vs:List AV}{l us:List Value}{e:TypeId×(Nat×Nat)}(hown:σ.own n= .box cs)(hloc:loc n= .pointer (some ⟨b,0,none⟩))(hB:C.A b)(hh:AtC w b l e)(hfit:off+us.length<=l.length)(hrs:RepAs w (MM C σ.own loc) loc cs l)(hry:RepAs w (MM C σ.own loc) loc vs us):
  G C ⟨σ.env,upd σ.own n (.box (splice cs off vs))⟩ loc a (w.setRow b (splice l off us).toArray):=by(have hnb:(σ.own n).has (loc n) b:=by rw[hown,hloc];rfl);(have hk:Keeps w (w.setRow b (splice l off us).toArray) (MM C σ.own loc) (MM C (upd σ.own n (.box (splice cs off vs))) loc):=by refine⟨fun p hp hm=>cell_setRow_other w b _ p (fun hpb=>hm (.inr ⟨n,?_⟩)),fun p hp hm hm'=>?_⟩;{rw[hown,hloc];simpa [Ob.mut]using hpb.symm};{rcases hm' with h0|⟨m,h0⟩;{exact hm (.inl h0)};{by_cases hmn:m=n;{subst hmn;simp only[upd,YJ]at h0;rw[hloc]at h0;exact hm (.inr ⟨m,by rw[hown,hloc];exact h0⟩)};{simp only[upd,hmn,YA]at h0;exact hm (.inr ⟨m,h0⟩)}}});(have hsz:w.heap.size<=(w.setRow b (splice l off us).toArray).heap.size:=by simp);(have hne:∀(k b2:Nat),(upd σ.own n (.box (splice cs off vs)) k).has (loc k) b2↔(σ.own k).has (loc k) b2:=by intro k b2;by_cases hkn:k=n;{subst hkn;simp only[upd,YJ];rw[hown,hloc];exact YaK};{simp only[upd,hkn,YA]});refine⟨hg.fr.setRow hB _,hg.m0,hg.kp.trans hk,fun x hx=>?_,hg.mnd,hg.pin,hg.size,fun t=>RepA.keep hk _ _ (hg.slots t),fun m=>?_,fun m k b2 hmk hm hk2=>?_⟩;{obtain⟨D,e1,e2,e3,e4⟩:=hg.marks x hx;refine⟨D,e1,e2,?_,fun⟨k,hk⟩=>e4 ⟨k,(hne k D).1 hk⟩⟩;rw[setRow_other w b D _ (by rintro rfl;rw[hh.1]at e3;cases e3)];exact e3};{by_cases hmn:m=n;{subst hmn;simp only[upd,YJ];exact⟨b,_,e,hloc,hB,hh.set (by simp only[splice,Yw,Y4,Yac];omega),(RepAs.keep hk _ _ hrs).splice off (RepAs.keep hk _ _ hry)⟩};{simp only[upd,hmn,YA];exact ObOk.keep' hk hsz (fun b2 hb2=>setRow_other w b b2 _ (fun hbb=>hg.disj m n b hmn (hbb▸hb2) hnb)) (hg.objs m)}};{exact hg.disj m k b2 hmk ((hne m b2).1 hm) ((hne k b2).1 hk2)}
def ZCo(hg:G C σ loc a w){o:Oper}{t:TypeId}{x y:Operand}{x' y':X}{sz n off:Nat}{cs vs:List AV}(ho:o.op= .store t x y)(hod:o.dst=none)(hsz:sizeB C.P t=some sz)(hx:cX x=some x')(hy:cX y=some y')(hxd:(σ.val x').dg=true)(hyd:(σ.val y').dg=true)(hxv:(σ.val x').dv= .bp n off)(hyv:(σ.val y').dv.cellsA σ.own=some vs)(hown:σ.own n= .box cs)(hl:vs.length=sz)(hfit:off+sz<=cs.length)(hone:vs.all AV.oneB=true):
  Mnd C ⟨σ.env,upd σ.own n (.box (ZmT cs off vs))⟩ a w o:=by subst hl;rw[Zpv cs off vs hfit];have hrx:=ZaJ hg hx hxd;rw[hxv]at hrx;simp only[RepA]at hrx;obtain⟨b,hloc,hxe⟩:=hrx;have hry:=(ZaJ hg hy hyd).cellsA_ hyv;have hob:=hg.objs n;rw[hown]at hob;obtain⟨b',l,e,hlb,hB,hh,hrs⟩:=hob;rw[hloc]at hlb;simp only[Value.pointer.injEq,Ya,Addr.mk.injEq,Ya2]at hlb;subst hlb;have hlen:=hrs.length;have hlv:=hry.length;(have hrow:(l.take off++(a.eval y).cells.toList++l.drop (off+(a.eval y).cells.toList.length)).toArray=(splice l off (a.eval y).cells.toList).toArray:=by simp[splice]);(have hft:off+(a.eval y).cells.toList.length<=l.length:=by simp at hlv|-;omega);have hst:=Zdm C.P b off e (a.eval y).cells.toList 0 l w hh (by simpa using hft) (hry.ones hone);simp only[Yad]at hst;rw[hrow]at hst;refine⟨w.setRow b (splice l off (a.eval y).cells.toList).toArray,loc,.inr ⟨?_,?_⟩⟩;{(unfold sizeB at hsz;cases hinf:C.P.info? t with|none=>simp[hinf]at hsz|some inf=>simp[hinf]at hsz;(have hcs:(a.eval y).cells.size=inf.size:=by simp at hlv;omega);simp[execOp,ho,hxe,Instr.storeAt,Instr.sureAddr,storeVar,sizeOf,typeInfo,hinf,hcs,hst])};{rw[hod];exact hg.setBox hown hloc hB hh hft hrs hry}
end Go.V
namespace Go.V
variable{C:Ctx}{σ:St}{loc:Nat->Value}{a:Act}{w:World}
def Zfb{P:Program}(base:Nat)(t ty e:TypeId)(i:TypeInfo)(z:Value)(ht:P.underlying t=some (.slice e))(hi:P.info? e=some i)(hz:i.zero=some z)(hzs:z.cells.size=i.size)(hsz:0<i.size)(v:Value)(n:Nat)(xs:List Value)(hown:w.ownsRow base e i.size v n xs)(ad:Addr)(m c:Nat)(news:List Value)(hl:news.length=m*i.size)(hnews:∀j u,news[j]? =some u->w.cell? (ad.add j)=some u)(h1:∀u∈news,u.oneCell'=true)(h63:n+m<=maxLen)(hbytes:(n+m)*i.bytes<=140737488355328)(hbase:base<=w.heap.size):
  ∃v' w',(Builtin.append_ #[t,t] ty #[v,.slice (some ad) m c]).run P w= .ok v' w'/\w'.ownsRow base e i.size v' (n+m) (xs++news)/\w.grownBy w' v.ownBlock/\
   (v'.ownBlock=v.ownBlock\/(v'.ownBlock=some w.heap.size/\∀k,k<w.heap.size->w'.heap[k]? =w.heap[k]?)):=by obtain⟨v',w',hr,h2,h3,_⟩:=run_append_own (P:=P) w base t ty e i z i.size i.bytes ht hi hz rfl rfl hzs hsz v n xs hown ad m c news hl hnews h1 h63 hbytes hbase;refine⟨v',w',hr,h2,h3,?_⟩;(have h63':n+m<=9223372036854775807:=by simp only[maxLen]at h63;omega);rcases hown.2 with⟨rfl,rfl⟩|⟨g,cap,cur,rfl,hb,hg,hnc,hcm,hcs,htake⟩;{by_cases hm:m=0;{subst hm;have hn:news=[]:=YE (by simpa using hl);subst hn;rcases h2.2 with⟨rfl,_⟩|⟨g,cap,cur,rfl,_⟩;{exact .inl rfl};{(have hx:(Builtin.append_ #[t,t] ty #[.slice none 0 0,.slice (some ad) 0 c]).run P w= .ok (.slice none 0 0) w:=by simp[Builtin.append_,run_underlying ht,sizeOf,typeInfo,hi,Builtin.lenOf,Builtin.firstCells,loadCells,loadCellsFrom]);rw[hx]at hr;cases hr}};{have hx:=run_append_nil (P:=P) w t ty e i z ht hi hz ad m c news hl hnews Kc Kc (by have hb:=hbytes;simp only[YaH]at hb;omega);rw[hx]at hr;injection hr with e1 e2;subst e1;subst e2;exact .inr ⟨rfl,fun k hk=>Zbw w.drew _ k hk⟩}};{by_cases hroom:n+m<=cap;{(have hfit:n*i.size+news.length<=cur.size:=by rw[hl,hcs,<-YX];exact Y2 _ hroom);have hx:=run_append_room (P:=P) w t ty e i ht hi g n cap cur hg ad m c news hl hnews h1 hroom hfit;rw[hx]at hr;injection hr with e1 e2;subst e1;exact .inl rfl};{have holds:∀j u,xs[j]? =some u->w.cell? ((⟨g,0,none⟩:Addr).add j)=some u:=hown.cells (g:=g) rfl;have hx:=run_append_grow (P:=P) w t ty e i z ht hi hz ⟨g,0,none⟩ n cap xs hown.1 holds ad m c news hl hnews Kc Kc (growslice_fits Kc hbytes);rw[hx]at hr;injection hr with e1 e2;subst e1;subst e2;exact .inr ⟨rfl,fun k hk=>Zbw w.drew _ k hk⟩}}
def ZhS{P:Program}(base:Nat)(t ty e:TypeId)(i:TypeInfo)(ht:P.underlying t=some (.slice e))(hi:P.info? e=some i)(v:Value)(n:Nat)(xs:List Value)(hown:w.ownsRow base e i.size v n xs)(c:Nat):(Builtin.append_ #[t,t] ty #[v,.slice none 0 c]).run P w= .ok v w:=by rcases hown.2 with⟨rfl,rfl⟩|⟨g,cap,cur,rfl,_,_,hnc,_⟩;{simp[Builtin.append_,run_underlying ht,sizeOf,typeInfo,hi,Builtin.lenOf,Builtin.firstCells]};{simp[Builtin.append_,run_underlying ht,sizeOf,typeInfo,hi,Builtin.lenOf,Builtin.firstCells,hnc,storeCells]}
def RepL.vals'{M:Cells}{loc:Nat->Value}:∀(cs:List CD)(ad:Addr),RepL w M cs ad->∃l:List Value,l.length=cs.length/\(∀j u,l[j]? =some u->w.cell? (ad.add j)=some u)/\RepAs w M loc (cs.map .c) l:=fun cs ad h=>by obtain⟨l,h1,h2,h3⟩:=RepL.vals (loc:=loc) cs.length cs ad h (Yi _);exact⟨l,h1,h2,by simpa using h3⟩
def RepE.vals{M:Cells}{sz:Nat}{loc:Nat->Value}:∀(es:List (List CD))(ad:Addr),RepE w M sz es ad->
  ∃l:List Value,l.length=es.length*sz/\(∀j u,l[j]? =some u->w.cell? (ad.add j)=some u)/\RepAs w M loc (es.flatten.map .c) l/\(∀e∈es,e.length=sz)
 |[],_,_=>⟨[],Kd,Kd,by simp[RepAs],Kd⟩
 |e::es,ad,h=>by simp only[RepE]at h;obtain⟨l1,h1,h2,h3⟩:=RepL.vals' (loc:=loc) e ad h.1.2;obtain⟨l2,k1,k2,k3,k4⟩:=RepE.vals (loc:=loc) es _ h.2;have he:=h.1.1;refine⟨l1++l2,by simp[h1,k1,he,YX];omega,fun j u hj=>?_,by simpa using h3.append k3,by simpa [he]using k4⟩;rw[Ya5]at hj;split at hj;{exact h2 j u hj};{rename_i hge;have:=k2 _ u hj;rw[Zcg]at this;rwa [show sz+(j -l1.length)=j from by omega]at this}
def Zfp{M:Cells}{loc:Nat->Value}:∀{cs:List CD}{l:List Value},RepAs w M loc (cs.map .c) l->∀u∈l,u.oneCell'=true:=fun{cs} {l} h=>h.ones (by simp[AV.oneB])
def Zox(hg:G C σ loc a w){o:Oper}{t e:TypeId}{s x:Operand}{x':X}{i:TypeInfo}{z:Value}{d:Nat}{v:Value}{es ys:List (List CD)}{xs:List Value}{own1:Nat->Ob}(ho:o.op= .call {callee:=.builtin .append,args:=#[s,x],argTypes:=#[t,t]})(hod:o.dst=some d)(hd:d<C.N)(ht:C.P.underlying t=some (.slice e))(hi:C.P.info? e=some i)(hz:i.zero=some z)(hzs:z.cells.size=i.size)(hsz:0<i.size)(hs:a.eval s=v)(hx:cX x=some x')(hxd:(σ.val x').dg=true)(hys:(σ.val x').dv.elems σ.own=some ys)(hown:w.ownsRow 0 e i.size v es.length xs)(hA:∀b,v.ownBlock=some b->C.A b)(hrg:RepG w (MM C σ.own loc) i.size es xs)(h1:∀n,own1 n=σ.own n\/own1 n= .none)(h1d:own1 d= .none)(hmut:∀b k,v.ownBlock=some b->es.length*i.size<=k->Mut σ.own loc b k)(hdis:∀n b,(own1 n).has (loc n) b->v.ownBlock≠some b)(hysz:ys.all (fun e=>e.length==i.size)=true)(h63:es.length+ys.length<=maxLen)(hbytes:(es.length+ys.length)*i.bytes<=140737488355328):
  Mnd C (St.new ⟨σ.env,own1⟩ d (.gr d) (.grow e i.size (es++ys))) a w o:=by
 obtain⟨szx,hrx⟩:=hg.elems (ZaJ hg hx hxd) hys;simp only[RepC]at hrx;obtain⟨A,cap,hxv,hxc,_,hxe⟩:=hrx;have hBs:=hg.fr.size
 have key:∃v' w' news,(Builtin.append_ #[t,t] o.type #[v,.slice A ys.length cap]).run C.P w= .ok v' w'/\w'.ownsRow 0 e i.size v' (es.length+ys.length) (xs++news)/\w.grownBy w' v.ownBlock/\
   (v'.ownBlock=v.ownBlock\/(v'.ownBlock=some w.heap.size/\∀k,k<w.heap.size->w'.heap[k]? =w.heap[k]?))/\RepAs w (MM C σ.own loc) (fun _=>undef) (ys.flatten.map .c) news:=by
  rcases hxe with rfl|⟨ad,rfl,hE⟩
  ·cases A with
   |none=>
    exact⟨v,w,[],ZhS 0 t o.type e i ht hi v _ xs hown cap,by simpa using hown,⟨rfl,rfl,rfl,Yi _,fun _ _ _=>rfl⟩,.inl rfl,by simp[RepAs]⟩
   |some ad=>
    obtain⟨v',w',r1,r2,r3,r4⟩:=Zfb (P:=C.P) 0 t o.type e i z ht hi hz hzs hsz v es.length xs hown ad 0 cap [] Kd Kd Kd (by simpa using h63) (by simpa using hbytes) (YC _);exact⟨v',w',[],r1,r2,r3,r4,by simp[RepAs]⟩
  ·obtain⟨news,k1,k2,k3,k4⟩:=hE.vals (loc:=fun _=>undef);have hszx:ys=[]\/szx=i.size:=by
    cases ys with
    |nil=>exact .inl rfl
    |cons y ys=>
     right
     have:=k4 y Kd;simp at hysz;omega
   have hlen:news.length=ys.length*i.size:=by
    rcases hszx with rfl|h
    ·simpa using k1
    ·rw[k1,h]
   obtain⟨v',w',r1,r2,r3,r4⟩:=Zfb (P:=C.P) 0 t o.type e i z ht hi hz hzs hsz v es.length xs hown ad ys.length cap news hlen k2 (Zfp k3) h63 hbytes (YC _);exact⟨v',w',news,r1,r2,r3,r4,k3⟩
 obtain⟨v',w',news,hrun,hown',hgr,hat,hrn⟩:=key;have hlx:xs.length=es.length*i.size:=hown.1;(have hk:Keeps w w' (MM C σ.own loc) (MM C (upd (ZbE d own1) d ((Ob.grow e i.size (es++ys)).prg d)) (upd loc d v')):=by refine⟨fun p hp hm=>?_,fun p hp hm hm'=>?_⟩;{have hlt:=Zbx hp;by_cases hpb:v.ownBlock=some p.block;{(have hoff:p.off<es.length*i.size:=by rcases YaG p.off (es.length*i.size)with h|h;{exact h};{exact(hm (.inr (hmut _ _ hpb h))).elim});rcases hat with hsame|⟨_,hall⟩;{(have hspot:p.spot=none:=by(cases hps:p.spot with|none=>rfl|some q=>simp[World.cell?,hps]at hp;split at hp<;>simp at hp));(have hpe:p=(⟨p.block,0,none⟩:Addr).add p.off:=by unfold Addr.add;split;{rename_i h0;cases p;simp_all};{cases p;simp_all});have c1:=hown.cells hpb p.off _ (Yd Kc);have c2:=hown'.cells (hsame.trans hpb) p.off (xs[p.off]'Kc) (by rw[Y3 Kc];exact Yd _);rw[<-hpe]at c1 c2;rw[c1,c2]};{exact World.cell?_of_block (hall _ hlt)}};{exact World.cell?_of_block (hgr.block _ hlt (fun h=>hpb h.symm))}};{have hlt:=Zbx hp;rcases hm' with h0|⟨n,h0⟩;{exact hm (.inl h0)};{by_cases hnd:n=d;{subst hnd;simp only[upd,YJ,Ob.mut_prg]at h0;have hvb:v'.ownBlock=some p.block:=Ob.has_own.1 (Ob.has_of_mut h0);(have hoff:(es++ys).length*i.size<=p.off:=by cases v'<;>simp only[Ob.mut]at h0;rename_i A' _ _;cases A'<;>simp only at h0;exact h0.2);rcases hat with hsame|⟨hnew,_⟩;{refine hm (.inr (hmut _ _ (hsame▸hvb) ?_));refine YaP (Y2 _ ?_) hoff;simp};{rw[hnew]at hvb;simp at hvb;omega}};{simp only[upd,hnd,YA,ZbE,Ob.mut_prg]at h0;rcases h1 n with h|h;{rw[h]at h0;exact hm (.inr ⟨n,h0⟩)};{rw[h]at h0;exact(Ob.has_none _ _ (Ob.has_of_mut h0)).elim}}}});(have hfr:Fr C w':=by refine⟨hgr.os.trans hg.fr.os,hgr.tape.trans hg.fr.tape,hgr.output.trans hg.fr.output,YaP hBs hgr.size,fun k hk hx=>?_⟩;refine(hgr.block k (YaR hk hBs) (fun h=>?_)).trans (hg.fr.block k hk hx);rcases hA k h.symm with h'|h';{omega};{exact hx h'});(have hone':v'.oneCell'=true:=by rcases hown'.2 with⟨rfl,_⟩|⟨g,cap,cur,rfl,_⟩<;>rfl);have hblk:∀b,(Ob.grow e i.size (es++ys)).has v' b->v'.ownBlock=some b:=fun b hb=>Ob.has_own.1 hb;(have hblt:∀n b,(own1 n).has (loc n) b->b<w.heap.size:=by intro n b hb;rcases h1 n with h|h;{rw[h]at hb;exact(hg.objs n).lt hb};{rw[h]at hb;exact(Ob.has_none _ _ hb).elim});refine⟨w',upd loc d v',.inl ⟨v',?_,?_⟩⟩;{simp[execOp,ho,resolve,invoke,builtin,hs,hxv,hrun]};{rw[hod];refine G.fresh hg hd h1 h1d hfr hgr.size hk (fun n b hb=>?_) ?_ (fun n b hnd hb hn=>?_) (fun D hD=>?_) (fun b hb=>?_) ?_;{exact hgr.block b (hblt n b hb) (fun h=>hdis n b hb h.symm)};{refine⟨xs++news,by simpa using hown',fun b hb=>?_,⟨fun e' he'=>?_,?_⟩,hsz⟩;{rcases hat with hsame|⟨hnew,_⟩;{exact hA b (hsame▸hb)};{rw[hnew]at hb;simp only[Ya]at hb;subst hb;exact .inl hBs}};{rcases YD.1 he' with h|h;{exact hrg.1 e' h};{have:=Yn.1 hysz e' h;simpa using this}};{have:=(RepAs.keep hk _ _ hrg.2).append (RepAs.keep hk _ _ hrn);simpa using this}};{have hvb:=hblk b hb;rcases hat with hsame|⟨hnew,_⟩;{exact hdis n b hn (hsame▸hvb)};{rw[hnew]at hvb;have hlt:=hblt n b hn;simp at hvb;omega}};{refine hgr.block D (YK.1 hD).1 (fun h=>?_);rcases hown.2 with⟨rfl,_⟩|⟨g,cap,cur,rfl,_,hh,_⟩;{simp[Value.ownBlock]at h};{simp[Value.ownBlock]at h;subst h;rw[hh]at hD;cases hD}};{have hvb:=hblk b hb;rcases hat with hsame|⟨hnew,_⟩;{obtain⟨n,hn⟩:=hmut b _ (hsame▸hvb) (Yi _);exact .inr ⟨n,Ob.has_of_mut hn⟩};{rw[hnew]at hvb;simp at hvb;exact .inl Kc}};{simp only[RepA];exact⟨by simp[upd],hone'⟩}}
def ZpF(hg:G C σ loc a w){x:AV}{v:Value}{d:CD}(h:RepA w (MM C σ.own loc) loc x v)(hd:x.toCD σ.own=some d):RepC w (MM C σ.own loc) d v:=by unfold AV.toCD at hd;split at hd;{simp at hd;subst hd;simpa only[RepA]using h};{rename_i n;split at hd;{rename_i e sz es hn;simp at hd;subst hd;simp only[RepA]at h;rw[h.1];exact hg.grow_data hn};{cases hd}};{cases hd}
def toCDs_rep(hg:G C σ loc a w):∀{as:List AV}{l:List Value}{ds:List CD},RepAs w (MM C σ.own loc) loc as l->as.mapM (AV.toCD σ.own)=some ds->RepAs w (MM C σ.own loc) (fun _=>undef) (ds.map .c) l
 |[],l,ds,h,hd=>by simp at hd;subst hd;simpa [RepAs]using h
 |x::as,l,ds,h,hd=>by simp only[Yao,Yaw,YS,Yz,Ya]at hd;obtain⟨y,hy,ys,hys,rfl⟩:=hd;simp only[RepAs]at h;obtain⟨v,vs,rfl,h1,h2⟩:=h;simp only[Ye,RepAs];exact⟨v,vs,rfl,by simpa only[RepA]using ZpF hg h1 hy,toCDs_rep hg h2 hys⟩
def ZrQ{v:Value}(h:v.oneCell'=true):v.cells= #[v]:=by cases v<;>first|rfl|simp[Value.oneCell']at h
def Zx3(hg:G C σ loc a w){x:AV}{v:Value}{ds:List CD}(h:RepA w (MM C σ.own loc) loc x v)(hd:x.cds σ.own=some ds):RepAs w (MM C σ.own loc) (fun _=>undef) (ds.map .c) v.cells.toList:=by unfold AV.cds at hd;split at hd;{rename_i cs;simp only[RepA]at h;obtain⟨l,rfl,hr⟩:=h;simpa [Value.cells]using toCDs_rep hg hr hd};{simp only[Yh]at hd;obtain⟨d,hd,rfl⟩:=hd;have hr:=ZpF hg h hd;rw[ZrQ hr.one];simp only[Ye,Yg,RepAs];exact⟨v,[],rfl,by simpa only[RepA]using hr,rfl⟩}
def Zk0{sz:Nat}(ρ:Operand->Value):∀(xs:List Operand)(k:Nat)(arr:Array Value),(∀x∈xs,(ρ x).cells.size=sz)->arr.size=(k+xs.length)*sz->
  ∃arr',Instr.fill (fun i=>some (i*sz,sz)) arr ((List.range' k xs.length).zip (xs.map ρ))=some arr'/\arr'.toList=arr.toList.take (k*sz)++(xs.map fun x=>(ρ x).cells.toList).flatten
 |[],k,arr,_,hs=>⟨arr,by simp[Instr.fill],by simp at hs;rw[YG (by simp[hs])];simp⟩
 |x::xs,k,arr,hc,hs=>by have hx:(ρ x).cells.size=sz:=hc x Kd;simp only[Yo]at hs;(have hs':arr.size=k*sz+sz+xs.length*sz:=by rw[hs,YX,YX];omega);(have hz:(ρ x).cells.zipIdx.foldl (fun(cs:Array Value)(p:Value×Nat)=>cs.setIfInBounds (k*sz+p.2) p.1) arr=(Go.V.splice arr.toList (k*sz) (ρ x).cells.toList).toArray:=by apply YaS;have:=ZoP (l:=(ρ x).cells.toList) 0 (k*sz) arr (by simp;omega);simp only[Yad]at this;rw[List.toList_toArray,<-this,<-Array.foldl_toList];simp);have hz':(ρ x).cells.zipIdx.foldl (fun(cs:Array Value)(x:Value×Nat)=>match x with|(c,j)=>cs.setIfInBounds (k*sz+j) c) arr=(Go.V.splice arr.toList (k*sz) (ρ x).cells.toList).toArray:=hz;(have hsp:(Go.V.splice arr.toList (k*sz) (ρ x).cells.toList).length=arr.size:=by simp[Go.V.splice];omega);obtain⟨arr',h1,h2⟩:=Zk0 ρ xs (k+1) (Go.V.splice arr.toList (k*sz) (ρ x).cells.toList).toArray (fun y hy=>hc y (by simp[hy])) (by simp only[YaV,hsp,hs'];rw[YX,YX];omega);refine⟨arr',?_,?_⟩;{simp only[Yo,YcV,Ye,List.zip_cons_cons,Instr.fill];rw[Yx (by simp;omega),hz'];exact h1};{rw[h2];simp only[Ye,YaC];rw[<-YO];congr 1;simp only[Go.V.splice];rw[<-YO,YaD (by simp;rw[YX];omega),YG (by simp;rw[YX];omega)]}
def ZrH(hg:G C σ loc a w){o:Oper}{t e n sz:Nat}{parts:Array (Nat×Operand)}{xs':List X}{es:List (List CD)}{z:List AV}(ho:o.op= .buildSlice t n parts)(ht:C.P.underlying t=some (.slice e))(hsz:sizeB C.P e=some sz)(hz:zeroB C.P e=some z)(hpr:parts.toList.map (·.1)=List.range n)(hpos:0<sz)(hlim:n*sz<=2^24)(hzl:z.length=sz)(hxs:cXs (parts.toList.map (·.2))=some xs')(hes:(xs'.mapM fun x=>(σ.val x).dv.cds σ.own)=some es)(hdg:(xs'.all fun x=>(σ.val x).dg)=true)(hel:(es.all fun e=>e.length==sz)=true):
  ∃arr',(execOp a.eval o).run C.P w= .ok (.value (.slice (some ⟨w.heap.size,0,none⟩) n n)) (w.alloc (.cells arr' e))/\arr'.size=n*sz/\es.length=n/\RepAs w (MM C σ.own loc) (fun _=>undef) (es.flatten.map .c) arr'.toList:=by
 obtain⟨it,zv,hit,hzv,hone,hzeq⟩:=ZcR hz
 have hall:∀(l:List Operand)(l':List X)(es:List (List CD)),cXs l=some l'->(l'.mapM fun x=>(σ.val x).dv.cds σ.own)=some es->(l'.all fun x=>(σ.val x).dg)=true->(es.all fun e=>e.length==sz)=true->
   (∀x∈l,(a.eval x).cells.size=sz)/\es.length=l.length/\RepAs w (MM C σ.own loc) (fun _=>undef) (es.flatten.map .c) ((l.map fun x=>(a.eval x).cells.toList).flatten):=by
  intro l;induction l with
  |nil=>
   intro l' es h1 h2 _ _;simp[cXs]at h1;subst h1;simp at h2;subst h2;simp[RepAs]
  |cons x l ih=>
   intro l' es h1 h2 h3 h4;simp only[cXs,Yao,Yaw,YS,Yz,Ya]at h1;obtain⟨y,hy,ys,hys,rfl⟩:=h1;simp only[Yao,Yaw,YS,Yz,Ya]at h2;obtain⟨e0,he0,es0,hes0,rfl⟩:=h2;simp only[YaE,Yf]at h3 h4;obtain⟨i1,i2,i3⟩:=ih ys es0 hys hes0 h3.2 h4.2;have hr:=Zx3 hg (ZaJ hg hy h3.1) he0;have hlen:=hr.length;refine⟨fun u hu=>?_,by simp[i2],by simpa using hr.append i3⟩;rcases YF.1 hu with rfl|hu
   ·simp at hlen h4;omega
   ·exact i1 u hu
 obtain⟨hcs,hlen,hrs⟩:=hall _ xs' es hxs hes hdg hel;(have hpl:parts.toList.length=n:=by have:=congrArg List.length hpr;simpa using this);(have hzc:zv.cells.size=sz:=by rw[<-hzl,hzeq];simp);obtain⟨arr',hf,hl⟩:=Zk0 (sz:=sz) a.eval (parts.toList.map (·.2)) 0 ((Array.range (n*sz)).map (zv.cells[· % zv.cells.size]!)) hcs (by simp[hpl]);simp only[Yc9,Yaz,YM]at hl;(have hzip:(parts.map fun(i,x)=>(i,a.eval x)).toList=(List.range' 0 (parts.toList.map (·.2)).length).zip ((parts.toList.map (·.2)).map a.eval):=by(have h1:parts.toList.map (·.1)=List.range' 0 parts.toList.length:=by rw[hpr,YbU,hpl]);(have h2:∀(l:List (Nat×Operand)),l.map (fun(i,x)=>(i,a.eval x))=(l.map (·.1)).zip ((l.map (·.2)).map a.eval):=by(intro l;induction l with|nil=>rfl|cons p l ih=>simp[ih]));rw[YbX,h2,h1];simp);(have hsize:sizeB C.P e=some it.size:=by simp[sizeB,hit]);(have ZnG:it.size=sz:=by rw[hsz]at hsize;simpa using hsize.symm);(have hn24:¬(2^24<n*sz):=by omega);refine⟨arr',?_,?_,by rw[hlen,Yc,hpl],by rw[hl];exact hrs⟩;{by_cases h0:n*sz=0;{(have hn0:n=0:=by rcases Nat.mul_eq_zero.1 h0 with h|h;exact h;omega);subst hn0;(have hp0:parts= #[]:=by apply YaW;simpa using hpl);subst hp0;(have:arr'= #[]:=by apply YaS;simpa using hl);subst this;(have hr0:∀f:Nat->Value,Array.map f (Array.range 0)= #[]:=fun f=>by apply YaS;simp);simp[execOp,ho,Instr.buildSlice,run_underlying ht,sizeOf,typeInfo,hit,Instr.fill,newRow,hr0]};{rw[hzip.symm]at hf;simp[execOp,ho,Instr.buildSlice,run_underlying ht,sizeOf,typeInfo,hit,ZnG,hn24,h0,zeroValue,hzv,newRow];simp at hf;simp[hf]}};{(have Zyl:arr'.size=n*sz:=by have h1:=hrs.length;rw[<-hl]at h1;(have h2:(es.flatten.map AV.c).length=es.length*sz:=by(have:∀l:List (List CD),(l.all fun e=>e.length==sz)=true->l.flatten.length=l.length*sz:=by(intro l;induction l with|nil=>simp|cons e0 l ih=>intro h;simp only[YaE,Yf]at h;simp[ih h.2,YX];simp at h;omega));exact(Yc ..).trans (this es hel));simp only[Yc]at hlen;rw[h2,hlen,hpl]at h1;simpa using h1);exact Zyl}
def ZyK(hg:G C σ loc a w){o:Oper}{t e n sz d:Nat}{parts:Array (Nat×Operand)}{xs':List X}{es:List (List CD)}{z:List AV}(ho:o.op= .buildSlice t n parts)(hod:o.dst=some d)(hd:d<C.N)(ht:C.P.underlying t=some (.slice e))(hsz:sizeB C.P e=some sz)(hz:zeroB C.P e=some z)(hpr:parts.toList.map (·.1)=List.range n)(hpos:0<sz)(hlim:n*sz<=2^24)(hzl:z.length=sz)(hxs:cXs (parts.toList.map (·.2))=some xs')(hes:(xs'.mapM fun x=>(σ.val x).dv.cds σ.own)=some es)(hn:(σ.own d).isNone=true)(hdg:(xs'.all fun x=>(σ.val x).dg)=true)(hel:(es.all fun e=>e.length==sz)=true):
  Mnd C (St.new σ d (.gr d) (.grow e sz es)) a w o:=by obtain⟨arr',hrun,Zyl,hlen,hrs⟩:=ZrH hg ho ht hsz hz hpr hpos hlim hzl hxs hes hdg hel;refine⟨w.alloc (.cells arr' e),upd loc d (.slice (some ⟨w.heap.size,0,none⟩) n n),.inl ⟨.slice (some ⟨w.heap.size,0,none⟩) n n,hrun,?_⟩⟩;rw[hod];refine hg.newblock hd hn (fun b hb=>by simpa [Ob.has]using hb.symm) (fun M loc' hk hl' hv=>?_) (fun M loc' hv=>?_);{refine⟨arr'.toList,⟨by simp[Zyl,hlen],.inr ⟨w.heap.size,n,arr',by simp[hlen],YC _,by rw[Zbv],by simp[hlen],?_,Zyl,?_⟩⟩,fun b hb=>?_,⟨fun e' he'=>by simpa using Yn.1 hel e' he',?_⟩,hpos⟩;{simp only[maxLen];have:n<=n*sz:=Ycf _ hpos;omega};{rw[YG];simp[Zyl,hlen]};{simp[Value.ownBlock]at hb;exact .inl (by have:=hg.fr.size;omega)};{exact RepAs.keep hk _ _ hrs}};{simp only[RepA];exact⟨hv.symm,rfl⟩}
end Go.V
