/- lemmas -/
import Derived.CallsIn
import Derived.Lib.SlicesCompact
import Derived.WalkKit
import Derived.Laws.AppendOwn
import Derived.Laws.CopyRow
import Derived.Laws.MakeOwn
set_option linter.all false
abbrev w8.{u} (a:Type u):Type u:=Option a
abbrev w9.{u} (a:Type u):Type u:=List a
def cI:=@List.getElem?_eq_getElem
def cJ:=@Nat.le_refl
def cM:=@Bool.and_eq_true
def cN:=@List.length_append
def cO:=@List.mem_append
def cP:=@List.mem_cons
def cQ:=@List.getElem?_eq_some_iff
def cR:=@Nat.eq_of_beq_eq_true
def cS:=@List.append_assoc
def cT:=@List.mem_singleton
def cV:=@List.length_cons
def cW:=@Nat.le_trans
def cX:=@Nat.lt_of_lt_of_le
def cY:=@List.mem_of_getElem?
def cZ:=@List.length_eq_zero_iff
def dc:=@Int.toNat_natCast
def df:=@List.append_nil
def dg:=@List.mem_iff_getElem
def dh:=@List.length_take
def di:=@List.all_eq_true
def dj:=@Bool.false_eq_true
def dk:=@List.length_nil
def dl:=@List.mem_append_right
def dm:=@Nat.add_mul
def dt:=@Array.getD_eq_getD_getElem?
def du:=@List.drop_eq_getElem_cons
def dv:=@Nat.mul_le_mul_right
def dw:=@Array.toList_inj
def dz:=@List.mem_flatMap
def dA:=@Nat.lt_or_ge
def dB:=@Nat.zero_add
def dC:=@List.nil_append
def dD:=@List.pairwise_cons
def dE:=@List.flatMap_cons
def dF:=@List.mem_cons_of_mem
def dG:=@List.mem_map
def dH:=@List.mem_append_left
def dI:=@Nat.zero_le
def dJ:=@Bool.not_true
def dK:=@List.findIdx?_eq_some_iff_getElem
def dL:=@Array.getElem?_setIfInBounds
def dM:=@Nat.le_of_ble_eq_true
def dN:=@List.take_of_length_le
def dO:=@List.prefix_rfl
def dP:=@List.length_map
def dQ:=@Option.map_some
def dR:=@List.getElem?_take
def dS:=@List.prefix_append
def dT:=@List.take_append_drop
def dU:=@List.any_eq_true
def dV:=@List.cons_append
def dW:=@Bool.not_eq_true'
def dX:=@List.length_pos_iff
def dY:=@List.map_cons
def dZ:=@List.getD_eq_getElem?_getD
def d8:=@List.findIdx?_eq_none_iff
def d9:=@List.mem_filter
def ee:=@Option.bind_some
def eh:=@List.getElem?_toArray
def ej:=@List.length_filter_le
def eo:=@List.length_singleton
def eA:=@List.getElem?_drop
def eD:=@List.filter_cons
def eE:=@List.take_append_of_le_length
def eF:=@Array.getElem?_push
def eG:=@List.map_congr_left
def eI:=@List.getElem?_map
def eJ:=@Bool.true_and
def eM:=@List.prefix_append_right_inj
def eN:=@Int.le_refl
def eO:=@List.foldl_cons
def eP:=@List.filter_append
def eQ:=@List.getElem?_cons_zero
def eR:=@List.getElem?_append
def eS:=@Array.getElem?_eq_some_iff
def eT:=@List.size_toArray
def eV:=@List.any_eq_false
def eW:=@Array.ext'
def eX:=@List.pairwise_iff_getElem
def eY:=@Array.getElem?_append
def eZ:=@List.find?_eq_none
def fc:=@Bool.not_eq_false'
def fe:=@Eq.trans
def ff:=@List.not_mem_nil
def fg:=@List.mem_of_mem_take
def fh:=@List.length_set
def fi:=@Array.length_toList
def fj:=@Nat.one_mul
def fk:=@List.all_cons
def fm:=@Bool.and_eq_false_iff
def fo:=@List.nodup_nil
def fp:=@List.map_nil
def fq:=@Nat.ne_of_lt
def ft:=@Int.mul_le_mul_of_nonneg_right
def fu:=@Nat.le_of_eq
def fw:=@List.filter_nil
def fA:=@List.nodup_cons
def fB:=@List.pairwise_singleton
def fC:=@List.flatMap_append
def fD:=@List.length_drop
def fE:=@Bool.and_false
def fF:=@Int.natAbs_mul
def fG:=@List.getElem_mem
def fH:=@List.drop_of_length_le
def fI:=@Nat.mul_one
def fJ:=@Int.natAbs_natCast
def fK:=@Nat.add_zero
def fL:=@List.length_replicate
def fM:=@Array.getElem?_toList
def fN:=@List.getElem?_set
def fO:=@Bool.eq_false_iff
def fP:=@Int.mul_le_mul
def fQ:=@Nat.mul_le_mul
def fR:=@List.drop_drop
def fS:=@Option.isSome_iff_exists
def fT:=@Array.toList_map
def fU:=@Nat.le_mul_of_pos_right
def fV:=@List.getElem?_cons_succ
def fW:=@List.map_append
def fX:=@Bool.eq_iff_iff
def fY:=@Nat.le_succ
def fZ:=@List.drop_append_of_le_length
def f0:=@List.getElem_take
def f5:=@List.length_range
def f6:=@List.drop_zero
def f7:=@List.contains_iff_mem
def f8:=@List.Perm.refl
def f9:=@List.mem_of_mem_drop
def gb:=@List.pairwise_append
def gd:=@List.append_toArray
def gg:=@List.getElem?_range
def gh:=@List.filter_eq_self
def gi:=@Int.toNat_of_nonneg
def gj:=@List.find?_cons
def gk:=@Nat.lt_or_eq_of_le
def gq:=@Nat.eq_zero_or_pos
def gu:=@Bool.false_and
def gw:=@List.drop_left
def gy:=@List.mem_range
def gz:=@Int.mul_nonneg
def gA:=@Bool.not_false
def gB:=@List.nodup_append
def gC:=@Array.size_append
def gD:=@Option.getD_some
def gE:=@List.foldlM_cons
def gF:=@List.drop_length
def gG:=@Nat.lt_succ_self
def gH:=@List.take_length
def gI:=@Int.natCast_succ
def gJ:=@List.flatMap_nil
def gK:=@Nat.ble_eq_true_of_le
def gL:=@Nat.succ_pos
def gM:=@Int.natCast_mul
def gN:=@Int.mul_comm
def gO:=@List.mem_mapIdx
def gP:=@List.range_succ
noncomputable section
namespace Go.Am
inductive Ty where
 |unit
 |bool
 |int (k:IntKind)
 |str
 |slice (t:Ty)
 |map (k v:Ty)
 |ptr (t:Ty)
 |pair (a b:Ty)
 deriving DecidableEq
@[reducible] def Val:Ty->Type
 |.unit=>Unit
 |.bool=>Bool
 |.int _=>Int
 |.str=>ByteArray
 |.slice t=>w9 (Val t)
 |.map k v=>w9 (Val k×Val v)
 |.ptr t=>Val t
 |.pair a b=>Val a×Val b
inductive AV where
 |any
 |und
 |bool (b:Bool)
 |int (k:IntKind) (n:Int)
 |str (s:ByteArray)
 |nils
 |slc (t:Ty) (xs:List (Val t))
 |own (id g:Nat)
 |sub (id g lo n:Nat)
 |nilm
 |mp (k v:Ty) (es:List (Val k×Val v))
 |omp (id:Nat)
 |nilp
 |box (id off:Nat)
 |eptr (t:Ty) (x:Val t) (off:Nat)
 |optr (id g i off:Nat)
 |dp (id g:Nat)
 |dq (id g i:Nat)
 |dr (id g i:Nat)
 |de (id g i j:Nat)
 |nilfn
 |yld
 |ifc (b:Bool)
 |ofn (id:Nat)
 |oit (id:Nat)
 |fn (f:Fn) (first caps:List AV)
 |agg (cs:List AV)
 |tup (vs:List AV)
inductive Blk where
 |dead
 |cells (cs:List AV)
 |row (t:Ty) (g:Nat) (fz:Bool) (xs:List (Val t))
 |map (k v:Ty) (es:List (Val k×Val v))
 |deep (k:IntKind) (g:Nat) (xss:List (List Int))
 |acc (t:Ty) (xs:List (Val t))
 |fns (es:List (ByteArray×AV))
 |iter (s:ByteArray) (pos:Int)
structure St where
 t:w9 AV
 h:w9 Blk
def Ty.size:Ty->Nat
 |.unit=>0
 |.pair a b=>a.size+b.size
 |_=>1
def Ty.isAgg:Ty->Bool
 |.unit=>true
 |.pair _ _=>true
 |_=>false
def flat:(t:Ty)->Val t->w9 AV
 |.unit,_=>[]
 |.bool,b=>[.bool b]
 |.int k,n=>[.int k n]
 |.str,s=>[.str s]
 |.slice t,xs=>[.slc t xs]
 |.map k v,es=>[.mp k v es]
 |.ptr t,x=>[.eptr t x 0]
 |.pair a b,v=>flat a v.1++flat b v.2
def qd {F:Ty->Type} {a b:Ty} (h:a=b) (x:F a):F b:=h▸x
def ū:(t:Ty)->w9 AV->w8 (Val t×w9 AV)
 |.unit,l=>some ((),l)
 |.bool,.bool b::l=>some (b,l)
 |.int k,.int c n::l=>match decEq c k with
  |isTrue _=>some (n,l)
  |isFalse _=>none
 |.str,.str s::l=>some (s,l)
 |.slice _,.nils::l=>some ([],l)
 |.slice t,.slc t' xs::l=>match decEq t' t with
  |isTrue h=>some (qd (F:=fun t=>w9 (Val t)) h xs,l)
  |isFalse _=>none
 |.map _ _,.nilm::l=>some ([],l)
 |.map k v,.mp c d es::l=>match decEq (Ty.map c d) (Ty.map k v) with
  |isTrue h=>some (qd (F:=Val) h es,l)
  |isFalse _=>none
 |.ptr t,.eptr t' x 0::l=>match decEq t' t with
  |isTrue h=>some ((qd (F:=Val) h x:Val t),l)
  |isFalse _=>none
 |.pair a b,l=>match ū a l with
  |some (x,l)=>match ū b l with
   |some (y,l)=>some ((x,y),l)
   |none=>none
  |none=>none
 |_,_=>none
def Ò (t:Ty) (l:w9 AV):w8 (Val t) :=
 match ū t l with
 |some (x,[])=>some x
 |_=>none
def enc:(t:Ty)->Val t->AV
 |.unit,_=>.agg []
 |.pair a b,v=>.agg (flat (.pair a b) v)
 |.bool,b=>.bool b
 |.int k,n=>.int k n
 |.str,s=>.str s
 |.slice t,xs=>.slc t xs
 |.map k v,es=>.mp k v es
 |.ptr t,x=>.eptr t x 0
def į:AV->w8 (w9 AV)
 |.agg cs=>some cs
 |.any=>none
 |.und=>none
 |.tup _=>none
 |v=>some [v]
def lk (l:w9 AV):Nat->AV:=List.rec (motive:=fun _=>Nat->AV) (fun _=>.any) (fun x _ a n=>Nat.rec (motive:=fun _=>AV) x (fun m _=>a m) n) l
def upd (l:w9 AV):Nat->AV->w9 AV:=List.rec (motive:=fun _=>Nat->AV->w9 AV) (fun _ _=>[]) (fun x xs a n v=>Nat.rec (motive:=fun _=>w9 AV) (v::xs) (fun m _=>x::a m v) n) l
def lkB (l:w9 Blk):Nat->Blk:=List.rec (motive:=fun _=>Nat->Blk) (fun _=>.dead) (fun x _ a n=>Nat.rec (motive:=fun _=>Blk) x (fun m _=>a m) n) l
def è (l:w9 Blk):Nat->Blk->w9 Blk:=List.rec (motive:=fun _=>Nat->Blk->w9 Blk) (fun _ _=>[]) (fun x xs a n v=>Nat.rec (motive:=fun _=>w9 Blk) (v::xs) (fun m _=>x::a m v) n) l
def ac7 (n:Nat):lk [] n=.any:=rfl
def ac8 (x:AV) (l:w9 AV):lk (x::l) 0=x:=rfl
def ac6 (x:AV) (l:w9 AV) (n:Nat):lk (x::l) (n+1)=lk l n:=rfl
def Qz (n:Nat) (v:AV):upd [] n v=[]:=rfl
def QA (x v:AV) (l:w9 AV):upd (x::l) 0 v=v::l:=rfl
def Qy (x v:AV) (l:w9 AV) (n:Nat):upd (x::l) (n+1) v=x::upd l n v:=rfl
def PD (n:Nat):lkB [] n=.dead:=rfl
def PE (x:Blk) (l:w9 Blk):lkB (x::l) 0=x:=rfl
def PC (x:Blk) (l:w9 Blk) (n:Nat):lkB (x::l) (n+1)=lkB l n:=rfl
def FM (n:Nat) (v:Blk):è [] n v=[]:=rfl
def FN (x v:Blk) (l:w9 Blk):è (x::l) 0 v=v::l:=rfl
def FL (x v:Blk) (l:w9 Blk) (n:Nat):è (x::l) (n+1) v=x::è l n v:=rfl
def HU:w9 AV->Nat->Nat->w8 (w9 AV)
 |_,0,0=>some []
 |c::cs,0,n+1=>match HU cs 0 n with
  |some l=>some (c::l)
  |none=>none
 |_::cs,o+1,n=>HU cs o n
 |[],_,_=>none
def XN:w9 AV->Nat->w9 AV->w8 (w9 AV)
 |cs,0,[]=>some cs
 |_::cs,0,v::vs=>match XN cs 0 vs with
  |some l=>some (v::l)
  |none=>none
 |c::cs,o+1,vs=>match XN cs o vs with
  |some l=>some (c::l)
  |none=>none
 |[],_,_=>none
def cv1:Value->AV
 |.bool b=>.bool b
 |.int k n=>.int k n
 |.string s=>.str s
 |.slice none 0 0=>.nils
 |.map none=>.nilm
 |.pointer none=>.nilp
 |.nilFunc=>.nilfn
 |.nilIface=>.ifc false
 |_=>.any
def cv:Value->AV
 |.agg cs=>match cs.toList.all Value.oneCell' with
  |true=>.agg (cs.toList.map cv1)
  |false=>.any
 |v=>cv1 v
def ev (t:w9 AV):Operand->AV
 |.tmp i=>lk t i
 |.const v=>cv v
 |.func f=>.fn (.func f) [] []
 |.global _=>.any
def LO:TypeDesc->Bool
 |.struct _=>true
 |.array _ _=>true
 |_=>false
def szP (P:Program) (t:TypeId):w8 Nat :=
 match P.info? t with
 |some i=>some i.size
 |none=>none
def ldP (P:Program) (t:TypeId):w8 (Bool×Nat) :=
 match P.underlying t with
 |some d=>match szP P t with
  |some n=>some (LO d,n)
  |none=>none
 |none=>none
def mkv (agg:Bool) (cs:w9 AV):w8 AV :=
 match agg with
 |true=>some (.agg cs)
 |false=>match cs with
  |[v]=>some v
  |_=>none
def ae7:w9 Ty->Ty
 |[]=>.unit
 |[t]=>t
 |t::ts=>.pair t (ae7 ts)
def M9 (P:Program):Nat->TypeId->w8 Ty
 |0,_=>none
 |n+1,t=>match P.underlying t with
  |some .bool=>some .bool
  |some (.int k)=>some (.int k)
  |some .string=>some .str
  |some (.slice e)=>(M9 P n e).map .slice
  |some (.map k e)=>match M9 P n k,M9 P n e with
   |some a,some b=>some (.map a b)
   |_,_=>none
  |some (.pointer e)=>(M9 P n e).map .ptr
  |some (.struct fs)=>(fs.toList.mapM fun f=>M9 P n f.type).map ae7
  |_=>none
def BF (P:Program) (t:TypeId):w8 TypeId :=
 match P.underlying t with
 |some (.slice e)=>some e
 |_=>none
def B5 (P:Program) (e:TypeId) (n:Nat):Bool :=
 match P.info? e with
 |some i=>i.size==n&&(decide (0<n)&&(decide (i.bytes<=32768)&&match i.zero with
  |some z=>z.cells.size==n
  |none=>false))
 |none=>false
def ò (h:w9 Blk):AV->AV
 |.own id g=>match lkB h id with
  |.row t g' _ xs=>match g==g' with
   |true=>.slc t xs
   |false=>.any
  |_=>.any
 |.sub id g lo n=>match lkB h id with
  |.row t g' _ xs=>match g==g' with
   |true=>.slc t ((xs.drop lo).take n)
   |false=>.any
  |_=>.any
 |.omp id=>match lkB h id with
  |.map k v es=>.mp k v es
  |_=>.any
 |v=>v
def VF (h:w9 Blk):AV->AV
 |.agg cs=>.agg (cs.map (ò h))
 |v=>ò h v
def pO (h:w9 Blk):AV->w9 Blk
 |.own id _=>match lkB h id with
  |.row t g _ xs=>è h id (.row t g true xs)
  |_=>h
 |.sub id _ _ _=>match lkB h id with
  |.row t g _ xs=>è h id (.row t g true xs)
  |_=>h
 |_=>h
def yV (h:w9 Blk):w9 AV->w9 Blk
 |[]=>h
 |v::vs=>yV (pO h v) vs
def frz (h:w9 Blk):AV->w9 Blk
 |.agg cs=>yV h cs
 |v=>pO h v
def IH:AV->Bool
 |.omp _=>false
 |.ofn _=>false
 |.oit _=>false
 |_=>true
def aaz:AV->Bool
 |.agg cs=>cs.all IH
 |v=>IH v
def zb:AV->Bool
 |.bool _=>true
 |.int _ _=>true
 |.str _=>true
 |.nils=>true
 |.nilm=>true
 |.nilp=>true
 |.nilfn=>true
 |_=>false
def plain:AV->Bool
 |.agg cs=>cs.all zb
 |v=>zb v
def Iv:AV->Bool
 |.tup vs=>vs.all plain
 |v=>plain v
def Zn (n:Int):Int:=IntKind.i64.wrap n
def res:IntKind->Int->Int
 |.i64,n=>Zn n
 |k,n=>k.wrap n
def Ý (n:Nat):Bool:=decide (n<=4294967296)
def jh:(t:Ty)->Val t->Val t->Bool
 |.bool,a,b=>a==b
 |.int _,a,b=>decide (a=b)
 |.str,a,b=>a==b
 |_,_,_=>false
def Fg (P:Program) (t:TypeId) (k:Ty):Bool :=
 match P.underlying t with
 |some .bool=>match k with
  |.bool=>true
  |_=>false
 |some (.int i)=>match k with
  |.int j=>i==j
  |_=>false
 |_=>false
def Ob:AV->Bool
 |.agg _=>true
 |_=>false
def vd {k v:Ty} (x:Val k):w9 (Val k×Val v)->w8 (Val v)
 |[]=>none
 |e::es=>match jh k x e.1 with
  |true=>some e.2
  |false=>vd x es
def Pb {k v:Ty} (x:Val k) (y:Val v):w9 (Val k×Val v)->w9 (Val k×Val v)
 |[]=>[(x,y)]
 |e::es=>match jh k x e.1 with
  |true=>(x,y)::es
  |false=>e::Pb x y es
section
variable {ρ:Type}
def cmpI:BinOp->Int->Int->w8 Bool
 |.eql,a,b=>some (a==b)
 |.neq,a,b=>some (a != b)
 |.lss,a,b=>some (decide (a<b))
 |.leq,a,b=>some (decide (a<=b))
 |.gtr,a,b=>some (decide (a>b))
 |.geq,a,b=>some (decide (a>=b))
 |_,_,_=>none
def arI:BinOp->Int->Int->w8 Int
 |.add,a,b=>some (a+b)
 |.sub,a,b=>some (a-b)
 |.mul,a,b=>some (a*b)
 |_,_,_=>none
def arK (k:IntKind) (n:Int) (K:AV->w8 ρ):w8 ρ :=
 K (.int k (res k n))
def eqFs (P:Program) (a:TypeId->w9 AV->w9 AV->w8 Bool->w8 Bool) (cs b:w9 AV):w9 Field->w8 Bool->w8 Bool
 |[],rest=>rest
 | f :: fs, rest => match f.name != "_" with
  |false=>eqFs P a cs b fs rest
  |true=>match szP P f.type with
   |some n=>match HU cs f.offset n,HU b f.offset n with
    |some x,some y=>a f.type x y (eqFs P a cs b fs rest)
    |_,_=>none
   |none=>none
def eqIs (P:Program) (a:TypeId->w9 AV->w9 AV->w8 Bool->w8 Bool) (e:TypeId) (n:Nat) (cs b:w9 AV):w9 Nat->w8 Bool->w8 Bool
 |[],rest=>rest
 |i::is,rest=>match HU cs (i*n) n,HU b (i*n) n with
  |some x,some y=>a e x y (eqIs P a e n cs b is rest)
  |_,_=>none
def agP (P:Program):Nat->TypeId->w9 AV->w9 AV->w8 Bool->w8 Bool
 |0,_,_,_,_=>none
 |n+1,t,cs,ds,rest=>match P.underlying t with
  |some .bool=>match cs,ds with
   |[.bool a],[.bool b]=>match rest with
    |some r=>some ((a==b)&&r)
    |none=>none
   |_,_=>none
  |some (.int _)=>match cs,ds with
   |[.int k a],[.int c b]=>match decEq k c with
    |isTrue _=>match rest with
     |some r=>some (decide (a=b)&&r)
     |none=>none
    |isFalse _=>none
   |_,_=>none
  |some (.struct fs)=>match P.stoodInHeld t with
   |false=>eqFs P (agP P n) cs ds fs.toList rest
   |true=>none
  |some (.array len el)=>match szP P el with
   |some m=>eqIs P (agP P n) el m cs ds (List.range len) rest
   |none=>none
  |_=>none
def shlI (k:IntKind) (a b:Int):Int:=k.wrap (a*2 ^ (min b.toNat k.bits))
def ir (k:IntKind) (a b:Int):Int:=a.fdiv (2 ^ (min b.toNat k.bits))
def UN:BinOp->w8 Bool
 |.shl=>some true
 |.shr=>some false
 |_=>none
def shK (left:Bool) (k:IntKind) (a b:Int) (K:AV->w8 ρ):w8 ρ :=
 match decide (0<=b) with
 |true=>match left with
  |true=>K (.int k (shlI k a b))
  |false=>K (.int k (ir k a b))
 |false=>none
def afz (k:IntKind) (f:BitVec k.bits->BitVec k.bits->BitVec k.bits) (a b:Int):Int:=k.wrap (f (BitVec.ofInt k.bits a) (BitVec.ofInt k.bits b)).toNat
def andI (k:IntKind) (a b:Int):Int:=afz k (fun a b=>a &&& b) a b
def orI (k:IntKind) (a b:Int):Int:=afz k (fun a b=>a ||| b) a b
def xorI (k:IntKind) (a b:Int):Int:=afz k (fun a b=>a ^^^ b) a b
def Qj (k:IntKind) (a b:Int):Int:=afz k (fun a b=>a &&& ~~~b) a b
def aggT:w8 TypeDesc->Bool
 |some (.struct _)=>true
 |some (.array _ _)=>true
 |_=>false
def ag7 (P:Program) (op:BinOp) (t:TypeId) (x y:AV) (K:AV->w8 ρ):w8 ρ :=
 match x,y with
 |.int k a,.int c b=>match UN op with
  |some l=>shK l k a b K
  |none=>match decEq k c with
   |isFalse _=>none
   |isTrue _=>match cmpI op a b with
    |some r=>K (.bool r)
    |none=>match arI op a b with
     |some r=>arK k r K
     |none=>match op with
      |.quo=>match decide (b=0) with
       |true=>none
       |false=>arK k (a.tdiv b) K
      |.rem=>match decide (b=0) with
       |true=>none
       |false=>K (.int k (a.tmod b))
      |.and=>K (.int k (andI k a b))
      |.or=>K (.int k (orI k a b))
      |.xor=>K (.int k (xorI k a b))
      |.andNot=>K (.int k (Qj k a b))
      |_=>none
 |.bool a,.bool b=>match P.underlying t with
  |some .bool=>match op with
   |.eql=>K (.bool (a==b))
   |.neq=>K (.bool (!(a==b)))
   |_=>none
  |_=>none
 |.str a,.str b=>match op with
  |.eql=>K (.bool (a.toList==b.toList))
  |.neq=>K (.bool (!(a.toList==b.toList)))
  |.add=>match Ý (a.size+b.size) with
   |true=>K (.str (a++b))
   |false=>none
  |_=>none
 |.agg cs,.agg ds=>match aggT (P.underlying t) with
  |true=>match P.eqGuardType P.depth t with
   |false=>match agP P 8 t cs ds (some true) with
    |some r=>match op with
     |.eql=>K (.bool r)
     |.neq=>K (.bool (!r))
     |_=>none
    |none=>none
   |true=>none
  |false=>none
 |_,_=>none
def abw:Operand->Bool
 |.const .nilIface=>true
 |_=>false
def agz (P:Program) (op:BinOp) (t:TypeId) (x:AV) (K:AV->w8 ρ):w8 ρ :=
 match P.underlying t with
 |some (.interface _)=>match x with
  |.ifc a=>match op with
   |.eql=>K (.bool (!a))
   |.neq=>K (.bool a)
   |_=>none
  |_=>none
 |_=>none
@[irreducible] def GP (n:Nat):Int:=match n with
 |0=>0
 |k+1=>Int.ofNat (k+1)
def lT (n:Nat):GP n=n:=by unfold GP; cases n<;>rfl
def ac9 (d:w8 TypeDesc) (h:w9 Blk) (x:AV) (K:AV->w8 ρ):w8 ρ :=
 match d with
 |some (.slice _)=>match x with
  |.slc _ xs=>K (.int .i64 (GP xs.length))
  |.nils=>K (.int .i64 0)
  |.own id g=>match lkB h id with
   |.row _ g' _ xs=>match g==g' with
    |true=>K (.int .i64 (GP xs.length))
    |false=>none
   |_=>none
  |.sub id g _ n=>match lkB h id with
   |.row _ g' _ _=>match g==g' with
    |true=>K (.int .i64 (GP n))
    |false=>none
   |_=>none
  |.dp id g=>match lkB h id with
   |.deep _ g' xss=>match g==g' with
    |true=>K (.int .i64 (GP xss.length))
    |false=>none
   |_=>none
  |.dr id g i=>match lkB h id with
   |.deep _ g' xss=>match g==g' with
    |true=>match xss[i]? with
     |some xs=>K (.int .i64 (GP xs.length))
     |none=>none
    |false=>none
   |_=>none
  |_=>none
 |some .string=>match x with
  |.str s=>K (.int .i64 (GP s.size))
  |_=>none
 |some (.map _ _)=>match x with
  |.mp _ _ es=>K (.int .i64 (GP es.length))
  |.nilm=>K (.int .i64 0)
  |.omp id=>match lkB h id with
   |.map _ _ es=>K (.int .i64 (GP es.length))
   |_=>none
  |_=>none
 |_=>none
def LU:Nat->Nat->Int->(Nat->w8 ρ)->w8 ρ
 |0,_,_,_=>none
 |n+1,q,j,K=>match decide (j=(q:Int)) with
  |true=>K q
  |false=>LU n (q+1) j K
def AE (sz:Nat) (h:w9 Blk) (x i:AV) (K:AV->w8 ρ):w8 ρ :=
 match i with
 |.int _ n=>match x with
  |.slc t xs=>match t.size==sz&&decide (0<=n) with
   |true=>match xs[n.toNat]? with
    |some e=>K (.eptr t e 0)
    |none=>none
   |false=>none
  |.own id g=>match lkB h id with
   |.row t g' _ xs=>match g==g'&&t.size==sz with
    |true=>match decide (0<=n)&&decide (n<xs.length) with
     |true=>K (.optr id g n.toNat 0)
     |false=>none
    |false=>none
   |_=>none
  |.sub id g lo m=>match lkB h id with
   |.row t g' _ _=>match g==g'&&t.size==sz with
    |true=>match decide (0<=n)&&decide (n<m) with
     |true=>K (.optr id g (lo+n.toNat) 0)
     |false=>none
    |false=>none
   |_=>none
  |.dp id g=>match lkB h id with
   |.deep _ g' xss=>match g==g'&&Nat.beq 1 sz with
    |true=>match decide (0<=n)&&decide (n<xss.length) with
     |true=>K (.dq id g n.toNat)
     |false=>none
    |false=>none
   |_=>none
  |.dr id g i=>match lkB h id with
   |.deep _ g' xss=>match g==g'&&Nat.beq 1 sz with
    |true=>match xss[i]? with
     |some xs=>match decide (0<=n)&&decide (n<xs.length) with
      |true=>K (.de id g i n.toNat)
      |false=>none
     |none=>none
    |false=>none
   |_=>none
  |_=>none
 |_=>none
def vO (h:w9 Blk) (x:AV) (o:Nat) (K:AV->w8 ρ):w8 ρ :=
 match x with
 |.box id off=>K (.box id (off+o))
 |.eptr t e off=>K (.eptr t e (off+o))
 |.optr id g i off=>match lkB h id with
  |.row _ g' _ _=>match g==g' with
   |true=>K (.optr id g i (off+o))
   |false=>none
  |_=>none
 |_=>none
def Kr (P:Program) (h:w9 Blk) (t:TypeId) (a:AV) (K:AV->w8 ρ):w8 ρ :=
 match ldP P t with
 |some (agg,n)=>match a with
  |.box id off=>match lkB h id with
   |.cells c=>match HU c off n with
    |some cs=>match mkv agg cs with
     |some v=>K v
     |none=>none
    |none=>none
   |_=>none
  |.eptr ty e off=>match HU (flat ty e) off n with
   |some cs=>match mkv agg cs with
    |some v=>K v
    |none=>none
   |none=>none
  |.optr id g i off=>match lkB h id with
   |.row ty g' _ xs=>match g==g' with
    |true=>match xs[i]? with
     |some e=>match HU (flat ty e) off n with
      |some cs=>match mkv agg cs with
       |some v=>K v
       |none=>none
      |none=>none
     |none=>none
    |false=>none
   |_=>none
  |.dq id g i=>match lkB h id with
   |.deep _ g' _=>match g==g'&&(!agg&&Nat.beq n 1) with
    |true=>K (.dr id g i)
    |false=>none
   |_=>none
  |.de id g i j=>match lkB h id with
   |.deep k g' xss=>match g==g'&&(!agg&&Nat.beq n 1) with
    |true=>match xss[i]? with
     |some xs=>match xs[j]? with
      |some x=>K (.int k x)
      |none=>none
     |none=>none
    |false=>none
   |_=>none
  |_=>none
 |none=>none
def qf (P:Program) (h:w9 Blk) (t:TypeId) (a v:AV) (K:w9 Blk->w8 ρ):w8 ρ :=
 match į v with
 |some vs=>match szP P t==some vs.length with
  |true=>match a with
   |.box id off=>match lkB h id with
    |.cells c=>match XN c off vs with
     |some c'=>K (è h id (.cells c'))
     |none=>none
    |_=>none
   |.optr id g i off=>match aaz v with
    |true=>match lkB (frz h v) id with
     |.row ty g' false xs=>match g==g' with
      |true=>match xs[i]? with
       |some e=>match XN (flat ty e) off (vs.map (ò h)) with
        |some b=>match Ò ty b with
         |some f=>K (è (frz h v) id (.row ty g' false (xs.set i f)))
         |none=>none
        |none=>none
       |none=>none
      |false=>none
     |_=>none
    |false=>none
   |.de id g i j=>match v with
    |.int d y=>match lkB h id with
     |.deep k g' xss=>match g==g' with
      |true=>match decEq d k with
       |isTrue _=>match xss[i]? with
        |some xs=>match xs[j]? with
         |some _=>K (è h id (.deep k g' (xss.set i (xs.set j y))))
         |none=>none
        |none=>none
       |isFalse _=>none
      |false=>none
     |_=>none
    |_=>none
   |_=>none
  |false=>none
 |none=>none
def oK (s:ByteArray) (j:Int) (K:AV->w8 ρ):w8 ρ :=
 match decide (0<=j) with
 |true=>match s[j.toNat]? with
  |some b=>K (.int .u8 b.toNat)
  |none=>none
 |false=>none
def oJ (s:ByteArray) (lo hi:w8 AV) (K:AV->w8 ρ):w8 ρ :=
 match lo,hi with
 |some (.int _ l),some (.int _ m)=>match decide (0<=l)&&(decide (l<=m)&&decide (m<=s.size)) with
  |true=>K (.str (s.extract l.toNat m.toNat))
  |false=>none
 |some (.int _ l),none=>match decide (0<=l)&&decide (l<=s.size) with
  |true=>K (.str (s.extract l.toNat s.size))
  |false=>none
 |none,some (.int _ m)=>match decide (0<=m)&&decide (m<=s.size) with
  |true=>K (.str (s.extract 0 m.toNat))
  |false=>none
 |_,_=>none
def acB (l:w9 Int):ByteArray:=⟨(l.map fun n=>UInt8.ofNat n.toNat).toArray⟩
def AQ (h:w9 Blk) (x:AV) (K:AV->w8 ρ):w8 ρ :=
 match x with
 |.own id g=>match lkB h id with
  |.row (.int .u8) g' false xs=>match g==g' with
   |true=>K (.str (acB xs))
   |false=>none
  |_=>none
 |_=>none
def T5 (a b:ByteArray):Bool:=decide (a.data.toList=b.data.toList)
def AG (s:ByteArray):w9 (ByteArray×AV)->(w8 AV->w8 ρ)->w8 ρ
 |[],K=>K none
 |e::es,K=>match T5 s e.1 with
  |true=>K (some e.2)
  |false=>AG s es K
def Og (s:ByteArray) (es:w9 (ByteArray×AV)):Bool:=es.all fun e=>!T5 s e.1
def isFnV:AV->Bool
 |.fn _ _ _=>true
 |_=>false
def oO (sz:Nat) (h:w9 Blk) (x:AV) (lo hi:w8 AV) (eat:Bool) (K:AV->w9 Blk->w8 ρ):w8 ρ :=
 match x with
 |.slc t xs=>match t.size==sz with
  |true=>match lo,hi with
   |some (.int _ l),some (.int _ m)=>match decide (0<=l)&&(decide (l<=m)&&decide (m<=xs.length)) with
    |true=>K (.slc t ((xs.drop l.toNat).take (m-l).toNat)) h
    |false=>none
   |some (.int _ l),none=>match decide (0<=l)&&decide (l<=xs.length) with
    |true=>K (.slc t (xs.drop l.toNat)) h
    |false=>none
   |none,some (.int _ m)=>match decide (0<=m)&&decide (m<=xs.length) with
    |true=>K (.slc t (xs.take m.toNat)) h
    |false=>none
   |none,none=>K (.slc t xs) h
   |_,_=>none
  |false=>none
 |.nils=>match lo,hi with
  |none,some (.int _ m)=>match decide (m=0) with
   |true=>K .nils h
   |false=>none
  |none,none=>K .nils h
  |_,_=>none
 |.own id g=>match lkB h id with
  |.row t g' fz xs=>match g==g'&&t.size==sz with
   |true=>match eat with
    |true=>match fz with
     |true=>none
     |false=>match lo,hi with
      |some (.int _ l),none=>match decide (0<=l)&&decide (l<=xs.length) with
       |true=>K (.own id (g+1)) (è h id (.row t (g+1) false (xs.drop l.toNat)))
       |false=>none
      |none,some (.int _ m)=>match decide (0<=m)&&decide (m<=xs.length) with
       |true=>K (.own id (g+1)) (è h id (.row t (g+1) false (xs.take m.toNat)))
       |false=>none
      |_,_=>none
    |false=>match lo,hi with
     |some (.int _ l),some (.int _ m)=>match decide (0<=l)&&(decide (l<=m)&&decide (m<=xs.length)) with
      |true=>K (.sub id g l.toNat (m-l).toNat) h
      |false=>none
     |some (.int _ l),none=>match decide (0<=l)&&decide (l<=xs.length) with
      |true=>K (.sub id g l.toNat (xs.length-l.toNat)) h
      |false=>none
     |none,some (.int _ m)=>match decide (0<=m)&&decide (m<=xs.length) with
      |true=>K (.sub id g 0 m.toNat) h
      |false=>none
     |_,_=>none
   |false=>none
  |_=>none
 |_=>none
def uU (P:Program) (h:w9 Blk) (nid:Nat) (t:TypeId) (s x:AV) (K:AV->w9 Blk->w8 ρ):w8 ρ :=
 match BF P t with
 |some e=>match M9 P 8 e with
  |some ty=>match B5 P e ty.size with
   |true=>match Ò (.slice ty) [ò h x] with
    |some ys=>match s with
     |.nils=>match Ý ys.length with
      |true=>K (.own nid 0) (è h nid (.row ty 0 false ys))
      |false=>none
     |.own id g=>match lkB h id with
      |.row ty' g' false xs=>match g==g' with
       |true=>match decEq ty ty' with
        |isTrue eq=>match Ý (xs.length+ys.length) with
         |true=>K (.own id (g+1)) (è h id (.row ty' (g+1) false (xs++qd (F:=fun t=>w9 (Val t)) eq ys)))
         |false=>none
        |isFalse _=>none
       |false=>none
      |_=>none
     |_=>none
    |none=>none
   |false=>none
  |none=>none
 |none=>none
def P0 (P:Program) (h:w9 Blk) (nid:Nat) (t:TypeId) (s:AV) (a c:Nat) (K:AV->w9 Blk->w8 ρ):w8 ρ :=
 match BF P t with
 |some e=>match B5 P e 1 with
  |true=>match lkB h a with
   |.deep k b yss=>match c==b with
    |true=>match s with
     |.nils=>match Ý yss.length with
      |true=>K (.dp nid 0) (è (è h a (.deep k (c+1) [])) nid (.deep k 0 yss))
      |false=>none
     |.dp id g=>match id==a with
      |true=>none
      |false=>match lkB h id with
       |.deep d g' xss=>match g==g' with
        |true=>match decEq d k with
         |isTrue _=>match Ý (xss.length+yss.length) with
          |true=>K (.dp id (g+1)) (è (è h a (.deep k (c+1) [])) id (.deep d (g+1) (xss++yss)))
          |false=>none
         |isFalse _=>none
        |false=>none
       |_=>none
     |_=>none
    |false=>none
   |_=>none
  |false=>none
 |none=>none
def Tc (P:Program) (h:w9 Blk) (nid n:Nat) (t:TypeId) (ps:w9 (Nat×AV)) (K:AV->w9 Blk->w8 ρ):w8 ρ :=
 match ps with
 |[]=>none
 |p::l=>match l with
  |_::_=>none
  |[]=>match p.2 with
   |.own id g=>match BF P t with
    |some e=>match B5 P e 1&&(Nat.beq p.1 0&&Nat.beq n 1) with
     |true=>match lkB h id with
      |.row (.int k) g' false xs=>match g==g' with
       |true=>K (.dp nid 0) (è (è h id (.row (.int k) (g+1) false [])) nid (.deep k 0 [xs]))
       |false=>none
      |_=>none
     |false=>none
    |none=>none
   |.dp id g=>match BF P t with
    |some e=>match B5 P e 1&&(Nat.beq p.1 0&&Nat.beq n 1) with
     |true=>match lkB h id with
      |.deep k g' xss=>match g==g' with
       |true=>K (.own nid 0) (è (è h id (.deep k (g+1) [])) nid (.row (.slice (.slice (.int k))) 0 false [xss]))
       |false=>none
      |_=>none
     |false=>none
    |none=>none
   |_=>none
def BO (P:Program) (h:w9 Blk) (nid:Nat) (t:TypeId) (s x:AV) (K:AV->w9 Blk->w8 ρ):w8 ρ :=
 match s,x,BF P t with
 |.nils,.int .i64 n,some e=>match M9 P 8 e with
  |some ty=>match B5 P e ty.size with
   |true=>match (((P.info? e).bind (·.zero)).map cv).bind į with
    |some zs=>match Ò ty zs with
     |some z=>match decide (0<n)&&Ý n.toNat with
      |true=>K (.own nid 0) (è h nid (.row ty 0 false (List.replicate n.toNat z)))
      |false=>none
     |none=>none
    |none=>none
   |false=>none
  |none=>none
 |_,_,_=>none
def Ee (P:Program) (h:w9 Blk) (t:TypeId) (x:AV) (K:w9 Blk->w8 ρ):w8 ρ :=
 match x,BF P t with
 |.nils,_=>K h
 |.sub id g lo n,some e=>match (((P.info? e).bind (·.zero)).map cv).bind į with
  |some zs=>match lkB h id with
   |.row ty g' false xs=>match g==g' with
    |true=>match Ò ty zs with
     |some z=>K (è h id (.row ty g' false (xs.take lo++List.replicate n z++xs.drop (lo+n))))
     |none=>none
    |false=>none
   |_=>none
  |none=>none
 |_,_=>none
def funcT (P:Program) (t:TypeId):Bool :=
 match P.underlying t with
 |some (.func _ _ _)=>true
 |_=>false
def strT (P:Program) (t:TypeId):Bool :=
 match P.underlying t with
 |some .string=>true
 |_=>false
def u8T (P:Program) (t:TypeId):Bool :=
 match P.underlying t with
 |some (.int .u8)=>true
 |_=>false
def runeI (s:ByteArray) (p:Int):Int:=(Utf8.decode s p.toNat).1
def widI (s:ByteArray) (p:Int):Int:=(Utf8.decode s p.toNat).2
def O9 (h:w9 Blk) (x:AV) (K:AV->w9 Blk->w8 ρ):w8 ρ :=
 match x with
 |.oit id=>match lkB h id with
  |.iter s p=>match decide (p<GP s.size) with
   |true=>K (.tup [.bool true,.int .i64 p,.int .i32 (runeI s p)]) (è h id (.iter s (p+widI s p)))
   |false=>K (.tup [.bool false]) h
  |_=>none
 |_=>none
def rP (P:Program) (h:w9 Blk) (t:TypeId) (id:Nat) (i:AV) (ok:Bool) (K:AV->w8 ρ):w8 ρ :=
 match P.underlying t with
 |some (.map kt et)=>match ((P.info? et).bind (·.zero)).map cv with
  |some z=>match strT P kt,i,lkB h id with
   |true,.str s,.fns es=>AG s es fun r=>match r with
    |some v=>match ok with
     |true=>K (.tup [v,.bool true])
     |false=>K v
    |none=>match ok with
     |true=>K (.tup [z,.bool false])
     |false=>K z
   |_,_,_=>none
  |none=>none
 |_=>none
def Ů (P:Program) (h:w9 Blk) (t:TypeId) (id:Nat) (i x:AV) (K:w9 Blk->w8 ρ):w8 ρ :=
 match P.underlying t with
 |some (.map kt _)=>match strT P kt,i,lkB h id with
  |true,.str s,.fns es=>match Og s es&&isFnV x with
   |true=>K (è h id (.fns (es++[(s,x)])))
   |false=>none
  |_,_,_=>none
 |_=>none
def pv (P:Program) (h:w9 Blk) (t:TypeId) (m i:AV) (ok:Bool) (K:AV->w8 ρ):w8 ρ :=
 match P.underlying t with
 |some (.map kt et)=>match M9 P 8 kt,M9 P 8 et,((P.info? et).bind (·.zero)).map cv with
  |some k,some v,some z=>match Fg P kt k,ò h m with
   |true,.mp b a es=>match decEq (Ty.map b a) (Ty.map k v) with
    |isTrue eq=>match Ò k [i] with
     |some x=>match vd x (qd (F:=Val) eq es) with
      |some y=>match ok with
       |true=>K (.tup [enc v y,.bool true])
       |false=>K (enc v y)
      |none=>match ok with
       |true=>K (.tup [z,.bool false])
       |false=>K z
     |none=>none
    |isFalse _=>none
   |true,.nilm=>match Ò k [i] with
    |some _=>match ok with
     |true=>K (.tup [z,.bool false])
     |false=>K z
    |none=>none
   |_,_=>none
  |_,_,_=>none
 |_=>none
def ŭ (P:Program) (h:w9 Blk) (t:TypeId) (m i x:AV) (K:w9 Blk->w8 ρ):w8 ρ :=
 match P.underlying t with
 |some (.map kt _)=>match m with
  |.omp id=>match lkB h id with
   |.map k v es=>match Fg P kt k&&(aaz x&&Ob x==v.isAgg) with
    |true=>match Ò k [i],į (VF h x) with
     |some a,some cs=>match Ò v cs with
      |some b=>K (è (frz h x) id (.map k v (Pb a b es)))
      |none=>none
     |_,_=>none
    |false=>none
   |_=>none
  |_=>none
 |_=>none
def YM (P:Program) (fs:Array Field):w9 (Nat×AV)->w9 AV->w8 (w9 AV)
 |[],cs=>some cs
 |(i,v)::ps,cs=>match fs[i]? with
  |some f=>match į v with
   |some vs=>match szP P f.type==some vs.length with
    |true=>match XN cs f.offset vs with
     |some cs=>YM P fs ps cs
     |none=>none
    |false=>none
   |none=>none
  |none=>none
def Fu (sz:Nat):w9 (Nat×AV)->w9 AV->w8 (w9 AV)
 |[],cs=>some cs
 |(i,v)::ps,cs=>match į v with
  |some vs=>match vs.length==sz with
   |true=>match XN cs (i*sz) vs with
    |some cs=>Fu sz ps cs
    |none=>none
   |false=>none
  |none=>none
def Im (h:w9 Blk) (ty:Ty):Nat->w9 (Nat×AV)->w8 (w9 (Val ty))
 |_,[]=>some []
 |n,(i,v)::ps=>match i==n&&aaz v with
  |true=>match į (VF h v) with
   |some cs=>match Ò ty cs with
    |some x=>match Im h ty (n+1) ps with
     |some xs=>some (x::xs)
     |none=>none
    |none=>none
   |none=>none
  |false=>none
def frzA (h:w9 Blk):w9 (Nat×AV)->w9 Blk
 |[]=>h
 |(_,v)::ps=>frzA (frz h v) ps
def US (a b:Int):Int:=if b>a then b else a
def WN (a b:Int):Int:=if b<a then b else a
def jy (gt:Bool):AV->w9 AV->(AV->w8 ρ)->w8 ρ
 |x,[],K=>K x
 |.int k a,.int c b::l,K=>match decEq k c with
  |isTrue _=>match gt with
   |true=>jy true (.int k (US a b)) l K
   |false=>jy false (.int k (WN a b)) l K
  |isFalse _=>none
 |_,_,_=>none
def isV0:AV->Bool
 |.fn _ _ _=>false
 |.agg _=>false
 |.tup _=>false
 |_=>true
def tR:Operand->Operand->Bool
 |.tmp i,.tmp j=>i==j
 |.const (.int .i64 a),.const (.int .i64 b)=>decide (a=b)
 |_,_=>false
def opK (P:Program) (S:St) (nid:Nat) (eat:Bool) (o:Op) (K:AV->St->w8 ρ):w8 ρ :=
 let h (h:w9 Blk):St:={t:=S.t,h:=h}
 match o with
 |.move x=>K (ev S.t x) S
 |.assign x=>K (ev S.t x) S
 |.pick c a b=>match ev S.t c with
  |.bool x=>match x with
   |true=>K (ev S.t a) S
   |false=>K (ev S.t b) S
  |_=>none
 |.box el x=>match į (ev S.t x) with
  |some cs=>match eat with
   |true=>match M9 P 8 el with
    |some ty=>match Ò ty cs with
     |some y=>K (.eptr ty y 0) S
     |none=>none
    |none=>none
   |false=>K (.box nid 0) (h (è S.h nid (.cells cs)))
  |none=>none
 |.alloc e=>match ((P.info? e).bind (·.zero)).map cv with
  |some z=>match į z with
   |some cs=>K (.box nid 0) (h (è S.h nid (.cells cs)))
   |none=>none
  |none=>none
 |.build t ps=>match P.underlying t with
  |some (.struct fs)=>match fs.toList.all (fun f=>(P.info? f.type).isSome) with
   |true=>match ((P.info? t).bind (·.zero)).map cv with
    |some z=>match į z with
     |some zs=>match YM P fs (ps.toList.map fun p=>(p.1,ev S.t p.2)) zs with
      |some cs=>K (.agg cs) S
      |none=>none
     |none=>none
    |none=>none
   |false=>none
  |some (.array _ e)=>match szP P e,((P.info? t).bind (·.zero)).map cv with
   |some sz,some z=>match į z with
    |some zs=>match Fu sz (ps.toList.map fun p=>(p.1,ev S.t p.2)) zs with
     |some cs=>K (.agg cs) S
     |none=>none
    |none=>none
   |_,_=>none
  |_=>none
 |.buildSlice t n ps=>match eat with
  |true=>Tc P S.h nid n t (ps.toList.map fun p=>(p.1,ev S.t p.2)) fun v h'=>K v (h h')
  |false=>match BF P t with
  |some e=>match M9 P 8 e with
   |some ty=>match B5 P e ty.size&&(ps.toList.length==n&&decide (n*ty.size<=65536)) with
    |true=>match Im S.h ty 0 (ps.toList.map fun p=>(p.1,ev S.t p.2)) with
     |some xs=>K (.own nid 0) (h (è (frzA S.h (ps.toList.map fun p=>(p.1,ev S.t p.2))) nid (.row ty 0 false xs)))
     |none=>none
    |false=>none
   |none=>none
  |none=>none
 |.load t a=>Kr P S.h t (ev S.t a) fun v=>K v S
 |.store t a v=>match eat with
  |true=>match ev S.t v with
   |.sub id g lo n=>match lkB S.h id with
    |.row ty g' false xs=>match g==g'&&decide (lo+n=xs.length) with
     |true=>qf P (è S.h id (.row ty (g+1) false (xs.drop lo))) t (ev S.t a) (.own id (g+1)) fun h'=>K .any (h h')
     |false=>none
    |_=>none
   |_=>none
  |false=>qf P S.h t (ev S.t a) (ev S.t v) fun h'=>K .any (h h')
 |.nilCheck x=>match ev S.t x with
  |.box id off=>K (.box id off) S
  |.eptr t e off=>K (.eptr t e off) S
  |.optr id g i off=>match lkB S.h id with
   |.row _ g' _ _=>match g==g' with
    |true=>K (.optr id g i off) S
    |false=>none
   |_=>none
  |_=>none
 |.binOp op t x y _=>match abw y with
  |true=>agz P op t (ev S.t x) fun v=>K v S
  |false=>ag7 P op t (ev S.t x) (ev S.t y) fun v=>K v S
 |.unOp op _ x=>match op,ev S.t x with
  |.not,.bool b=>K (.bool (!b)) S
  |.neg,.int k n=>arK k (0-n) fun v=>K v S
  |_,_=>none
 |.convert src dst x=>match P.underlying src,P.underlying dst,ev S.t x with
  |some _,some (.int k),.int _ n=>K (.int k (k.wrap n)) S
  |some (.slice e),some .string,v=>match u8T P e with
   |true=>AQ S.h v fun v=>K v S
   |false=>none
  |_,_,_=>none
 |.makeFunc fn first captured=>match (first.toList.map (ev S.t)).all isV0&&(captured.toList.map (ev S.t)).all isV0 with
  |true=>K (.fn fn (first.toList.map (ev S.t)) (captured.toList.map (ev S.t))) S
  |false=>none
 |.makeMap t r=>match r,P.underlying t with
  |none,some (.map kt et)=>match M9 P 8 kt,M9 P 8 et with
   |some k,some v=>match (k.size==P.cellsOf kt)&&(v.size==P.cellsOf et) with
    |true=>K (.omp nid) (h (è S.h nid (.map k v [])))
    |false=>none
   |_,_=>match strT P kt&&funcT P et with
    |true=>K (.ofn nid) (h (è S.h nid (.fns [])))
    |false=>none
  |_,_=>none
 |.makeSlice t l c=>match tR l c,ev S.t l,BF P t with
  |true,.int _ n,some e=>match M9 P 8 e with
   |some ty=>match B5 P e ty.size with
    |true=>match (((P.info? e).bind (·.zero)).map cv).bind į with
     |some zs=>match Ò ty zs with
      |some z=>match decide (0<=n)&&Ý n.toNat with
       |true=>K (.own nid 0) (h (è S.h nid (.row ty 0 false (List.replicate n.toNat z))))
       |false=>none
      |none=>none
     |none=>none
    |false=>none
   |none=>none
  |_,_,_=>none
 |.slice t x lo hi mx=>match mx,P.underlying t with
  |none,some (.slice e)=>match szP P e with
   |some sz=>oO sz S.h (ev S.t x) (lo.map (ev S.t)) (hi.map (ev S.t)) eat fun v h'=>K v (h h')
   |none=>none
  |none,some .string=>match ev S.t x with
   |.str s=>oJ s (lo.map (ev S.t)) (hi.map (ev S.t)) fun v=>K v S
   |_=>none
  |_,_=>none
 |.fieldAddr t x f=>match P.underlying t with
  |some (.struct fs)=>match fs[f]? with
   |some d=>match szP P d.type with
    |some (_+1)=>vO S.h (ev S.t x) d.offset fun v=>K v S
    |_=>none
   |none=>none
  |_=>none
 |.field t x f=>match P.underlying t,ev S.t x with
  |some (.struct fs),.agg cs=>match fs[f]? with
   |some d=>match ldP P d.type with
    |some (agg,n)=>match HU cs d.offset n with
     |some u=>match mkv agg u with
      |some v=>K v S
      |none=>none
     |none=>none
    |none=>none
   |none=>none
  |_,_=>none
 |.indexAddr t x i=>match P.underlying t with
  |some (.slice e)=>match szP P e with
   |some sz=>AE sz S.h (ev S.t x) (ev S.t i) fun v=>K v S
   |none=>none
  |some (.array n e)=>match ev S.t x,ev S.t i with
   |.box id off,.int _ j=>match szP P e with
    |some sz=>LU n 0 j fun q=>K (.box id (off+q*sz)) S
    |none=>none
   |_,_=>none
  |_=>none
 |.index t x i=>match P.underlying t,ev S.t x,ev S.t i with
  |some (.array n e),.agg cs,.int _ j=>LU n 0 j fun q=>match ldP P e with
   |some (agg,m)=>match HU cs (q*m) m with
    |some u=>match mkv agg u with
     |some v=>K v S
     |none=>none
    |none=>none
   |none=>none
  |some .string,.str s,.int _ j=>oK s j fun v=>K v S
  |_,_,_=>none
 |.lookup t m i ok=>match ev S.t m with
  |.ofn id=>rP P S.h t id (ev S.t i) ok fun v=>K v S
  |m=>pv P S.h t m (ev S.t i) ok fun v=>K v S
 |.mapUpdate t m i x=>match ev S.t m with
  |.ofn id=>Ů P S.h t id (ev S.t i) (ev S.t x) fun h'=>K .any (h h')
  |m=>ŭ P S.h t m (ev S.t i) (ev S.t x) fun h'=>K .any (h h')
 |.insert t m i x=>match ev S.t m with
  |.ofn id=>Ů P S.h t id (ev S.t i) (ev S.t x) fun h'=>K .any (h h')
  |m=>ŭ P S.h t m (ev S.t i) (ev S.t x) fun h'=>K .any (h h')
 |.range t x=>match P.underlying t,ev S.t x with
  |some .string,.str s=>K (.oit nid) (h (è S.h nid (.iter s 0)))
  |_,_=>none
 |.next x b=>match b with
  |true=>O9 S.h (ev S.t x) fun v h'=>K v (h h')
  |false=>none
 |.extract x i=>match ev S.t x with
  |.tup vs=>match vs[i]? with
   |some v=>K v S
   |none=>none
  |_=>none
 |.call ⟨.builtin b,args,tys⟩=>match b,args.toList,tys.toList with
  |.len,[x],t::_=>ac9 (P.underlying t) S.h (ev S.t x) fun v=>K v S
  |.append,[s,x],[t,t']=>match t==t' with
   |true=>match ev S.t x with
    |.dp id g=>P0 P S.h nid t (ev S.t s) id g fun v h'=>K v (h h')
    |y=>uU P S.h nid t (ev S.t s) y fun v h'=>K v (h h')
   |false=>match P.underlying t' with
    |some (.int .i64)=>BO P S.h nid t (ev S.t s) (ev S.t x) fun v h'=>K v (h h')
    |_=>none
  |.clear,[x],[t]=>match P.underlying t with
   |some _=>Ee P S.h t (ev S.t x) fun h'=>K (.tup []) (h h')
   |none=>none
  |.cap,[x],t::_=>match P.underlying t,ev S.t x with
   |some (.slice _),.nils=>K (.int .i64 0) S
   |_,_=>none
  |.min,x::xs,_=>jy false (ev S.t x) (xs.map (ev S.t)) fun v=>K v S
  |.max,x::xs,_=>jy true (ev S.t x) (xs.map (ev S.t)) fun v=>K v S
  |_,_,_=>none
 |_=>none
def o_pick (P:Program) (S:St) (nid:Nat) (eat:Bool) (c a b:Operand) (K:AV->St->w8 ρ):w8 ρ :=
 let h (h:w9 Blk):St:={t:=S.t,h:=h}
 match ev S.t c with
  |.bool x=>match x with
   |true=>K (ev S.t a) S
   |false=>K (ev S.t b) S
  |_=>none
def o_box (P:Program) (S:St) (nid:Nat) (eat:Bool) (a:TypeId) (x:Operand) (K:AV->St->w8 ρ):w8 ρ :=
 let h (h:w9 Blk):St:={t:=S.t,h:=h}
 match į (ev S.t x) with
  |some cs=>match eat with
   |true=>match M9 P 8 a with
    |some ty=>match Ò ty cs with
     |some y=>K (.eptr ty y 0) S
     |none=>none
    |none=>none
   |false=>K (.box nid 0) (h (è S.h nid (.cells cs)))
  |none=>none
def agk (P:Program) (S:St) (nid:Nat) (eat:Bool) (e:TypeId) (K:AV->St->w8 ρ):w8 ρ :=
 let h (h:w9 Blk):St:={t:=S.t,h:=h}
 match ((P.info? e).bind (·.zero)).map cv with
  |some z=>match į z with
   |some cs=>K (.box nid 0) (h (è S.h nid (.cells cs)))
   |none=>none
  |none=>none
def agi (P:Program) (S:St) (nid:Nat) (eat:Bool) (t:TypeId) (ps:Array (Nat×Operand)) (K:AV->St->w8 ρ):w8 ρ :=
 let h (h:w9 Blk):St:={t:=S.t,h:=h}
 match P.underlying t with
  |some (.struct fs)=>match fs.toList.all (fun f=>(P.info? f.type).isSome) with
   |true=>match ((P.info? t).bind (·.zero)).map cv with
    |some z=>match į z with
     |some zs=>match YM P fs (ps.toList.map fun p=>(p.1,ev S.t p.2)) zs with
      |some cs=>K (.agg cs) S
      |none=>none
     |none=>none
    |none=>none
   |false=>none
  |some (.array _ e)=>match szP P e,((P.info? t).bind (·.zero)).map cv with
   |some sz,some z=>match į z with
    |some zs=>match Fu sz (ps.toList.map fun p=>(p.1,ev S.t p.2)) zs with
     |some cs=>K (.agg cs) S
     |none=>none
    |none=>none
   |_,_=>none
  |_=>none
def Rv (P:Program) (S:St) (nid:Nat) (eat:Bool) (t:TypeId) (n:Nat) (ps:Array (Nat×Operand)) (K:AV->St->w8 ρ):w8 ρ :=
 let h (h:w9 Blk):St:={t:=S.t,h:=h}
 match eat with
  |true=>Tc P S.h nid n t (ps.toList.map fun p=>(p.1,ev S.t p.2)) fun v h'=>K v (h h')
  |false=>match BF P t with
  |some e=>match M9 P 8 e with
   |some ty=>match B5 P e ty.size&&(ps.toList.length==n&&decide (n*ty.size<=65536)) with
    |true=>match Im S.h ty 0 (ps.toList.map fun p=>(p.1,ev S.t p.2)) with
     |some xs=>K (.own nid 0) (h (è (frzA S.h (ps.toList.map fun p=>(p.1,ev S.t p.2))) nid (.row ty 0 false xs)))
     |none=>none
    |false=>none
   |none=>none
  |none=>none
def o_load (P:Program) (S:St) (nid:Nat) (eat:Bool) (t:TypeId) (a:Operand) (K:AV->St->w8 ρ):w8 ρ :=
 let h (h:w9 Blk):St:={t:=S.t,h:=h}
 Kr P S.h t (ev S.t a) fun v=>K v S
def agc (P:Program) (S:St) (nid:Nat) (eat:Bool) (t:TypeId) (a v:Operand) (K:AV->St->w8 ρ):w8 ρ :=
 let h (h:w9 Blk):St:={t:=S.t,h:=h}
 match eat with
  |true=>match ev S.t v with
   |.sub id g lo n=>match lkB S.h id with
    |.row ty g' false xs=>match g==g'&&decide (lo+n=xs.length) with
     |true=>qf P (è S.h id (.row ty (g+1) false (xs.drop lo))) t (ev S.t a) (.own id (g+1)) fun h'=>K .any (h h')
     |false=>none
    |_=>none
   |_=>none
  |false=>qf P S.h t (ev S.t a) (ev S.t v) fun h'=>K .any (h h')
def X8 (P:Program) (S:St) (nid:Nat) (eat:Bool) (x:Operand) (K:AV->St->w8 ρ):w8 ρ :=
 let h (h:w9 Blk):St:={t:=S.t,h:=h}
 match ev S.t x with
  |.box id off=>K (.box id off) S
  |.eptr t e off=>K (.eptr t e off) S
  |.optr id g i off=>match lkB S.h id with
   |.row _ g' _ _=>match g==g' with
    |true=>K (.optr id g i off) S
    |false=>none
   |_=>none
  |_=>none
def agj (P:Program) (S:St) (nid:Nat) (eat:Bool) (op:BinOp) (t:TypeId) (x y:Operand) (K:AV->St->w8 ρ):w8 ρ :=
 let h (h:w9 Blk):St:={t:=S.t,h:=h}
 match abw y with
  |true=>agz P op t (ev S.t x) fun v=>K v S
  |false=>ag7 P op t (ev S.t x) (ev S.t y) fun v=>K v S
def o_unOp (P:Program) (S:St) (nid:Nat) (eat:Bool) (op:UnOp) (x:Operand) (K:AV->St->w8 ρ):w8 ρ :=
 let h (h:w9 Blk):St:={t:=S.t,h:=h}
 match op,ev S.t x with
  |.not,.bool b=>K (.bool (!b)) S
  |.neg,.int k n=>arK k (0-n) fun v=>K v S
  |_,_=>none
def aar (P:Program) (S:St) (nid:Nat) (eat:Bool) (a b:TypeId) (x:Operand) (K:AV->St->w8 ρ):w8 ρ :=
 let h (h:w9 Blk):St:={t:=S.t,h:=h}
 match P.underlying a,P.underlying b,ev S.t x with
  |some _,some (.int k),.int _ n=>K (.int k (k.wrap n)) S
  |some (.slice e),some .string,v=>match u8T P e with
   |true=>AQ S.h v fun v=>K v S
   |false=>none
  |_,_,_=>none
def X9 (P:Program) (S:St) (nid:Nat) (eat:Bool) (fn:Fn) (first a:Array Operand) (K:AV->St->w8 ρ):w8 ρ :=
 let h (h:w9 Blk):St:={t:=S.t,h:=h}
 match (first.toList.map (ev S.t)).all isV0&&(a.toList.map (ev S.t)).all isV0 with
  |true=>K (.fn fn (first.toList.map (ev S.t)) (a.toList.map (ev S.t))) S
  |false=>none
def aap (P:Program) (S:St) (nid:Nat) (eat:Bool) (t:TypeId) (r:w8 Operand) (K:AV->St->w8 ρ):w8 ρ :=
 let h (h:w9 Blk):St:={t:=S.t,h:=h}
 match r,P.underlying t with
  |none,some (.map kt et)=>match M9 P 8 kt,M9 P 8 et with
   |some k,some v=>match (k.size==P.cellsOf kt)&&(v.size==P.cellsOf et) with
    |true=>K (.omp nid) (h (è S.h nid (.map k v [])))
    |false=>none
   |_,_=>match strT P kt&&funcT P et with
    |true=>K (.ofn nid) (h (è S.h nid (.fns [])))
    |false=>none
  |_,_=>none
def Un (P:Program) (S:St) (nid:Nat) (eat:Bool) (t:TypeId) (l c:Operand) (K:AV->St->w8 ρ):w8 ρ :=
 let h (h:w9 Blk):St:={t:=S.t,h:=h}
 match tR l c,ev S.t l,BF P t with
  |true,.int _ n,some e=>match M9 P 8 e with
   |some ty=>match B5 P e ty.size with
    |true=>match (((P.info? e).bind (·.zero)).map cv).bind į with
     |some zs=>match Ò ty zs with
      |some z=>match decide (0<=n)&&Ý n.toNat with
       |true=>K (.own nid 0) (h (è S.h nid (.row ty 0 false (List.replicate n.toNat z))))
       |false=>none
      |none=>none
     |none=>none
    |false=>none
   |none=>none
  |_,_,_=>none
def agd (P:Program) (S:St) (nid:Nat) (eat:Bool) (t:TypeId) (x:Operand) (lo hi a:w8 Operand) (K:AV->St->w8 ρ):w8 ρ :=
 let h (h:w9 Blk):St:={t:=S.t,h:=h}
 match a,P.underlying t with
  |none,some (.slice e)=>match szP P e with
   |some sz=>oO sz S.h (ev S.t x) (lo.map (ev S.t)) (hi.map (ev S.t)) eat fun v h'=>K v (h h')
   |none=>none
  |none,some .string=>match ev S.t x with
   |.str s=>oJ s (lo.map (ev S.t)) (hi.map (ev S.t)) fun v=>K v S
   |_=>none
  |_,_=>none
def Up (P:Program) (S:St) (nid:Nat) (eat:Bool) (t:TypeId) (x:Operand) (f:Nat) (K:AV->St->w8 ρ):w8 ρ :=
 let h (h:w9 Blk):St:={t:=S.t,h:=h}
 match P.underlying t with
  |some (.struct fs)=>match fs[f]? with
   |some a=>match szP P a.type with
    |some (_+1)=>vO S.h (ev S.t x) a.offset fun v=>K v S
    |_=>none
   |none=>none
  |_=>none
def agh (P:Program) (S:St) (nid:Nat) (eat:Bool) (t:TypeId) (x:Operand) (f:Nat) (K:AV->St->w8 ρ):w8 ρ :=
 let h (h:w9 Blk):St:={t:=S.t,h:=h}
 match P.underlying t,ev S.t x with
  |some (.struct fs),.agg cs=>match fs[f]? with
   |some a=>match ldP P a.type with
    |some (agg,n)=>match HU cs a.offset n with
     |some b=>match mkv agg b with
      |some v=>K v S
      |none=>none
     |none=>none
    |none=>none
   |none=>none
  |_,_=>none
def Uo (P:Program) (S:St) (nid:Nat) (eat:Bool) (t:TypeId) (x i:Operand) (K:AV->St->w8 ρ):w8 ρ :=
 let h (h:w9 Blk):St:={t:=S.t,h:=h}
 match P.underlying t with
  |some (.slice e)=>match szP P e with
   |some sz=>AE sz S.h (ev S.t x) (ev S.t i) fun v=>K v S
   |none=>none
  |some (.array n e)=>match ev S.t x,ev S.t i with
   |.box id off,.int _ j=>match szP P e with
    |some sz=>LU n 0 j fun q=>K (.box id (off+q*sz)) S
    |none=>none
   |_,_=>none
  |_=>none
def agf (P:Program) (S:St) (nid:Nat) (eat:Bool) (t:TypeId) (x i:Operand) (K:AV->St->w8 ρ):w8 ρ :=
 let h (h:w9 Blk):St:={t:=S.t,h:=h}
 match P.underlying t,ev S.t x,ev S.t i with
  |some (.array n e),.agg cs,.int _ j=>LU n 0 j fun q=>match ldP P e with
   |some (agg,m)=>match HU cs (q*m) m with
    |some a=>match mkv agg a with
     |some v=>K v S
     |none=>none
    |none=>none
   |none=>none
  |some .string,.str s,.int _ j=>oK s j fun v=>K v S
  |_,_,_=>none
def adK (P:Program) (S:St) (nid:Nat) (eat:Bool) (t:TypeId) (m i:Operand) (ok:Bool) (K:AV->St->w8 ρ):w8 ρ :=
 let h (h:w9 Blk):St:={t:=S.t,h:=h}
 match ev S.t m with
  |.ofn id=>rP P S.h t id (ev S.t i) ok fun v=>K v S
  |m=>pv P S.h t m (ev S.t i) ok fun v=>K v S
def Um (P:Program) (S:St) (nid:Nat) (eat:Bool) (t:TypeId) (m i x:Operand) (K:AV->St->w8 ρ):w8 ρ :=
 let h (h:w9 Blk):St:={t:=S.t,h:=h}
 match ev S.t m with
  |.ofn id=>Ů P S.h t id (ev S.t i) (ev S.t x) fun h'=>K .any (h h')
  |m=>ŭ P S.h t m (ev S.t i) (ev S.t x) fun h'=>K .any (h h')
def adL (P:Program) (S:St) (nid:Nat) (eat:Bool) (t:TypeId) (m i x:Operand) (K:AV->St->w8 ρ):w8 ρ :=
 let h (h:w9 Blk):St:={t:=S.t,h:=h}
 match ev S.t m with
  |.ofn id=>Ů P S.h t id (ev S.t i) (ev S.t x) fun h'=>K .any (h h')
  |m=>ŭ P S.h t m (ev S.t i) (ev S.t x) fun h'=>K .any (h h')
def age (P:Program) (S:St) (nid:Nat) (eat:Bool) (t:TypeId) (x:Operand) (K:AV->St->w8 ρ):w8 ρ :=
 let h (h:w9 Blk):St:={t:=S.t,h:=h}
 match P.underlying t,ev S.t x with
  |some .string,.str s=>K (.oit nid) (h (è S.h nid (.iter s 0)))
  |_,_=>none
def o_next (P:Program) (S:St) (nid:Nat) (eat:Bool) (x:Operand) (b:Bool) (K:AV->St->w8 ρ):w8 ρ :=
 let h (h:w9 Blk):St:={t:=S.t,h:=h}
 match b with
  |true=>O9 S.h (ev S.t x) fun v h'=>K v (h h')
  |false=>none
def aaq (P:Program) (S:St) (nid:Nat) (eat:Bool) (x:Operand) (i:Nat) (K:AV->St->w8 ρ):w8 ρ :=
 let h (h:w9 Blk):St:={t:=S.t,h:=h}
 match ev S.t x with
  |.tup vs=>match vs[i]? with
   |some v=>K v S
   |none=>none
  |_=>none
def o_call (P:Program) (S:St) (nid:Nat) (eat:Bool) (b:Builtin) (a:Array Operand) (tys:Array TypeId) (K:AV->St->w8 ρ):w8 ρ :=
 let h (h:w9 Blk):St:={t:=S.t,h:=h}
 match b,a.toList,tys.toList with
  |.len,[x],t::_=>ac9 (P.underlying t) S.h (ev S.t x) fun v=>K v S
  |.append,[s,x],[t,t']=>match t==t' with
   |true=>match ev S.t x with
    |.dp id g=>P0 P S.h nid t (ev S.t s) id g fun v h'=>K v (h h')
    |y=>uU P S.h nid t (ev S.t s) y fun v h'=>K v (h h')
   |false=>match P.underlying t' with
    |some (.int .i64)=>BO P S.h nid t (ev S.t s) (ev S.t x) fun v h'=>K v (h h')
    |_=>none
  |.clear,[x],[t]=>match P.underlying t with
   |some _=>Ee P S.h t (ev S.t x) fun h'=>K (.tup []) (h h')
   |none=>none
  |.cap,[x],t::_=>match P.underlying t,ev S.t x with
   |some (.slice _),.nils=>K (.int .i64 0) S
   |_,_=>none
  |.min,x::xs,_=>jy false (ev S.t x) (xs.map (ev S.t)) fun v=>K v S
  |.max,x::xs,_=>jy true (ev S.t x) (xs.map (ev S.t)) fun v=>K v S
  |_,_,_=>none
structure OpB (ρ:Type) where
 run:Program->St->Nat->Bool->(AV->St->w8 ρ)->w8 ρ
def opG (o:Op):OpB ρ :=
 match o with
 |.move x=>⟨fun P S nid eat K=>K (ev S.t x) S⟩
 |.assign x=>⟨fun P S nid eat K=>K (ev S.t x) S⟩
 |.pick c a b=>⟨fun P S nid eat K=>o_pick P S nid eat c a b K⟩
 |.box el x=>⟨fun P S nid eat K=>o_box P S nid eat el x K⟩
 |.alloc e=>⟨fun P S nid eat K=>agk P S nid eat e K⟩
 |.build t ps=>⟨fun P S nid eat K=>agi P S nid eat t ps K⟩
 |.buildSlice t n ps=>⟨fun P S nid eat K=>Rv P S nid eat t n ps K⟩
 |.load t a=>⟨fun P S nid eat K=>o_load P S nid eat t a K⟩
 |.store t a v=>⟨fun P S nid eat K=>agc P S nid eat t a v K⟩
 |.nilCheck x=>⟨fun P S nid eat K=>X8 P S nid eat x K⟩
 |.binOp op t x y _=>⟨fun P S nid eat K=>agj P S nid eat op t x y K⟩
 |.unOp op _ x=>⟨fun P S nid eat K=>o_unOp P S nid eat op x K⟩
 |.convert src dst x=>⟨fun P S nid eat K=>aar P S nid eat src dst x K⟩
 |.makeFunc fn first captured=>⟨fun P S nid eat K=>X9 P S nid eat fn first captured K⟩
 |.makeMap t r=>⟨fun P S nid eat K=>aap P S nid eat t r K⟩
 |.makeSlice t l c=>⟨fun P S nid eat K=>Un P S nid eat t l c K⟩
 |.slice t x lo hi mx=>⟨fun P S nid eat K=>agd P S nid eat t x lo hi mx K⟩
 |.fieldAddr t x f=>⟨fun P S nid eat K=>Up P S nid eat t x f K⟩
 |.field t x f=>⟨fun P S nid eat K=>agh P S nid eat t x f K⟩
 |.indexAddr t x i=>⟨fun P S nid eat K=>Uo P S nid eat t x i K⟩
 |.index t x i=>⟨fun P S nid eat K=>agf P S nid eat t x i K⟩
 |.lookup t m i ok=>⟨fun P S nid eat K=>adK P S nid eat t m i ok K⟩
 |.mapUpdate t m i x=>⟨fun P S nid eat K=>Um P S nid eat t m i x K⟩
 |.insert t m i x=>⟨fun P S nid eat K=>adL P S nid eat t m i x K⟩
 |.range t x=>⟨fun P S nid eat K=>age P S nid eat t x K⟩
 |.next x b=>⟨fun P S nid eat K=>o_next P S nid eat x b K⟩
 |.extract x i=>⟨fun P S nid eat K=>aaq P S nid eat x i K⟩
 |.call ⟨.builtin b,args,tys⟩=>⟨fun P S nid eat K=>o_call P S nid eat b args tys K⟩
 |_=>⟨fun P S nid eat K=>none⟩
def opF (P:Program) (S:St) (nid:Nat) (eat:Bool) (o:Op) (K:AV->St->w8 ρ):w8 ρ:=(opG o).run P S nid eat K
def F0 (P:Program) (S:St) (nid:Nat) (eat:Bool) (o:Op) (K:AV->St->w8 ρ):opF P S nid eat o K=opK P S nid eat o K:=by
 cases o with
 |call c=>obtain⟨a,b,tys⟩:=c; cases a<;>rfl
 |_=>rfl
end
end Go.Am
end

noncomputable section
namespace Go.Am
def ć (clone:Nat->Bool):Op->Bool
 |.box _ _=>true
 |.alloc _=>true
 |.buildSlice _ _ _=>true
 |.makeMap _ _=>true
 |.makeSlice _ _ _=>true
 |.range _ _=>true
 |.call ⟨.builtin .append,_,_⟩=>true
 |.call ⟨.value (.func f),_,_⟩=>clone f
 |_=>false
def tys:Ty->w9 Ty->Ty
 |t,[]=>t
 |t,u::l=>.pair t (tys u l)
def tyL:w9 Ty->Ty
 |[]=>.unit
 |t::l=>tys t l
structure đ where
 ts:w9 Ty
 rs:w9 Ty
 F:Val (tyL ts)->w8 (Val (tyL rs))
structure YFun where
 ty:Ty
 all:w9 (Val ty)
 stop:Bool
structure Env (ρ:Type) where
 P:Program
 eat:Nat->Nat->Bool
 clone:Nat->Bool
 sort:Nat->Bool
 compact:Nat->Bool
 inl:Nat->Bool
 fz:Nat->Bool
 pure:Nat->w8 đ
 loops:w9 Nat->Nat->Nat->Nat->St->(Exit->St->w8 ρ)->w8 ρ
 joins:w9 Nat->Nat->Nat->Nat->w8 (((St->w8 ρ)->w8 ρ)->(St->w8 ρ)->w8 ρ):=fun _ _ _ _=>none
 hint:Nat->w8 Nat:=fun _=>none
 stop:w9 Nat->Nat->Bool:=fun _ _=>false
 yld:w8 YFun:=none
 yfast:Bool:=false
 ranges:w9 Nat->Nat->Nat->Nat->AV->St->(Exit->St->w8 ρ)->w8 ρ:=fun _ _ _ _ _ _ _=>none
 ext:Nat->w8 (w9 Blk->w9 AV->(AV->w9 Blk->w8 ρ)->w8 ρ):=fun _=>none
 wp:(Program->w8 ρ)->w8 ρ:=fun f=>f P
 wp_eq:∀f,wp f=f P:=by intro f; rfl
 lazy:Bool:=false
section
variable {ρ:Type}
def cls (E:Env ρ):Op->Nat
 |.load _ _=>1
 |.indexAddr _ _ _=>1
 |.slice _ _ _ _ _=>1
 |.lookup _ _ _ _=>1
 |.convert _ _ _=>1
 |.buildSlice _ _ _=>2
 |.nilCheck _=>1
 |.fieldAddr _ _ _=>1
 |.box _ _=>1
 |.alloc _=>1
 |.makeMap _ _=>1
 |.makeSlice _ _ _=>1
 |.store _ _ _=>2
 |.mapUpdate _ _ _ _=>2
 |.range _ _=>1
 |.next _ _=>2
 |.insert _ _ _ _=>2
 |.call ⟨.builtin .append,_,_⟩=>2
 |.call ⟨.builtin .clear,_,_⟩=>2
 |.call ⟨.builtin _,_,_⟩=>1
 |.call ⟨.value (.func f),_,_⟩=>if E.clone f then 1 else if (E.pure f).isSome then(if E.fz f then 2 else 1) else if E.sort f||E.compact f then 2 else 3
 |.call ⟨.value (.tmp t),_,_⟩=>match E.hint t with
  |some g=>if (E.pure g).isSome&&!E.fz g then 1 else 3
  |none=>3
 |.call _=>3
 |_=>0
def Nb:w9 Operand->w9 Nat
 |[]=>[]
 |.tmp t::l=>t::Nb l
 |_::l=>Nb l
def og (os:w9 Oper) (j:Nat):Nat :=
 match os[j]? with
 |some o=>match o.dst with
  |some d=>d
  |none=>0
 |none=>0
def ξ (os:w9 Oper) (o:Oper):w9 Nat :=
 (match o.guard with|some (j,_)=>[og os j]|none=>[])++Nb o.op.operands.toList
def adV:w9 Nat->w8 Nat->Bool
 |l,some d=>l.contains d
 |_,none=>false
def Oa:Op->Bool
 |.call ⟨.value _,_,_⟩=>true
 |_=>false
def aex (E:Env ρ) (os:w9 Oper) (a b:Oper):Bool :=
 (Oa a.op&&Oa b.op)||(cls E a.op==3||(cls E b.op==3&&Nat.ble 1 (cls E a.op))) ||
 adV (ξ os b) a.dst||adV (ξ os a) b.dst||(match a.dst,b.dst with|some x,some y=>x==y|_,_=>false)
def AK (E:Env ρ) (a b:Op):Bool:=(cls E a==2&&Nat.ble 1 (cls E b))||(Nat.ble 1 (cls E a)&&cls E b==2)
def Ŭ:w9 Oper->w9 Nat->w9 Nat
 |[],acc=>acc
 |o::os,acc=>Ŭ os (acc++[o.after.toList.foldl (fun s e=>if Region.binds .any e then s ||| 2 ^ e.on ||| acc.getD e.on 0 else s) 0])
def yy (E:Env ρ) (all:w9 Oper) (c:w9 Nat):w9 Oper->Nat->Bool
 |[],_=>true
 |b::bs,j=>((List.range j).all fun i=>match all[i]? with
    |some a=>!aex E all a b||(c.getD j 0).testBit i
    |none=>false)&&yy E all c bs (j+1)
def Tx:w9 Oper->Nat->Bool
 |[],_=>true
 |o::os,j=>o.after.toList.all (fun e=>!Region.binds .any e||decide (e.on<j))&&Tx os (j+1)
def abW (E:Env ρ) (a:w9 Oper):Bool:=Tx a 0&&yy E a (Ŭ a []) a 0
def õ (t:w9 AV) (d:w8 Nat) (v:AV):w9 AV :=
 match d with
 |none=>t
 |some d=>upd t d v
def vw (P:Program) (fn:Nat) (fz:Bool) (S:St) (nid:Nat) (x:AV) (K:AV->St->w8 ρ):w8 ρ :=
 match P.funcs[fn]? with
 |some f=>match (f.params[0]?).bind (BF P) with
  |some e=>match M9 P 8 e with
   |some ty=>match B5 P e ty.size with
    |true=>match Ò (.slice ty) [ò S.h x] with
     |some ys=>match Ý ys.length with
      |true=>match fz with
       |true=>K (.slc ty ys) S
       |false=>K (.own nid 0) {t:=S.t,h:=è S.h nid (.row ty 0 false ys)}
      |false=>none
     |none=>none
    |false=>none
   |none=>none
  |none=>none
 |none=>none
def BN:AV->Bool
 |.own _ _=>true
 |.sub _ _ _ _=>true
 |.omp _=>true
 |.box _ _=>true
 |.optr _ _ _ _=>true
 |.dp _ _=>true
 |.dq _ _ _=>true
 |.dr _ _ _=>true
 |.de _ _ _ _=>true
 |.ofn _=>true
 |.oit _=>true
 |_=>false
def LK:AV->Bool
 |.agg cs=>cs.any BN
 |v=>BN v
def aax:AV->Bool
 |.omp _=>false
 |.box _ _=>false
 |.optr _ _ _ _=>false
 |.dp _ _=>false
 |.dq _ _ _=>false
 |.dr _ _ _=>false
 |.de _ _ _ _=>false
 |.ofn _=>false
 |.oit _=>false
 |_=>true
def aay:AV->Bool
 |.agg cs=>cs.all aax
 |v=>aax v
def adc (h:w9 Blk) (t:Ty) (a:AV):w8 (Val t) :=
 match t with
 |.ptr u=>match a with
  |.box id 0=>match lkB h id with
   |.cells cs=>Ò u (cs.map (ò h))
   |_=>none
  |.eptr t' x 0=>match decEq t' u with
   |isTrue e=>some ((qd (F:=Val) e x:Val u))
   |isFalse _=>none
  |_=>none
 |t=>match a with
  |.dp id g=>match lkB h id with
   |.deep k g' xss=>match g==g' with
    |true=>match decEq (Ty.slice (.slice (.int k))) t with
     |isTrue e=>some (qd (F:=Val) e xss)
     |isFalse _=>none
    |false=>none
   |_=>none
  |a=>match Ob a==t.isAgg with
   |true=>match į (VF h a) with
    |some cs=>Ò t cs
    |none=>none
   |false=>none
def abS:(l:w9 Ty)->(t:Ty)->Val (tys t l)->w9 AV
 |[],t,x=>[enc t x]
 |u::l,t,x=>enc t (x:Val t×Val (tys u l)).1::abS l u (x:Val t×Val (tys u l)).2
def UX:(l:w9 Ty)->Val (tyL l)->w9 AV
 |[],_=>[]
 |t::l,x=>abS l t x
def Qf (h:w9 Blk):(l:w9 Ty)->(t:Ty)->w9 AV->w8 (Val (tys t l))
 |[],t,as=>match as with
  |[]=>none
  |a::as=>match as with
   |[]=>adc h t a
   |_::_=>none
 |u::l,t,as=>match as with
  |[]=>none
  |a::as=>match adc h t a with
   |some x=>match Qf h l u as with
    |some y=>some ((x,y):Val t×Val (tys u l))
    |none=>none
   |none=>none
def BK (h:w9 Blk) (l:w9 Ty) (as:w9 AV):w8 (Val (tyL l)) :=
 match l with
 |[]=>match as with
  |[]=>some ()
  |_::_=>none
 |t::l=>Qf h l t as
def af3 (l:w9 Ty) (h:w9 Blk) (a:AV):w8 (Val (tyL l)) :=
 match l with
 |[]=>none
 |[t]=>adc h t a
 |t::u::l=>match a with
  |.tup as=>Qf h (u::l) t as
  |_=>none
def TP:(l:w9 Ty)->Val (tyL l)->AV
 |[],_=>.tup []
 |[t],x=>enc t x
 |t::u::l,x=>.tup (abS (u::l) t x)
def Ã {α:Type} (x:w8 α) (f:α->w8 ρ):w8 ρ :=
 match x with
 |some y=>f y
 |none=>none
def lD:AV->w9 AV
 |.agg cs=>cs
 |v=>[v]
def OY (c:Bool) (p:đ) (h:w9 Blk) (b:w9 AV) (K:AV->w9 Blk->w8 ρ):w8 ρ :=
 match BK h p.ts b with
 |some x=>Ã (p.F x) fun y=>match Iv (TP p.rs y) with
  |true=>K (TP p.rs y) h
  |false=>match b.all (fun a=>!LK a) with
   |true=>K (TP p.rs y) h
   |false=>match c||!b.all aay with
    |true=>none
    |false=>K (TP p.rs y) (yV h (b.flatMap lD))
 |none=>none
def adN:AV->w8 AV
 |.tup _=>none
 |v=>some v
def T9 (P:Program) (h:w9 Blk) (t:w9 AV):ResultVar->w8 AV
 |.tmp i=>adN (lk t i)
 |.cell a ty=>match Kr P h ty (lk t a) some with
  |some v=>adN v
  |none=>none
def Ip (P:Program) (h:w9 Blk) (t:w9 AV):w9 ResultVar->w8 (w9 AV)
 |[]=>some []
 |r::rs=>match T9 P h t r with
  |some v=>match Ip P h t rs with
   |some vs=>some (v::vs)
   |none=>none
  |none=>none
def mu (P:Program) (fn:Func) (S:St):w8 AV :=
 match Ip P S.h S.t fn.results.toList with
 |some [v]=>some v
 |some vs=>some (.tup vs)
 |none=>none
def Zg (a:Int):w9 Int->w9 Int
 |[]=>[a]
 |b::t=>if a<=b then a::b::t else b::Zg a t
def jK:w9 Int->w9 Int
 |[]=>[]
 |a::t=>Zg a (jK t)
def Ex (l:w9 Int):w9 Int:=jK l
def OP (h:w9 Blk) (x:AV) (K:AV->w9 Blk->w8 ρ):w8 ρ :=
 match x with
 |.own id g=>match lkB h id with
  |.row t g' false xs=>match g==g' with
   |true=>match decEq t (.int .i64) with
    |isTrue e=>match Ý xs.length with
     |true=>K (.tup []) (è h id (.row (.int .i64) g' false (Ex (qd (F:=fun t=>w9 (Val t)) e xs))))
     |false=>none
    |isFalse _=>none
   |false=>none
  |_=>none
 |.nils=>K (.tup []) h
 |_=>none
def yA (l:w9 Int):w9 Int:=Go.Lib.compact l
def om (h:w9 Blk) (x:AV) (K:AV->w9 Blk->w8 ρ):w8 ρ :=
 match x with
 |.own id g=>match lkB h id with
  |.row t g' false xs=>match g==g' with
   |true=>match decEq t (.int .i64) with
    |isTrue e=>match Ý xs.length with
     |true=>K (.own id (g+1)) (è h id (.row (.int .i64) (g+1) false (yA (qd (F:=fun t=>w9 (Val t)) e xs))))
     |false=>none
    |isFalse _=>none
   |false=>none
  |_=>none
 |.nils=>K .nils h
 |_=>none
def UO:Operand->Bool
 |.func _=>true
 |_=>false
def ď:AV->w9 Nat
 |.own id _=>[id]
 |.sub id _ _ _=>[id]
 |.omp id=>[id]
 |.box id _=>[id]
 |.optr id _ _ _=>[id]
 |.dp id _=>[id]
 |.dq id _ _=>[id]
 |.dr id _ _=>[id]
 |.de id _ _ _=>[id]
 |.ofn id=>[id]
 |.oit id=>[id]
 |_=>[]
def Z2:AV->w9 Nat
 |.agg cs=>cs.flatMap ď
 |v=>ď v
def refs1:AV->w9 Nat
 |.agg cs=>cs.flatMap ď
 |.fn _ a b=>a.flatMap Z2++b.flatMap Z2
 |v=>ď v
def agl:AV->Bool
 |.fn _ _ _=>false
 |_=>true
def Ll:Blk->w9 AV
 |.cells cs=>cs
 |_=>[]
def refs2 (h:w9 Blk) (v:AV):w9 Nat:=refs1 v++(refs1 v).flatMap fun id=>(Ll (lkB h id)).flatMap ď
def abx:Blk->Bool
 |.dead=>true
 |_=>false
def Oq (E:Env ρ) (t:w9 AV) (o:Op):Bool :=
 match o with
 |.call ⟨.value (.tmp s),_,_⟩=>match E.hint s with
  |none=>true
  |some g=>match ev t (.tmp s) with
   |.fn (.func g') a b=>Nat.beq g' g&&(a.all agl&&b.all agl)
   |_=>false
 |_=>true
def lC (E:Env ρ) (S:St) (o:Op):Bool :=
 match Nat.ble 1 (cls E o) with
 |true=>(o.operands.toList.all fun x=>(refs2 S.h (ev S.t x)).all fun id=>!abx (lkB S.h id))&&Oq E S.t o
 |false=>true
def La (E:Env ρ) (a:Bool) (fid:Nat) (o:Oper):Bool :=
 match o.op with
 |.store _ _ _=>E.eat fid 0
 |_=>!a&&E.eat fid (o.dst.getD 0)
def agN {α:Type} (f:α->α->Bool):w9 α->w9 α->Bool
 |[],[]=>true
 |a::l,b::m=>match f a b with
  |true=>agN f l m
  |false=>false
 |_,_=>false
def eqV:(t:Ty)->Val t->Val t->Bool
 |.unit,_,_=>true
 |.bool,a,b=>match a,b with
  |true,true=>true
  |false,false=>true
  |_,_=>false
 |.int _,a,b=>decide (a=b)
 |.str,a,b=>decide (@Eq ByteArray a b)
 |.slice t,a,b=>agN (eqV t) a b
 |.map s t,a,b=>agN (fun x y=>match eqV s x.1 y.1 with
  |true=>eqV t x.2 y.2
  |false=>false) a b
 |.ptr t,a,b=>eqV t a b
 |.pair s t,a,b=>match eqV s a.1 b.1 with
  |true=>eqV t a.2 b.2
  |false=>false
def UW {α:Type} {f:α->α->Bool} (c:∀a b,f a b=true->a=b):∀{l m:w9 α},agN f l m=true->l=m
 |[],[],_=>rfl
 |a::l,b::m,h=>by
  unfold agN at h
  split at h
  ·rename_i d;rw[c a b d,UW c h]
  ·cases h
 |[],_::_,h=>by cases h
 |_::_,[],h=>by cases h
def GB:∀(t:Ty) (a b:Val t),eqV t a b=true->a=b
 |.unit,_,_,_=>rfl
 |.bool,a,b,h=>by cases a<;>cases b<;>first|rfl|cases h
 |.int _,a,b,h=>of_decide_eq_true h
 |.str,a,b,h=>of_decide_eq_true h
 |.slice t,a,b,h=>UW (GB t) h
 |.map s t,a,b,h=>UW (fun x y h=>by
    split at h
    ·rename_i c;exact Prod.ext (GB s _ _ c) (GB t _ _ h)
    ·cases h) h
 |.ptr t,a,b,h=>GB t a b h
 |.pair s t,a,b,h=>by
  unfold eqV at h
  split at h
  ·rename_i c;exact Prod.ext (GB s _ _ c) (GB t _ _ h)
  ·cases h
def K8 {α:Type} {f:α->α->Bool} (b:∀a,f a a=true):∀l:w9 α,agN f l l=true
 |[]=>rfl
 |a::l=>by simp only[agN,b a]; exact K8 b l
def uM:∀(t:Ty) (a:Val t),eqV t a a=true
 |.unit,_=>rfl
 |.bool,a=>by cases a<;>rfl
 |.int _,a=>decide_eq_true rfl
 |.str,a=>decide_eq_true rfl
 |.slice t,a=>K8 (uM t) a
 |.map s t,a=>K8 (fun x=>by simp only[uM s,uM t]) a
 |.ptr t,a=>uM t a
 |.pair s t,a=>by unfold eqV; simp only[uM s,uM t]
def preV (t:Ty):w9 (Val t)->w9 (Val t)->Bool
 |[],_=>true
 |_::_,[]=>false
 |x::l,y::m=>match eqV t x y with
  |true=>preV t l m
  |false=>false
def VS {t:Ty}:∀{l m:w9 (Val t)},preV t l m=true->l <+: m
 |[],m,_=>List.nil_prefix
 |_::_,[],h=>by cases h
 |x::l,y::m,h=>by
  unfold preV at h
  split at h
  ·rename_i a;rw[GB t _ _ a];exact(List.prefix_cons_inj y).2 (VS h)
  ·cases h
def yg {α:Type} {ρ:Type} (all l:w9 α) (k:w8 ρ):w8 ρ:=open Classical in if l <+: all then k else none
def ygf {t:Ty} {ρ:Type} (a:Bool) (all l:w9 (Val t)) (k:w8 ρ):w8 ρ:=match a with
 |false=>yg all l k
 |true=>match preV t l all with
  |true=>k
  |false=>none
def ygo {α:Type} (stop:Bool) (all l:w9 α):Bool:=match stop with
 |false=>true
 |true=>open Classical in decide (l≠all)
def yldK (E:Env ρ) (h:w9 Blk) (x:AV) (K:AV->w9 Blk->w8 ρ):w8 ρ :=
 match E.yld with
 |some y=>match y.ty.isAgg with
  |true=>none
  |false=>match IH x with
   |true=>match Ò y.ty [ò h x] with
    |some v=>match lkB (pO h x) 0 with
     |.acc t xs=>match decEq t y.ty with
      |isTrue e=>ygf E.yfast y.all (qd (F:=fun t=>w9 (Val t)) e xs++[v]) (K (.bool (ygo y.stop y.all (qd (F:=fun t=>w9 (Val t)) e xs++[v]))) (è (pO h x) 0 (.acc y.ty (qd (F:=fun t=>w9 (Val t)) e xs++[v]))))
      |isFalse _=>none
     |_=>none
    |none=>none
   |false=>none
 |none=>none
def jE (E:Env ρ) (call:w9 Nat->Bool->Nat->w9 AV->w9 Blk->(AV->w9 Blk->w8 ρ)->w8 ρ) (fid:Nat) (path:w9 Nat) (a:Bool) (S:St) (nid:Nat) (o:Oper) (K:AV->St->w8 ρ):w8 ρ :=
 match a&&!lC E S o.op with
 |true=>none
 |false=>E.wp fun P=>match o.op with
  |.call ⟨.value f,args,_⟩=>match ev S.t f with
   |.fn (.func g) first caps=>match E.clone g&&UO f with
    |true=>match args.toList with
     |[x]=>vw P g (E.eat fid (o.dst.getD 0)) S nid (ev S.t x) K
     |_=>none
    |false=>call path a g (first++(args.toList.map (ev S.t)++caps)) S.h fun v h=>K v {t:=S.t,h:=h}
   |.yld=>match args.toList with
    |[x]=>yldK E S.h (ev S.t x) fun v h=>K v {t:=S.t,h:=h}
    |_=>none
   |_=>none
  |op=>opF P S nid (La E a fid o) op K
def iI (E:Env ρ) (call:w9 Nat->Bool->Nat->w9 AV->w9 Blk->(AV->w9 Blk->w8 ρ)->w8 ρ) (fid:Nat) (path:w9 Nat) (a:Bool) (S:St) (nid:Nat) (o:Oper) (K:AV->St->w8 ρ):jE E call fid path a S nid o K=(
 match a&&!lC E S o.op with
 |true=>none
 |false=>match o.op with
  |.call ⟨.value f,args,_⟩=>match ev S.t f with
   |.fn (.func g) first caps=>match E.clone g&&UO f with
    |true=>match args.toList with
     |[x]=>vw E.P g (E.eat fid (o.dst.getD 0)) S nid (ev S.t x) K
     |_=>none
    |false=>call path a g (first++(args.toList.map (ev S.t)++caps)) S.h fun v h=>K v {t:=S.t,h:=h}
   |.yld=>match args.toList with
    |[x]=>yldK E S.h (ev S.t x) fun v h=>K v {t:=S.t,h:=h}
    |_=>none
   |_=>none
  |op=>opF E.P S nid (La E a fid o) op K):=by unfold jE; simp only[E.wp_eq]
def X4 (E:Env ρ) (call:w9 Nat->Bool->Nat->w9 AV->w9 Blk->(AV->w9 Blk->w8 ρ)->w8 ρ) (fid:Nat) (path:w9 Nat) (a:Bool) (all:w9 Oper):w9 Oper->Nat->Nat->St->(St->w8 ρ)->w8 ρ
 |[],_,_,S,K=>K S
 |o::os,i,nid,S,K =>
  let nid':=bif ć E.clone o.op then nid+1 else nid
  match o.guard with
  |none=>jE E call fid (path++[i]) a S nid o fun v S=>X4 E call fid path a all os (i+1) nid' {t:=õ S.t o.dst v,h:=S.h} K
  |some (j,want)=>match lk S.t (og all j) with
   |.bool b=>match b with
    |true=>match want with
     |true=>jE E call fid (path++[i]) a {t:=upd S.t (og all j) (.bool true),h:=S.h} nid o fun v S=>X4 E call fid path a all os (i+1) nid' {t:=õ S.t o.dst v,h:=S.h} K
     |false=>X4 E call fid path a all os (i+1) nid' {t:=õ (upd S.t (og all j) (.bool true)) o.dst .und,h:=S.h} K
    |false=>match want with
     |false=>jE E call fid (path++[i]) a {t:=upd S.t (og all j) (.bool false),h:=S.h} nid o fun v S=>X4 E call fid path a all os (i+1) nid' {t:=õ S.t o.dst v,h:=S.h} K
     |true=>X4 E call fid path a all os (i+1) nid' {t:=õ (upd S.t (og all j) (.bool false)) o.dst .und,h:=S.h} K
   |.und=>X4 E call fid path a all os (i+1) nid' {t:=õ S.t o.dst .und,h:=S.h} K
   |_=>none
def yW (E:Env ρ) (S:St) (o:Op):w9 Nat :=
 match Nat.ble 1 (cls E o) with
 |true=>o.operands.toList.flatMap fun x=>refs2 S.h (ev S.t x)
 |false=>[]
def disj:w9 Nat->w9 Nat->Bool
 |[],_=>true
 |x::l,m=>!m.any (fun y=>Nat.beq y x)&&disj l m
def Cb (E:Env ρ) (all:w9 Oper) (c:w9 Nat) (j i:Nat) (d e:w9 Nat):Bool :=
 disj d e||match all[j]?,all[i]? with
 |some a,some b=>!AK E a.op b.op||((c.getD j 0).testBit i||(c.getD i 0).testBit j)
 |_,_=>false
def chk (E:Env ρ) (all:w9 Oper) (a:w9 Nat) (acc:w9 (Nat×w9 Nat)) (i:Nat) (F:w9 Nat):Bool :=
 acc.all fun p=>Cb E all a p.1 i p.2 F
def aal (E:Env ρ) (call:w9 Nat->Bool->Nat->w9 AV->w9 Blk->(AV->w9 Blk->w8 ρ)->w8 ρ) (fid:Nat) (path:w9 Nat) (all:w9 Oper) (a:w9 Nat):w9 Oper->Nat->Nat->w9 (Nat×w9 Nat)->St->(St->w8 ρ)->w8 ρ
 |[],_,_,_,S,K=>K S
 |o::os,i,nid,acc,S,K =>
  let nid':=bif ć E.clone o.op then nid+1 else nid
  match o.guard with
  |none=>match chk E all a acc i (yW E S o.op) with
   |true=>jE E call fid (path++[i]) true S nid o fun v c=>aal E call fid path all a os (i+1) nid' ((i,yW E S o.op)::acc) {t:=õ c.t o.dst v,h:=c.h} K
   |false=>none
  |some (j,want)=>match lk S.t (og all j) with
   |.bool b=>match b with
    |true=>match want with
     |true=>match chk E all a acc i (yW E S o.op) with
      |true=>jE E call fid (path++[i]) true {t:=upd S.t (og all j) (.bool true),h:=S.h} nid o fun v c=>aal E call fid path all a os (i+1) nid' ((i,yW E S o.op)::acc) {t:=õ c.t o.dst v,h:=c.h} K
      |false=>none
     |false=>aal E call fid path all a os (i+1) nid' ((i,[])::acc) {t:=õ (upd S.t (og all j) (.bool true)) o.dst .und,h:=S.h} K
    |false=>match want with
     |false=>match chk E all a acc i (yW E S o.op) with
      |true=>jE E call fid (path++[i]) true {t:=upd S.t (og all j) (.bool false),h:=S.h} nid o fun v c=>aal E call fid path all a os (i+1) nid' ((i,yW E S o.op)::acc) {t:=õ c.t o.dst v,h:=c.h} K
      |false=>none
     |true=>aal E call fid path all a os (i+1) nid' ((i,[])::acc) {t:=õ (upd S.t (og all j) (.bool false)) o.dst .und,h:=S.h} K
   |.und=>aal E call fid path all a os (i+1) nid' ((i,[])::acc) {t:=õ S.t o.dst .und,h:=S.h} K
   |_=>none
def π (clone:Nat->Bool):w9 Oper->Nat
 |[]=>0
 |o::os=>bif ć clone o.op then π clone os+1 else π clone os
def rA (all:w9 Oper):w9 Oper->Bool
 |[]=>true
 |o::os=>(match o.guard with
  |none=>true
  |some (j,_)=>match all[j]? with
   |some p=>p.dst.isSome
   |none=>false)&&rA all os
def Iq (E:Env ρ) (call:w9 Nat->Bool->Nat->w9 AV->w9 Blk->(AV->w9 Blk->w8 ρ)->w8 ρ) (fid:Nat) (path:w9 Nat) (b:Bool) (a:w9 Oper) (S:St) (K:St->w8 ρ):w8 ρ :=
 match (b&&!abW E a)||!rA a a with
 |true=>none
 |false=>match b with
  |true=>aal E call fid path a (Ŭ a []) a 0 S.h.length [] {t:=S.t,h:=S.h++List.replicate (π E.clone a) .dead} K
  |false=>X4 E call fid path false a a 0 S.h.length {t:=S.t,h:=S.h++List.replicate (π E.clone a) .dead} K
def abG (v:AV) (k:AV->w8 ρ):w8 ρ :=
 AV.casesOn (motive_1:=fun _=>w8 ρ) v (k .any) (k .und) (fun b=>k (.bool b)) (fun i n=>k (.int i n)) (fun s=>k (.str s)) (k .nils) (fun t xs=>k (.slc t xs)) (fun id g=>k (.own id g)) (fun id g lo n=>k (.sub id g lo n)) (k .nilm) (fun a b es=>k (.mp a b es)) (fun id=>k (.omp id)) (k .nilp) (fun id off=>k (.box id off)) (fun t x off=>k (.eptr t x off)) (fun id g i off=>k (.optr id g i off)) (fun id g=>k (.dp id g)) (fun id g i=>k (.dq id g i)) (fun id g i=>k (.dr id g i)) (fun id g i j=>k (.de id g i j)) (k .nilfn) (k .yld) (fun b=>k (.ifc b)) (fun id=>k (.ofn id)) (fun id=>k (.oit id)) (fun f a b=>k (.fn f a b)) (fun cs=>k (.agg cs)) (fun vs=>k (.tup vs))
def WW (l:w9 AV):(w9 AV->w8 ρ)->w8 ρ:=List.rec (motive:=fun _=>(w9 AV->w8 ρ)->w8 ρ) (fun k=>k []) (fun x _ a k=>abG x fun y=>a fun ys=>k (y::ys)) l
def xx:w9 Blk->(w9 Blk->w8 ρ)->w8 ρ
 |[],k=>k []
 |x::xs,k=>match x with
  |.dead=>xx xs fun ys=>k (.dead::ys)
  |.cells cs=>WW cs fun cs=>xx xs fun ys=>k (.cells cs::ys)
  |.row t g fz es=>xx xs fun ys=>k (.row t g fz es::ys)
  |.map a b es=>xx xs fun ys=>k (.map a b es::ys)
  |.deep q g xss=>xx xs fun ys=>k (.deep q g xss::ys)
  |.acc t es=>xx xs fun ys=>k (.acc t es::ys)
  |.fns es=>xx xs fun ys=>k (.fns es::ys)
  |.iter s p=>xx xs fun ys=>k (.iter s p::ys)
def abI (S:St) (k:St->w8 ρ):w8 ρ:=WW S.t fun t=>xx S.h fun h=>k {t:=t,h:=h}
def abF (v:AV) (k:AV->w8 ρ):abG v k=k v:=by cases v<;>rfl
def KP:∀(l:w9 AV) (k:w9 AV->w8 ρ),WW l k=k l
 |[],_=>rfl
 |x::xs,k=>by show abG x (fun y=>WW xs fun ys=>k (y::ys))=_; rw[abF,KP xs]
def SV:∀(l:w9 Blk) (k:w9 Blk->w8 ρ),xx l k=k l
 |[],_=>rfl
 |x::xs,k=>by cases x<;>simp only[xx,KP]<;>rw[SV xs]
def abH (S:St) (k:St->w8 ρ):abI S k=k S:=by
 unfold abI; rw[KP,SV]
def abK (E:Env ρ) (S:St) (k:St->w8 ρ):w8 ρ:=match E.lazy with
 |true=>k S
 |false=>abI S k
def abJ (E:Env ρ) (S:St) (k:St->w8 ρ):abK E S k=k S:=by
 unfold abK; cases E.lazy with
 |true=>rfl
 |false=>exact abH S k
def KE:Code->Nat
 |.region rid _ _=>rid+1
 |.seq a _=>KE a
 |.block _ b=>KE b
 |.loop b=>KE b
 |_=>0
def goC (E:Env ρ) (call:w9 Nat->Bool->Nat->w9 AV->w9 Blk->(AV->w9 Blk->w8 ρ)->w8 ρ) (fid:Nat) (path:w9 Nat) (m:Nat):Nat->Code->St->(Exit->St->w8 ρ)->w8 ρ
 |_,.skip,S,K=>K .normal S
 |_,.region rid ops draw,S,K=>Iq E call fid (path++[rid]) draw ops.toList S fun S=>abK E S (K .normal)
 |bid,.seq a b,S,K=>match E.joins path fid (KE b) m with
  |none=>goC E call fid path m bid a S fun e S=>match e with
   |.normal=>goC E call fid path m bid b S K
   |e=>K e S
  |some J=>J (fun k=>goC E call fid path m bid a S fun e S=>match e with
   |.normal=>k S
   |e=>K e S) (fun S=>goC E call fid path m bid b S K)
 |bid,.cond c a b,S,K=>match ev S.t c with
  |.bool x=>match x with
   |true=>goC E call fid path m bid a S K
   |false=>goC E call fid path m bid b S K
  |_=>none
 |_,.block id b,S,K=>goC E call fid path m id b S fun e S=>match e with
  |.exit j=>match j==id with
   |true=>K .normal S
   |false=>K (.exit j) S
  |e=>K e S
 |bid,.loop _,S,K=>E.loops path fid bid m S K
 |bid,.rangeFunc g _ _ _,S,K=>E.ranges path fid bid m (ev S.t g) S K
 |bid,.scope c,S,K=>goC E call fid path m bid c S fun e S=>match e with
  |.goto _=>none
  |e=>K e S
 |_,.exit id,S,K=>K (.exit id) S
 |_,.ret,S,K=>K .ret S
 |_,.label _,S,K=>K .normal S
 |_,_,_,_=>none
def rC (E:Env ρ) (call:w9 Nat->Bool->Nat->w9 AV->w9 Blk->(AV->w9 Blk->w8 ρ)->w8 ρ) (path:w9 Nat) (f:Nat) (a:w9 AV) (h:w9 Blk) (K:AV->w9 Blk->w8 ρ):w8 ρ :=
 E.wp fun P=>match P.funcs[f]? with
 |some fn=>match fn.body with
  |some c=>goC E call f path h.length 0 c {t:=a++List.replicate (fn.ntmps-a.length) .any,h:=h} fun e S=>match e with
   |.normal=>match mu P fn S with
    |some v=>K v S.h
    |none=>none
   |.ret=>match mu P fn S with
    |some v=>K v S.h
    |none=>none
   |_=>none
  |none=>none
 |none=>none
def YO (E:Env ρ) (call:w9 Nat->Bool->Nat->w9 AV->w9 Blk->(AV->w9 Blk->w8 ρ)->w8 ρ) (path:w9 Nat) (f:Nat) (a:w9 AV) (h:w9 Blk) (K:AV->w9 Blk->w8 ρ):rC E call path f a h K=(
 match E.P.funcs[f]? with
 |some fn=>match fn.body with
  |some c=>goC E call f path h.length 0 c {t:=a++List.replicate (fn.ntmps-a.length) .any,h:=h} fun e S=>match e with
   |.normal=>match mu E.P fn S with
    |some v=>K v S.h
    |none=>none
   |.ret=>match mu E.P fn S with
    |some v=>K v S.h
    |none=>none
   |_=>none
  |none=>none
 |none=>none):=by unfold rC; simp only[E.wp_eq]
def ĺ (E:Env ρ):Nat->w9 Nat->Bool->Nat->w9 AV->w9 Blk->(AV->w9 Blk->w8 ρ)->w8 ρ
 |0,_,_,_,_,_,_=>none
 |n+1,path,draw,f,args,h,K=>match E.pure f with
  |some g=>OY (draw&&!E.fz f) g h args K
  |none=>match E.sort f with
   |true=>match args with
    |[x]=>OP h x K
    |_=>none
   |false=>match E.compact f with
   |true=>match args with
    |[x]=>om h x K
    |_=>none
   |false=>match E.ext f with
    |some X=>X h args K
    |none=>match E.inl f with
     |true=>match E.stop path f with
      |true=>none
      |false=>rC E (ĺ E n) path f args h K
     |false=>none
def topK (E:Env ρ) (f:Nat) (a:w9 AV) (K:w9 Blk->AV->w8 ρ):w8 ρ :=
 rC E (ĺ E 10) [] f a [] fun v h=>K h v
def EE (p:đ) (E:Env (Val (tyL p.rs))) (f:Nat):Prop :=
 ∀x:Val (tyL p.ts),topK E f (UX p.ts x) (af3 p.rs)=p.F x
def iter {τ:Type} (f:τ->(τ->w8 ρ)->w8 ρ):Nat->τ->w8 ρ
 |0,_=>none
 |n+1,x=>f x (iter f n)
class LC where
 lp:{ρ τ:Type}->(τ->(τ->w8 ρ)->w8 ρ)->τ->w8 ρ
 ok:∀{ρ τ:Type} {f:τ->(τ->w8 ρ)->w8 ρ} {x:τ} {r:ρ},lp f x=some r->∃n,iter f n x=some r
def É [L:LC] {τ:Type} (f:τ->(τ->w8 ρ)->w8 ρ) (x:τ):w8 ρ:=L.lp f x
def Yv [LC] {τ:Type} {f:τ->(τ->w8 ρ)->w8 ρ} {x:τ} {r:ρ} (h:É f x=some r):∃n,iter f n x=some r:=LC.ok h
open Classical in
def limT {τ:Type} (f:τ->(τ->w8 ρ)->w8 ρ) (x:τ):w8 ρ :=
 if h:∃r:w8 ρ,∃N,∀n,N<=n->iter f n x=r then Classical.choose h else none
instance lcT:LC:=⟨limT,fun {_ _ _ _ _} h=>by
 unfold limT at h
 split at h
 ·rename_i a;obtain⟨M,b⟩:=Classical.choose_spec a;exact⟨M,by rw[b M (cJ _),h]⟩
 ·cases h⟩
@[reducible] noncomputable def lcN (n:Nat):LC:=⟨fun {ρ τ} f=>Nat.rec (motive:=fun _=>τ->w8 ρ) (fun _=>none) (fun _ a x=>f x a) n,fun {ρ τ f x r} h=>⟨n,by
 rw[<-h]; clear h
 induction n generalizing x with
 |zero=>rfl
 |succ n a=>exact congrArg (f x) (funext fun y=>a)⟩⟩
def ad3 {τ:Type} {f:τ->(τ->w8 ρ)->w8 ρ} {x:τ} {r:w8 ρ} (N:Nat) (h:∀n,N<=n->iter f n x=r):É f x=r:=by
 have a:∃r:w8 ρ,∃N,∀n,N<=n->iter f n x=r:=⟨r,N,h⟩;show limT f x=r;unfold limT;rw[dif_pos a];obtain⟨M,b⟩:=Classical.choose_spec a;rw[<-b (max M N) (Nat.le_max_left _ _),h _ (Nat.le_max_right _ _)]
def OH (body:St->(Exit->St->w8 ρ)->w8 ρ):Nat->St->(Exit->St->w8 ρ)->w8 ρ
 |0,_,_=>none
 |n+1,S,K=>body S fun e S=>match e with
  |.normal=>OH body n S K
  |e=>K e S
def xy {α β:Type} (f:α->β->(α->w8 ρ)->w8 ρ):w9 β->α->(α->w8 ρ)->w8 ρ
 |[],v,k=>k v
 |x::xs,v,k=>f v x fun a=>xy f xs a k
inductive LI where
 |lp (b:Code)
 |rf (g:Operand) (ps:Array Tmp) (a b:Code)
def Ï:Nat->Code->w9 (Nat×LI)
 |bid,.seq a b=>Ï bid a++Ï bid b
 |bid,.cond _ a b=>Ï bid a++Ï bid b
 |_,.block id b=>Ï id b
 |bid,.loop b=>(bid,.lp b)::Ï bid b
 |bid,.scope b=>Ï bid b
 |bid,.rangeFunc g ps a b=>(bid,.rf g ps a b)::(Ï bid a++Ï bid b)
 |_,_=>[]
def LI.loops (bid:Nat):LI->w9 (Nat×LI)
 |.lp b=>Ï bid b
 |.rf _ _ a b=>Ï bid a++Ï bid b
def ij (c:w8 Code) (bid:Nat):LI :=
 match c with
 |some c=>match (Ï 0 c).find? (fun x=>x.1==bid) with
  |some x=>x.2
  |none=>.lp .skip
 |none=>.lp .skip
def pu (c:w8 Code) (bid:Nat):Code :=
 match ij c bid with
 |.lp b=>b
 |.rf _ _ a b=>.seq a b
structure DV where
 ty:Ty
 val:Val ty
def Ln (t:Ty) (d:DV):w8 (Val t) :=
 match decEq d.ty t with
 |isTrue h=>some (qd (F:=Val) h d.val)
 |isFalse _=>none
def XH:(l:w9 Ty)->(t:Ty)->w9 DV->w8 (Val (tys t l))
 |[],t,ds=>match ds with
  |[]=>none
  |d::ds=>match ds with
   |[]=>Ln t d
   |_::_=>none
 |u::l,t,ds=>match ds with
  |[]=>none
  |d::ds=>match Ln t d with
   |some x=>match XH l u ds with
    |some y=>some ((x,y):Val t×Val (tys u l))
    |none=>none
   |none=>none
def afK (l:w9 Ty) (a:w9 DV):w8 (Val (tyL l)) :=
 match l with
 |[]=>match a with
  |[]=>some ()
  |_::_=>none
 |t::l=>XH l t a
def X7:(t:Ty)->(l:w9 Ty)->Val (tys t l)->w9 DV
 |t,[],x=>[⟨t,x⟩]
 |t,u::l,x=>⟨t,(x:Val t×Val (tys u l)).1⟩::X7 u l (x:Val t×Val (tys u l)).2
def Ul:(l:w9 Ty)->Val (tyL l)->w9 DV
 |[],_=>[]
 |t::l,x=>X7 t l x
inductive Pat where
 |any
 |con (t:Ty)
 |var (t:Ty)
 |own (i:Nat)
 |dp (i:Nat)
 |omp (i:Nat)
 |box (i off:Nat)
 |nils
 |nilp
 |nilfn
 |yld
 |fn (f:Nat) (caps:List (Nat×Nat))
 |fnd (f:Nat) (ts:List Ty)
 |ofn (i:Nat)
 |oit (i:Nat)
inductive jC where
 |dead
 |cells (ps:List Pat)
 |rowc (t:Ty)
 |rowf (t:Ty) (g:Nat)
 |rowv (t:Ty)
 |mapc (k v:Ty)
 |mapv (k v:Ty)
 |deepc (k:IntKind)
 |deepv (k:IntKind)
 |acc (t:Ty)
 |fns (es:List (ByteArray×Nat×List (Nat×Nat)))
 |itr
def aN:Nat->w9 Pat->w9 Pat
 |0,l=>l
 |n+1,l=>.any::aN n l
structure Tpl where
 n:Nat
 slots:w9 Pat
 heap:w9 jC
inductive Bd where
 |open_
 |new
 |newd
 |at_ (id:Nat)
structure Mt where
 bd:w9 Bd
 cons:w9 DV
 vars:w9 DV
 freed:w9 Nat
def gT:w9 Bd->Nat->w8 Bd
 |[],_=>none
 |x::_,0=>some x
 |_::xs,n+1=>gT xs n
def GI:w9 Bd->Nat->Bd->w9 Bd
 |[],_,_=>[]
 |_::xs,0,v=>v::xs
 |x::xs,n+1,v=>x::GI xs n v
def El (M:Mt) (i id:Nat):w8 Mt :=
 match gT M.bd i with
 |some .open_=>some {M with bd:=GI M.bd i (.at_ id)}
 |some (.at_ id')=>match id'==id with
  |true=>some M
  |false=>none
 |_=>none
def Vg (M:Mt) (i:Nat):w8 Mt :=
 match gT M.bd i with
 |some .open_=>some {M with bd:=GI M.bd i .new}
 |_=>none
def Qd (M:Mt) (i:Nat):w8 Mt :=
 match gT M.bd i with
 |some .open_=>some {M with bd:=GI M.bd i .newd}
 |_=>none
def Oe (h:w9 Blk):AV->w9 Nat
 |.own id _=>match lkB h id with
  |.row _ _ false _=>[id]
  |_=>[]
 |.sub id _ _ _=>match lkB h id with
  |.row _ _ false _=>[id]
  |_=>[]
 |.omp id=>[id]
 |_=>[]
def si (h:w9 Blk):w9 (Nat×Nat)->w9 AV->Mt->w8 Mt
 |[],[],M=>some M
 |(i,o)::ps,.box id off::vs,M=>match o==off with
  |true=>match lkB h id with
   |.cells _=>match El M i id with
    |some M=>si h ps vs M
    |none=>none
   |_=>none
  |false=>none
 |_,_,_=>none
def HM (h:w9 Blk):w9 (ByteArray×Nat×w9 (Nat×Nat))->w9 (ByteArray×AV)->Mt->w8 Mt
 |[],[],M=>some M
 |p::es,e::es',M=>match e.2 with
  |.fn (.func f) [] vs=>match T5 p.1 e.1&&Nat.beq p.2.1 f with
   |true=>match si h p.2.2 vs M with
    |some M=>HM h es es' M
    |none=>none
   |false=>none
  |_=>none
 |_,_,_=>none
def wj:w9 Ty->w9 AV->Mt->w8 Mt
 |[],[],M=>some M
 |t::ts,.eptr t' x o::vs,M=>match Nat.beq o 0 with
  |true=>match decEq t' t with
   |isTrue _=>wj ts vs {M with cons:=M.cons++[⟨.ptr t',x⟩]}
   |isFalse _=>none
  |false=>none
 |_,_,_=>none
def ř (h:w9 Blk) (p:Pat) (v:AV) (M:Mt):w8 Mt :=
 match p with
 |.any=>some M
 |.con t=>match Ò t [ò h v] with
  |some x=>some {M with cons:=M.cons++[⟨t,x⟩],freed:=Oe h v++M.freed}
  |none=>none
 |.var t=>match Ò t [ò h v] with
  |some x=>some {M with vars:=M.vars++[⟨t,x⟩],freed:=Oe h v++M.freed}
  |none=>none
 |.own i=>match v with
  |.own id g=>match lkB h id with
   |.row _ g' false _=>match g==g' with
    |true=>El M i id
    |false=>none
   |_=>none
  |.nils=>Vg M i
  |_=>none
 |.dp i=>match v with
  |.dp id g=>match lkB h id with
   |.deep _ g' _=>match g==g' with
    |true=>El M i id
    |false=>none
   |_=>none
  |.nils=>Qd M i
  |_=>none
 |.omp i=>match v with
  |.omp id=>match lkB h id with
   |.map _ _ _=>El M i id
   |_=>none
  |_=>none
 |.box i off=>match v with
  |.box id off'=>match off==off' with
   |true=>match lkB h id with
    |.cells _=>El M i id
    |_=>none
   |false=>none
  |_=>none
 |.nils=>match v with
  |.nils=>some M
  |_=>none
 |.nilp=>match v with
  |.nilp=>some M
  |_=>none
 |.nilfn=>match v with
  |.nilfn=>some M
  |_=>none
 |.yld=>match v with
  |.yld=>some M
  |_=>none
 |.fn f caps=>match v with
  |.fn (.func a) [] vs=>match f==a with
   |true=>si h caps vs M
   |false=>none
  |_=>none
 |.fnd f ts=>match v with
  |.fn (.func a) [] vs=>match f==a with
   |true=>wj ts vs M
   |false=>none
  |_=>none
 |.ofn i=>match v with
  |.ofn id=>match lkB h id with
   |.fns _=>El M i id
   |_=>none
  |_=>none
 |.oit i=>match v with
  |.oit id=>match lkB h id with
   |.iter _ _=>El M i id
   |_=>none
  |_=>none
def NG (h:w9 Blk):w9 Pat->w9 AV->Mt->w8 Mt
 |[],_,M=>some M
 |p::ps,vs,M=>match ř h p (lk vs 0) M with
  |some M=>NG h ps vs.tail M
  |none=>none
def oB (h:w9 Blk):w9 Pat->w9 AV->Mt->w8 Mt
 |[],[],M=>some M
 |p::ps,v::vs,M=>match ř h p v M with
  |some M=>oB h ps vs M
  |none=>none
 |_,_,_=>none
def ĭ (h:w9 Blk) (p:jC) (i:Nat) (M:Mt):w8 Mt :=
 match p with
 |.dead=>match gT M.bd i with
  |some (.at_ id)=>match lkB h id with
   |.dead=>some M
   |_=>none
  |_=>none
 |.cells ps=>match gT M.bd i with
  |some (.at_ id)=>match lkB h id with
   |.cells cs=>oB h ps cs M
   |_=>none
  |_=>none
 |.rowc t=>match gT M.bd i with
  |some (.at_ id)=>match lkB h id with
   |.row t' _ false xs=>match decEq t' t with
    |isTrue _=>some {M with cons:=M.cons++[⟨.slice t',xs⟩]}
    |isFalse _=>none
   |_=>none
  |some .new=>some {M with cons:=M.cons++[⟨.slice t,[]⟩]}
  |_=>none
 |.rowf t g=>match gT M.bd i with
  |some (.at_ id)=>match lkB h id with
   |.row t' g' true xs=>match decEq t' t with
    |isTrue _=>match decEq g' g with
     |isTrue _=>some {M with cons:=M.cons++[⟨.slice t',xs⟩]}
     |isFalse _=>none
    |isFalse _=>none
   |_=>none
  |_=>none
 |.rowv t=>match gT M.bd i with
  |some (.at_ id)=>match lkB h id with
   |.row t' _ false xs=>match decEq t' t with
    |isTrue _=>some {M with vars:=M.vars++[⟨.slice t',xs⟩]}
    |isFalse _=>none
   |_=>none
  |some .new=>some {M with vars:=M.vars++[⟨.slice t,[]⟩]}
  |_=>none
 |.mapc k v=>match gT M.bd i with
  |some (.at_ id)=>match lkB h id with
   |.map a b es=>match decEq (Ty.map a b) (Ty.map k v) with
    |isTrue _=>some {M with cons:=M.cons++[⟨.map a b,es⟩]}
    |isFalse _=>none
   |_=>none
  |_=>none
 |.mapv k v=>match gT M.bd i with
  |some (.at_ id)=>match lkB h id with
   |.map a b es=>match decEq (Ty.map a b) (Ty.map k v) with
    |isTrue _=>some {M with vars:=M.vars++[⟨.map a b,es⟩]}
    |isFalse _=>none
   |_=>none
  |_=>none
 |.deepc k=>match gT M.bd i with
  |some (.at_ id)=>match lkB h id with
   |.deep a _ xss=>match decEq a k with
    |isTrue _=>some {M with cons:=M.cons++[⟨.slice (.slice (.int a)),xss⟩]}
    |isFalse _=>none
   |_=>none
  |some .newd=>some {M with cons:=M.cons++[⟨.slice (.slice (.int k)),[]⟩]}
  |_=>none
 |.deepv k=>match gT M.bd i with
  |some (.at_ id)=>match lkB h id with
   |.deep a _ xss=>match decEq a k with
    |isTrue _=>some {M with vars:=M.vars++[⟨.slice (.slice (.int a)),xss⟩]}
    |isFalse _=>none
   |_=>none
  |some .newd=>some {M with vars:=M.vars++[⟨.slice (.slice (.int k)),[]⟩]}
  |_=>none
 |.fns es=>match gT M.bd i with
  |some (.at_ id)=>match lkB h id with
   |.fns es'=>HM h es es' M
   |_=>none
  |_=>none
 |.itr=>match gT M.bd i with
  |some (.at_ id)=>match lkB h id with
   |.iter s q=>some {M with vars:=M.vars++[⟨.pair .str (.int .i64),(s,q)⟩]}
   |_=>none
  |_=>none
 |.acc t=>match gT M.bd i with
  |some (.at_ id)=>match lkB h id with
   |.acc t' xs=>match decEq t' t with
    |isTrue _=>some {M with vars:=M.vars++[⟨.slice t',xs⟩]}
    |isFalse _=>none
   |_=>none
  |_=>none
def F3 (h:w9 Blk):w9 jC->Nat->Mt->w8 Mt
 |[],_,M=>some M
 |p::ps,i,M=>match ĭ h p i M with
  |some M=>F3 h ps (i+1) M
  |none=>none
def AW (pin:Nat) (n:Nat):w9 Bd:=(List.range n).map fun i=>bif i<pin then .at_ i else .open_
def Ht:w9 Bd->w9 Nat
 |[]=>[]
 |.at_ id::l=>id::Ht l
 |_::l=>Ht l
def uO:w9 Nat->Bool
 |[]=>true
 |x::l=>!l.contains x&&uO l
def abD (h:w9 Blk):Nat->Bool
 |0=>true
 |i+1=>match lkB h i with
  |.row _ (_+1) false _=>false
  |.deep _ (_+1) _=>false
  |_=>abD h i
def sh (T:Tpl) (pin:Nat) (cs vs:w9 Ty) (S:St):w8 (Val (tyL cs)×Val (tyL vs)) :=
 match decide (pin<=T.heap.length)&&(decide (T.slots.length<=T.n)&&(decide (T.n<=S.t.length)&&abD S.h pin)) with
 |true=>match NG S.h T.slots S.t {bd:=AW pin T.heap.length,cons:=[],vars:=[],freed:=[]} with
  |some M=>match F3 S.h T.heap 0 M with
   |some M=>match uO (Ht M.bd)&&M.freed.all (fun i=>!(Ht M.bd).contains i) with
    |true=>match afK cs M.cons,afK vs M.vars with
     |some p,some v=>some (p,v)
     |_,_=>none
    |false=>none
   |none=>none
  |none=>none
 |false=>none
structure It where
 cons:w9 DV
 vars:w9 DV
def YP:DV->AV
 |⟨.unit,_⟩=>.any
 |⟨.pair _ _,_⟩=>.any
 |⟨t,x⟩=>enc t x
def yj:w9 Ty->It->w9 AV×It
 |[],I=>([],I)
 |_::ts,I=>match I.cons with
  |d::ds=>match yj ts {I with cons:=ds} with
   |(vs,I)=>(YP d::vs,I)
  |[]=>match yj ts I with
   |(vs,I)=>(.any::vs,I)
def pD (p:Pat) (I:It):AV×It :=
 match p with
 |.any=>(.any,I)
 |.con _=>match I.cons with
  |d::ds=>(YP d,{I with cons:=ds})
  |[]=>(.any,I)
 |.var _=>match I.vars with
  |d::ds=>(YP d,{I with vars:=ds})
  |[]=>(.any,I)
 |.own i=>(.own i 0,I)
 |.dp i=>(.dp i 0,I)
 |.omp i=>(.omp i,I)
 |.box i off=>(.box i off,I)
 |.nils=>(.nils,I)
 |.nilp=>(.nilp,I)
 |.nilfn=>(.nilfn,I)
 |.yld=>(.yld,I)
 |.ofn i=>(.ofn i,I)
 |.oit i=>(.oit i,I)
 |.fn f caps=>(.fn (.func f) [] (caps.map fun c=>.box c.1 c.2),I)
 |.fnd f ts=>match yj ts I with
  |(vs,I)=>(.fn (.func f) [] vs,I)
def Fl:w9 Pat->It->w9 AV×It
 |[],I=>([],I)
 |p::ps,I=>match pD p I with
  |(v,I)=>match Fl ps I with
   |(vs,I)=>(v::vs,I)
def rowDV:DV->Blk
 |⟨.slice t,xs⟩=>.row t 0 false xs
 |_=>.dead
def rowFz (g:Nat):DV->Blk
 |⟨.slice t,xs⟩=>.row t g true xs
 |_=>.dead
def accDV:DV->Blk
 |⟨.slice t,xs⟩=>.acc t xs
 |_=>.dead
def itrDV:DV->Blk
 |⟨.pair .str (.int .i64),x⟩=>.iter x.1 x.2
 |_=>.dead
def mapDV:DV->Blk
 |⟨.map k v,es⟩=>.map k v es
 |_=>.dead
def afp:DV->Blk
 |⟨.slice (.slice (.int k)),xss⟩=>.deep k 0 xss
 |_=>.dead
def pC (p:jC) (I:It):Blk×It :=
 match p with
 |.dead=>(.dead,I)
 |.cells ps=>match Fl ps I with
  |(cs,I)=>(.cells cs,I)
 |.rowc _=>match I.cons with
  |d::ds=>(rowDV d,{I with cons:=ds})
  |[]=>(.dead,I)
 |.rowf _ g=>match I.cons with
  |d::ds=>(rowFz g d,{I with cons:=ds})
  |[]=>(.dead,I)
 |.rowv _=>match I.vars with
  |d::ds=>(rowDV d,{I with vars:=ds})
  |[]=>(.dead,I)
 |.mapc _ _=>match I.cons with
  |d::ds=>(mapDV d,{I with cons:=ds})
  |[]=>(.dead,I)
 |.mapv _ _=>match I.vars with
  |d::ds=>(mapDV d,{I with vars:=ds})
  |[]=>(.dead,I)
 |.deepc _=>match I.cons with
  |d::ds=>(afp d,{I with cons:=ds})
  |[]=>(.dead,I)
 |.deepv _=>match I.vars with
  |d::ds=>(afp d,{I with vars:=ds})
  |[]=>(.dead,I)
 |.fns es=>(.fns (es.map fun e=>(e.1,.fn (.func e.2.1) [] (e.2.2.map fun c=>.box c.1 c.2))),I)
 |.acc _=>match I.vars with
  |d::ds=>(accDV d,{I with vars:=ds})
  |[]=>(.dead,I)
 |.itr=>match I.vars with
  |d::ds=>(itrDV d,{I with vars:=ds})
  |[]=>(.dead,I)
def yU:w9 jC->It->w9 Blk×It
 |[],I=>([],I)
 |p::ps,I=>match pC p I with
  |(b,I)=>match yU ps I with
   |(bs,I)=>(b::bs,I)
def Û (T:Tpl) (cs vs:w9 Ty) (p:Val (tyL cs)) (v:Val (tyL vs)):St :=
 match Fl T.slots {cons:=Ul cs p,vars:=Ul vs v} with
 |(t,I)=>match yU T.heap I with
  |(h,_)=>{t:=t++List.replicate (T.n-T.slots.length) .any,h:=h}
structure Å where
 pin:Nat
 cs:w9 Ty
 vs:w9 Ty
 head:Tpl
 exits:w9 (Exit×Tpl×w9 Ty)
 alt:Bool:=false
def Å.zs (L:Å) (i:Nat):w9 Ty:=match L.exits[i]? with|some x=>x.2.2|none=>[]
def Å.tpl (L:Å) (i:Nat):Tpl:=match L.exits[i]? with|some x=>x.2.1|none=>⟨0,[],[]⟩
def Å.xk (L:Å) (i:Nat):Exit:=match L.exits[i]? with|some x=>x.1|none=>.normal
def HF:Exit->Exit->Bool
 |.exit i,.exit j=>i==j
 |.ret,.ret=>true
 |_,_=>false
def aej:w9 (Exit×Tpl×w9 Ty)->Exit->Nat->w8 Nat
 |[],_,_=>none
 |x::xs,e,i=>match HF x.1 e with
  |true=>some i
  |false=>aej xs e (i+1)
def Ew (L:Å) (b:Val (tyL L.cs)->Val (tyL L.vs)->w8 ρ) (a:(i:Nat)->Val (tyL L.cs)->Val (tyL (L.zs i))->w8 ρ) (e:Exit) (S:St):w8 ρ :=
 match e with
 |.normal=>match sh L.head L.pin L.cs L.vs S with
  |some (p,v)=>b p v
  |none=>none
 |e=>match aej L.exits e 0 with
  |some i=>match sh (L.tpl i) L.pin L.cs (L.zs i) S with
   |some (p,z)=>a i p z
   |none=>none
  |none=>none
def fitsS (L:Å) (S:St):Bool:=match L.alt with
 |false=>true
 |true=>match sh L.head L.pin L.cs L.vs S with
  |some _=>true
  |none=>false
def T8 [LC] (L:Å) (bF:Val (tyL L.cs)->Val (tyL L.vs)->(Val (tyL L.vs)->w8 ρ)->((i:Nat)->Val (tyL (L.zs i))->w8 ρ)->w8 ρ) (m:Nat) (S:St) (K:Exit->St->w8 ρ):w8 ρ :=
 match Nat.ble m L.pin with
 |true=>match sh L.head L.pin L.cs L.vs S with
  |some (p,v)=>É (fun v a=>bF p v a fun i z=>K (L.xk i) (Û (L.tpl i) L.cs (L.zs i) p z)) v
  |none=>none
 |false=>none
end
end Go.Am
end

noncomputable section
namespace Go.Am
def ñ {α β:Type} (R:α->β->Prop):w9 α->w9 β->Prop
 |[],[]=>True
 |a::l,b::m=>R a b/\ñ R l m
 |_,_=>False
section
variable {α β:Type} {R R':α->β->Prop}
def ñ.length:∀{l:w9 α} {m:w9 β},ñ R l m->l.length=m.length
 |[],[],_=>rfl
 |_::_,_::_,h=>by simp[ñ.length h.2]
 |[],_::_,h=>h.elim
 |_::_,[],h=>h.elim
def ñ.mono (c:∀a b,R a b->R' a b):∀{l:w9 α} {m:w9 β},ñ R l m->ñ R' l m
 |[],[],_=>trivial
 |_::_,_::_,h=>⟨c _ _ h.1,ñ.mono c h.2⟩
 |[],_::_,h=>h.elim
 |_::_,[],h=>h.elim
def ñ.append:∀{l:w9 α} {m:w9 β} {b:w9 α} {a:w9 β},ñ R l m->ñ R b a->ñ R (l++b) (m++a)
 |[],[],_,_,_,h=>h
 |_::_,_::_,_,_,h,h'=>⟨h.1,ñ.append h.2 h'⟩
 |[],_::_,_,_,h,_=>h.elim
 |_::_,[],_,_,h,_=>h.elim
def ñ.get:∀{l:w9 α} {m:w9 β},ñ R l m->∀{i:Nat} {a:α},l[i]?=some a->∃b,m[i]?=some b/\R a b
 |[],[],_,_,_,h=>by simp at h
 |_::_,b::_,h,0,_,e=>by simp at e; subst e; exact⟨b,by simp,h.1⟩
 |_::_,_::_,h,i+1,_,e=>by simpa using ñ.get h.2 (by simpa using e)
 |[],_::_,h,_,_,_=>h.elim
 |_::_,[],h,_,_,_=>h.elim
def ñ.get':∀{l:w9 α} {m:w9 β},ñ R l m->∀{i:Nat} {b:β},m[i]?=some b->∃a,l[i]?=some a/\R a b
 |[],[],_,_,_,h=>by simp at h
 |a::_,_::_,h,0,_,e=>by simp at e; subst e; exact⟨a,by simp,h.1⟩
 |_::_,_::_,h,i+1,_,e=>by simpa using ñ.get' h.2 (by simpa using e)
 |[],_::_,h,_,_,_=>h.elim
 |_::_,[],h,_,_,_=>h.elim
def ñ.take:∀{l:w9 α} {m:w9 β} (n:Nat),ñ R l m->ñ R (l.take n) (m.take n)
 |_,_,0,_=>by simp[ñ]
 |[],[],_+1,_=>by simp[ñ]
 |_::_,_::_,n+1,h=>by simpa using⟨h.1,ñ.take n h.2⟩
 |[],_::_,_+1,h=>h.elim
 |_::_,[],_+1,h=>h.elim
def ñ.drop:∀{l:w9 α} {m:w9 β} (n:Nat),ñ R l m->ñ R (l.drop n) (m.drop n)
 |_,_,0,h=>by simpa using h
 |[],[],_+1,_=>by simp[ñ]
 |_::_,_::_,n+1,h=>by simpa using ñ.drop n h.2
 |[],_::_,_+1,h=>h.elim
 |_::_,[],_+1,h=>h.elim
def ñ.of_get:∀{l:w9 α} {m:w9 β},l.length=m.length->(∀(i:Nat) (a:α) (b:β),l[i]?=some a->m[i]?=some b->R a b)->ñ R l m
 |[],[],_,_=>trivial
 |a::l,b::m,c,h=>⟨h 0 a b (by simp) (by simp),ñ.of_get (by simpa using c) fun i x y e d=>h (i+1) x y (by simpa using e) (by simpa using d)⟩
 |[],_::_,c,_=>by simp at c
 |_::_,[],c,_=>by simp at c
def ñ.nil_left {m:w9 β} (h:ñ R [] m):m=[]:=by cases m with|nil=>rfl|cons=>exact h.elim
def ñ.one {a:α} {m:w9 β} (h:ñ R [a] m):∃b,m=[b]/\R a b:=by
 cases m with
 |nil=>exact h.elim
 |cons b m=>exact⟨b,by rw[ñ.nil_left h.2],h.1⟩
def ñ.split:∀{l c:w9 α} {m:w9 β},ñ R (l++c) m->∃u v,m=u++v/\ñ R l u/\ñ R c v
 |[],_,m,h=>⟨[],m,by simp,trivial,h⟩
 |a::l,c,b::m,h=>by
  obtain⟨u,v,rfl,d,h2⟩:=ñ.split (l:=l) h.2;exact⟨b::u,v,by simp,⟨h.1,d⟩,h2⟩
 |_::_,_,[],h=>h.elim
def ñ.map_left {γ:Type} {f:γ->α}:∀{l:w9 γ} {m:w9 β},ñ (fun c b=>R (f c) b) l m->ñ R (l.map f) m
 |[],[],_=>trivial
 |_::_,_::_,h=>⟨h.1,ñ.map_left h.2⟩
 |[],_::_,h=>h.elim
 |_::_,[],h=>h.elim
end
def CellsAt (w:World) (b off:Nat) (vs:w9 Value):Prop:=∀j v,vs[j]?=some v->w.cell? ⟨b,off+j,none⟩=some v
def vI (t:Ty) (vs:w9 Value):Value :=
 match t.isAgg with
 |true=>.agg vs.toArray
 |false=>vs.headD undef
def CR (w:World) (av:Nat->Prop):(t:Ty)->Val t->w9 Value->Prop
 |.unit,_,vs=>vs=[]
 |.bool,b,vs=>vs=[.bool b]
 |.int k,n,vs=>vs=[.int k n]
 |.str,s,vs=>vs=[.string s]
 |.slice t,xs,vs=>∃base cap,vs=[.slice base (xs:w9 (Val t)).length cap]/\(xs:w9 (Val t)).length<=cap /\
    ((xs : w9 (Val t)) = [] \/ ∃ b off, base = some ⟨b, off, none⟩ /\ ¬ av b /\ b < w.heap.size /\
      ∀i x,(xs:w9 (Val t))[i]?=some x->∃us,CR w av t x us/\CellsAt w b (off+i*t.size) us)
 |.map k v,es,vs=>∃r,vs=[.map r]/\((r=none/\(es:w9 (Val k×Val v))=[]) \/
    ∃(b:Nat) (c:Array MapEntry) (d:Nat),r=some b/\¬av b/\w.heap[b]?=some (.map c d)/\c.size=(es:w9 (Val k×Val v)).length /\
     ∀(i:Nat) (e:Val k×Val v),(es:w9 (Val k×Val v))[i]?=some e->∃(m:MapEntry) (us:w9 Value),c[i]?=some m/\CR w av k e.1 [m.key]/\CR w av v e.2 us/\m.val=vI v us)
 |.ptr t,x,vs=>∃b off us,vs=[.pointer (some ⟨b,off,none⟩)]/\¬av b/\b<w.heap.size/\CR w av t x us/\CellsAt w b off us
 |.pair a b,v,vs=>∃us ws,vs=us++ws/\CR w av a (v:Val a×Val b).1 us/\CR w av b (v:Val a×Val b).2 ws
def FJ (w:World) (av:Nat->Prop) (w':World) (a:Nat->Prop):Prop:=∀b,b<w.heap.size->¬av b->w'.heap[b]?=w.heap[b]?/\¬a b
def ß {w:World} {b:Nat} {o:Obj} (h:w.heap[b]?=some o):b<w.heap.size:=by
 rcases dA b w.heap.size with h'|h'
 ·exact h'
 ·rw[Array.getElem?_eq_none h'] at h; cases h
def HN {w w':World} {b:Nat} (h:b<w.heap.size) (e:w'.heap[b]?=w.heap[b]?):b<w'.heap.size:=by
 rw[Array.getElem?_eq_getElem h] at e;exact ß e
def CellsAt.keep {w w':World} {b off:Nat} {vs:w9 Value} (h:CellsAt w b off vs) (e:w'.heap[b]?=w.heap[b]?):CellsAt w' b off vs :=
 fun j v a=>by rw[World.cell?_of_block (w:=w) (by exact e)]; exact h j v a
def CR.keep {w w':World} {av l:Nat->Prop} (K:FJ w av w' l):∀{t:Ty} {x:Val t} {vs:w9 Value},CR w av t x vs->CR w' l t x vs
 |.unit,_,_,h=>h
 |.bool,_,_,h=>h
 |.int _,_,_,h=>h
 |.str,_,_,h=>h
 |.slice t,xs,vs,h=>by
  obtain⟨base,cap,e,s,h⟩:=h;refine⟨base,cap,e,s,?_⟩;rcases h with h|⟨b,off,hb,d,c,h⟩
  ·exact .inl h
  ·obtain⟨g,j⟩:=K b c d;refine .inr ⟨b,off,hb,j,HN c g,fun i x n=>?_⟩;obtain⟨us,f,h2⟩:=h i x n;exact⟨us,CR.keep K f,h2.keep g⟩
 |.map k v,es,vs,h=>by
  obtain⟨r,e,h⟩:=h;refine⟨r,e,?_⟩;rcases h with h|⟨b,entries,clock,q,d,o,p,h⟩
  ·exact .inl h
  ·obtain⟨g,j⟩:=K b (ß o) d;refine .inr ⟨b,entries,clock,q,j,g.trans o,p,fun i x n=>?_⟩;obtain⟨m,us,f,h2,y,u⟩:=h i x n;exact⟨m,us,f,CR.keep K h2,CR.keep K y,u⟩
 |.ptr t,x,vs,h=>by
  obtain⟨b,off,us,e,d,c,f,h2⟩:=h;obtain⟨g,j⟩:=K b c d;exact⟨b,off,us,e,j,HN c g,CR.keep K f,h2.keep g⟩
 |.pair a b,x,vs,h=>by
  obtain⟨us,ws,e,f,h2⟩:=h;exact⟨us,ws,e,CR.keep K f,CR.keep K h2⟩
def CR.length {w:World} {av:Nat->Prop}:∀{t:Ty} {x:Val t} {vs:w9 Value},CR w av t x vs->vs.length=t.size
 |.unit,_,_,h=>by rw[h]; rfl
 |.bool,_,_,h=>by rw[h]; rfl
 |.int _,_,_,h=>by rw[h]; rfl
 |.str,_,_,h=>by rw[h]; rfl
 |.slice _,_,_,h=>by obtain⟨_,_,rfl,_⟩:=h; rfl
 |.map _ _,_,_,h=>by obtain⟨_,rfl,_⟩:=h; rfl
 |.ptr _,_,_,h=>by obtain⟨_,_,_,rfl,_⟩:=h; rfl
 |.pair a b,_,_,h=>by
  obtain⟨us,ws,rfl,c,h2⟩:=h;rw[cN,CR.length c,CR.length h2]; rfl
def jQ:Value->w8 Nat
 |.pointer (some a)=>some a.block
 |.slice (some a) _ _=>some a.block
 |.map (some r)=>some r
 |_=>none
@[reducible] def ģ:Value->Nat->Prop
 |.agg vs,b=>∃u∈vs.toList,jQ u=some b
 |.pointer a,b=>jQ (.pointer a)=some b
 |.slice a n c,b=>jQ (.slice a n c)=some b
 |.map r,b=>jQ (.map r)=some b
 |_,_=>False
def Blk.live:Blk->Bool
 |.dead=>false
 |.row _ _ fz _=>!fz
 |_=>true
def pP (ν:Nat->Value) (h:w9 Blk) (b:Nat):Prop:=∃id,(lkB h id).live=true/\ģ (ν id) b
def GN:Obj->Bool
 |.cells _ _ _=>true
 |.map _ _=>true
 |.stringIter _ _=>true
 |_=>false
class Globs where
 n:Nat
 Φ:World->Prop
 keep:∀w w':World,Φ w->(∀b,b<n->w'.heap[b]?=w.heap[b]?)->Φ w'
 cel:∀w:World,Φ w->∀b,b<n->∃c e r,w.heap[b]?=some (.cells c e r)
variable [Globs]
def Globs.dat (w:World) (h:Globs.Φ w) (b:Nat) (hb:b<Globs.n):∃o,w.heap[b]?=some o/\GN o=true:=by
 obtain⟨c,e,r,h⟩:=Globs.cel w h b hb;exact⟨_,h,rfl⟩
structure StepJ (B:Nat) (O X:Nat->Prop) (w:World) (X':Nat->Prop) (w':World):Prop where
 os:w'.os=w.os
 tape:w'.tape=w.tape
 output:w'.output=w.output
 size:w.heap.size<=w'.heap.size
 av:∀b,b<w.heap.size->¬X b->¬X' b
 dat:∀(b:Nat) (o:Obj),w.heap[b]?=some o->GN o=true->(X b->O b)->w'.heap[b]?=some o
 nd:∀(b:Nat) (o:Obj),w.heap[b]?=some o->GN o=false->b<B->w'.heap[b]?=some o
 gl:Globs.Φ w->∀b,b<Globs.n->w'.heap[b]?=w.heap[b]?
class Ghost where
 G:Nat->Prop
 D:w9 Deferred
 Q:w8 Nat
 M:Nat
 L:Nat
 B:Nat
 T:Ty
 J:(O X:Nat->Prop)->w9 (Val T)->World->Prop
 st:∀O X X' xs w w',J O X xs w->StepJ B O X w X' w'->J O X' xs w'
@[reducible] def Ghost.re (g:Ghost) (G:Nat->Prop) (D:w9 Deferred) (Q:w8 Nat) (M:Nat):Ghost:=⟨G,D,Q,M,g.L,g.B,g.T,g.J,g.st⟩
@[reducible] def Gh (G:Nat->Prop):Ghost:=⟨G,[],none,0,0,0,.unit,fun _ _ _ _=>False,fun _ _ _ _ _ _ h=>h.elim⟩
variable [Ghost]
def Av (ν:Nat->Value) (h:w9 Blk) (b:Nat):Prop:=pP ν h b\/Ghost.G b
def VR0 (ν:Nat->Value) (h:w9 Blk) (w:World):AV->Value->Prop
 |.any,_=>True
 |.und,v=>v=undef
 |.bool b,v=>v=.bool b
 |.int k n,v=>v=.int k n
 |.str s,v=>v=.string s
 |.nils,v=>v=.slice none 0 0
 |.slc t xs,v=>CR w (Av ν h) (.slice t) xs [v]
 |.own id g,v=>v.oneCell'=true/\∃t g' fz xs,lkB h id=.row t g' fz xs/\g<=g'/\(g=g'->v=ν id)
 |.sub id g lo n,v=>v.oneCell'=true/\∃t g' fz xs,lkB h id=.row t g' fz xs/\g<=g'/\(g=g'->lo+n<=xs.length/\∃base cap,ν id=.slice base xs.length cap/\v=.slice (if cap=lo then base else base.map (·.add (lo*t.size))) n (cap-lo))
 |.nilm,v=>v=.map none
 |.mp k e es,v=>CR w (Av ν h) (.map k e) es [v]
 |.omp id,v=>v.oneCell'=true/\∃k e es,lkB h id=.map k e es/\v=ν id
 |.nilp,v=>v=.pointer none
 |.box id off,v=>∃cs b,lkB h id=.cells cs/\ν id=.pointer (some ⟨b,0,none⟩)/\v=.pointer (some ⟨b,off,none⟩)
 |.eptr t x off,v=>∃b o us,v=.pointer (some ⟨b,o+off,none⟩)/\¬Av ν h b/\b<w.heap.size/\CR w (Av ν h) t x us/\CellsAt w b o us
 |.optr id g i off,v=>v.oneCell'=true/\∃t g' fz xs,lkB h id=.row t g' fz xs/\g<=g'/\(g=g'->i<xs.length/\∃b o cap,ν id=.slice (some ⟨b,o,none⟩) xs.length cap/\v=.pointer (some ⟨b,o+i*t.size+off,none⟩))
 |.nilfn,v=>v=.nilFunc
 |.yld,v=>v=.func (.yield Ghost.L) #[] #[]
 |.ifc b,v=>v.oneCell'=true/\(b=false->v=.nilIface)/\(b=true->∃t u,v=.iface t u)
 |.ofn id,v=>v.oneCell'=true/\∃es,lkB h id=.fns es/\v=ν id
 |.oit id,v=>v.oneCell'=true/\∃s q,lkB h id=.iter s q/\v=ν id
 |.dp id g,v=>v.oneCell'=true/\∃k g' xss,lkB h id=.deep k g' xss/\g<=g'/\(g=g'->∃us,ν id=.agg (v::us).toArray)
 |.dq id g i,v=>v.oneCell'=true/\∃k g' xss,lkB h id=.deep k g' xss/\g<=g'/\(g=g'->i<xss.length/\∃us b o n cap,ν id=.agg (Value.slice (some ⟨b,o,none⟩) n cap::us).toArray/\v=.pointer (some ⟨b,o+i,none⟩))
 |.dr id g i,v=>v.oneCell'=true/\∃k g' xss,lkB h id=.deep k g' xss/\g<=g'/\(g=g'->∃u us,ν id=.agg (u::us).toArray/\us[i]?=some v)
 |.de id g i j,v=>v.oneCell'=true/\∃k g' xss,lkB h id=.deep k g' xss/\g<=g'/\(g=g'->∃u us b o n cap,ν id=.agg (u::us).toArray/\us[i]?=some (.slice (some ⟨b,o,none⟩) n cap)/\j<n/\v=.pointer (some ⟨b,o+j,none⟩))
 |_,_=>False
def VR1 (ν:Nat->Value) (h:w9 Blk) (w:World):AV->Value->Prop
 |.fn f first caps,v=>∃fs cs,v=.func f fs cs/\ñ (VR0 ν h w) first fs.toList/\ñ (VR0 ν h w) caps cs.toList
 |a,v=>VR0 ν h w a v
def VRc (ν:Nat->Value) (h:w9 Blk) (w:World) (a:AV) (v:Value):Prop:=VR1 ν h w a v/\v.oneCell'=true
def VR2 (ν:Nat->Value) (h:w9 Blk) (w:World):AV->Value->Prop
 |.agg cs,v=>∃vs,v=.agg vs/\ñ (VRc ν h w) cs vs.toList
 |a,v=>VR1 ν h w a v
def VR (ν:Nat->Value) (h:w9 Blk) (w:World):AV->Value->Prop
 |.tup as,v=>∃vs,v=.tuple vs/\ñ (VR2 ν h w) as vs.toList
 |a,v=>VR2 ν h w a v
def AV.isFn:AV->Bool
 |.fn _ _ _=>true
 |_=>false
def AV.isAgg:AV->Bool
 |.agg _=>true
 |_=>false
def AV.isTup:AV->Bool
 |.tup _=>true
 |_=>false
def vx {ν:Nat->Value} {h:w9 Blk} {w:World} {a:AV} {v:Value} (b:a.isFn=false):VR1 ν h w a v=VR0 ν h w a v:=by
 cases a<;>first|rfl|cases b
def xM {ν:Nat->Value} {h:w9 Blk} {w:World} {a:AV} {v:Value} (b:a.isAgg=false):VR2 ν h w a v=VR1 ν h w a v:=by
 cases a<;>first|rfl|cases b
def uV {ν:Nat->Value} {h:w9 Blk} {w:World} {a:AV} {v:Value} (b:a.isTup=false):VR ν h w a v=VR2 ν h w a v:=by
 cases a<;>first|rfl|cases b
def Vo (w:World) (k:IntKind) (xs:w9 Int) (u:Value):Prop:=∃base cap,u=.slice base xs.length cap/\xs.length<=cap /\
 ((base=none/\cap=0)\/∃b off c e,base=some ⟨b,off,none⟩/\w.heap[b]?=some (.cells c e (0,0))/\off+cap<=c.size/\∀(j:Nat) (x:Int),xs[j]?=some x->c[off+j]?=some (.int k x))
def TJ (l:w9 Value):Prop:=l.Pairwise fun u v=>∀b,jQ u=some b->jQ v≠some b
def BR (ν:Nat->Value) (h:w9 Blk) (w:World) (id:Nat):Blk->Prop
 |.dead=>True
 |.cells cs=>∃b c e,ν id=.pointer (some ⟨b,0,none⟩)/\w.heap[b]?=some (.cells c e (0,0))/\ñ (VRc ν h w) cs c.toList
 |.row t _ false xs=>∃base cap,ν id=.slice base xs.length cap/\xs.length<=cap /\
    ((base = none /\ cap = 0) \/ ∃ b off c e, base = some ⟨b, off, none⟩ /\ w.heap[b]? = some (.cells c e (0, 0)) /\ off + cap * t.size <= c.size /\
      ∀i x,xs[i]?=some x->∃us,CR w (Av ν h) t x us/\CellsAt w b (off+i*t.size) us)
 |.row t _ true xs=>CR w (Av ν h) (.slice t) xs [ν id]
 |.map k v es=>∃(b:Nat) (a:Array MapEntry) (d:Nat),ν id=.map (some b)/\w.heap[b]?=some (.map a d)/\a.size=(es:w9 (Val k×Val v)).length /\
    ∀(i:Nat) (e:Val k×Val v),(es:w9 (Val k×Val v))[i]?=some e->∃(m:MapEntry) (us:w9 Value),a[i]?=some m/\CR w (Av ν h) k e.1 [m.key]/\CR w (Av ν h) v e.2 us/\m.val=vI v us
 |.deep k _ xss=>∃base cap us,ν id=.agg (Value.slice base xss.length cap::us).toArray/\xss.length<=cap/\TJ (Value.slice base xss.length cap::us) /\
    ((base=none/\cap=0)\/∃b off c e,base=some ⟨b,off,none⟩/\w.heap[b]?=some (.cells c e (0,0))/\off+cap<=c.size/\∀(i:Nat) (u:Value),us[i]?=some u->c[off+i]?=some u) /\
    ñ (Vo w k) xss us
 |.fns es=>∃(b:Nat) (a:Array MapEntry) (d:Nat),ν id=.map (some b)/\w.heap[b]?=some (.map a d) /\
    ñ (fun(e:ByteArray×AV) (m:MapEntry)=>m.key=.string e.1/\e.2.isFn=true/\VR1 ν h w e.2 m.val) es a.toList
 |.iter s q=>∃b,ν id=.pointer (some ⟨b,0,none⟩)/\w.heap[b]?=some (.stringIter s q.toNat)/\0<=q
 |.acc t xs=>∃us,ν id=.agg us/\(∀b,ģ (ν id) b->∃o,w.heap[b]?=some o/\GN o=true)/\∃e:t=Ghost.T,Ghost.J (ģ (ν id)) (Av ν h) (qd (F:=fun t=>w9 (Val t)) e xs) w
structure HR (ν:Nat->Value) (h:w9 Blk) (w:World):Prop where
 blk:∀id,BR ν h w id (lkB h id)
 inj:∀i j b,(lkB h i).live=true->(lkB h j).live=true->ģ (ν i) b->ģ (ν j) b->i=j
 ghlt:∀b,Ghost.G b->b<w.heap.size
 ghne:∀id b,(lkB h id).live=true->ģ (ν id) b->¬Ghost.G b
 glob:Globs.Φ w
 globL:∀b,b<Globs.n->¬pP ν h b
def Blk.next (ν ν':Nat->Value) (id:Nat):Blk->Blk->Prop
 |.dead,_=>True
 |.cells _,B=>(∃cs,B=.cells cs)/\ν' id=ν id
 |.row t g _ xs,B=>∃g' fz xs',B=.row t g' fz xs'/\g<=g'/\(g=g'->ν' id=ν id/\xs'.length=xs.length)
 |.map k v _,B=>(∃es,B=.map k v es)/\ν' id=ν id
 |.deep k g xss,B=>∃g' a,B=.deep k g' a/\g<=g'/\(g=g'->ν' id=ν id/\a.length=xss.length)
 |.acc t _,B=>∃xs,B=.acc t xs
 |.fns _,B=>(∃es,B=.fns es)/\ν' id=ν id
 |.iter s _,B=>(∃q,B=.iter s q)/\ν' id=ν id
structure Ev (m:Nat) (ν:Nat->Value) (h:w9 Blk) (w:World) (ν':Nat->Value) (h':w9 Blk) (w':World):Prop where
 os:w'.os=w.os
 tape:w'.tape=w.tape
 output:w'.output=w.output
 size:w.heap.size<=w'.heap.size
 keep:FJ w (pP ν h) w' (pP ν' h')
 blk:∀id,id<m->(lkB h id).next ν ν' id (lkB h' id)
def Blk.next_refl (ν:Nat->Value) (id:Nat) (B:Blk):B.next ν ν id B:=by
 cases B with
 |dead=>trivial
 |cells cs=>exact⟨⟨cs,rfl⟩,rfl⟩
 |row t g fz xs=>exact⟨g,fz,xs,rfl,cJ _,fun _=>⟨rfl,rfl⟩⟩
 |map k v es=>exact⟨⟨es,rfl⟩,rfl⟩
 |deep k g xss=>exact⟨g,xss,rfl,cJ _,fun _=>⟨rfl,rfl⟩⟩
 |acc t xs=>exact⟨xs,rfl⟩
 |fns es=>exact⟨⟨es,rfl⟩,rfl⟩
 |iter s q=>exact⟨⟨q,rfl⟩,rfl⟩
def Blk.next_trans {ν ν' f:Nat->Value} {id:Nat} {A B C:Blk} (h:A.next ν ν' id B) (k:B.next ν' f id C):A.next ν f id C:=by
 cases A with
 |dead=>trivial
 |cells cs =>
  obtain⟨⟨E,rfl⟩,e⟩:=h;obtain⟨⟨u,rfl⟩,l⟩:=k;exact⟨⟨u,rfl⟩,l.trans e⟩
 |row t g fz xs =>
  obtain⟨g',D,xs',rfl,j,n⟩:=h;obtain⟨c,o,m,rfl,a,b⟩:=k;refine⟨c,o,m,rfl,cW j a,fun e=>?_⟩
  have r:g=g':=by omega
  have p:g'=c:=by omega
  exact⟨(b p).1.trans (n r).1,(b p).2.trans (n r).2⟩
 |map G v es =>
  obtain⟨⟨y,rfl⟩,e⟩:=h;obtain⟨⟨d,rfl⟩,l⟩:=k;exact⟨⟨d,rfl⟩,l.trans e⟩
 |deep q g xss =>
  obtain⟨g',z,rfl,j,n⟩:=h;obtain⟨c,i,rfl,a,b⟩:=k;refine⟨c,i,rfl,cW j a,fun e=>?_⟩
  have r:g=g':=by omega
  have p:g'=c:=by omega
  exact⟨(b p).1.trans (n r).1,(b p).2.trans (n r).2⟩
 |acc t xs =>
  obtain⟨xs',rfl⟩:=h;exact k
 |fns es =>
  obtain⟨⟨y,rfl⟩,e⟩:=h;obtain⟨⟨d,rfl⟩,l⟩:=k;exact⟨⟨d,rfl⟩,l.trans e⟩
 |iter s q =>
  obtain⟨⟨F,rfl⟩,e⟩:=h;obtain⟨⟨x,rfl⟩,l⟩:=k;exact⟨⟨x,rfl⟩,l.trans e⟩
def FJ.refl (w:World) (av:Nat->Prop):FJ w av w av:=fun _ _ h=>⟨rfl,h⟩
def FJ.trans {w w' c:World} {a f d:Nat->Prop} (h:FJ w a w' f) (k:FJ w' f c d):FJ w a c d :=
 fun b hb ha=>let ⟨e,j⟩:=h b hb ha; let ⟨i,g⟩:=k b (HN hb e) j; ⟨i.trans e,g⟩
omit [Ghost] in
def FJ.or {w w':World} {a d g:Nat->Prop} (h:FJ w a w' d):FJ w (fun b=>a b\/g b) w' (fun b=>d b\/g b) :=
 fun b hb c=>⟨(h b hb fun q=>c (.inl q)).1,fun q=>q.elim (h b hb fun q=>c (.inl q)).2 fun q=>c (.inr q)⟩
def Ev.keepA {m:Nat} {ν ν':Nat->Value} {h h':w9 Blk} {w w':World} (e:Ev m ν h w ν' h' w'):FJ w (Av ν h) w' (Av ν' h'):=e.keep.or
def Ev.refl (m:Nat) (ν:Nat->Value) (h:w9 Blk) (w:World):Ev m ν h w ν h w :=
 ⟨rfl,rfl,rfl,cJ _,FJ.refl _ _,fun _ _=>Blk.next_refl _ _ _⟩
def Ev.trans {m f:Nat} {ν ν' a:Nat->Value} {h h' d:w9 Blk} {w w' c:World} (e:Ev m ν h w ν' h' w') (b:Ev f ν' h' w' a d c) (g:m<=f):Ev m ν h w a d c :=
 ⟨b.os.trans e.os,b.tape.trans e.tape,b.output.trans e.output,cW e.size b.size,e.keep.trans b.keep,
  fun id hi=>Blk.next_trans (e.blk id hi) (b.blk id (cX hi g))⟩
def Ev.mono {m a:Nat} {ν ν':Nat->Value} {h h':w9 Blk} {w w':World} (e:Ev m ν h w ν' h' w') (b:a<=m):Ev a ν h w ν' h' w' :=
 ⟨e.os,e.tape,e.output,e.size,e.keep,fun id hi=>e.blk id (cX hi b)⟩
def Ł:∀{h:w9 Blk} {id:Nat} {B:Blk},lkB h id=B->B≠.dead->id<h.length
 |[],_,B,e,a=>absurd e.symm a
 |_::_,0,_,_,_=>gL _
 |_::_,_+1,_,e,a=>Nat.succ_lt_succ (Ł e a)
section
variable {ν ν':Nat->Value} {h h':w9 Blk} {w w':World}
def VR0.ev (e:Ev h.length ν h w ν' h' w'):∀{a:AV} {v:Value},VR0 ν h w a v->VR0 ν' h' w' a v:=by
 intro a v m
 cases a with
 |any=>trivial
 |und=>exact m
 |bool=>exact m
 |int=>exact m
 |str=>exact m
 |nils=>exact m
 |nilm=>exact m
 |nilp=>exact m
 |nilfn=>exact m
 |yld=>exact m
 |ifc b=>exact m
 |ofn id =>
  obtain⟨y,es,l,z⟩:=m;have hb:=e.blk id (Ł l (by simp));rw[l] at hb;obtain⟨⟨E,c⟩,u⟩:=hb;exact⟨y,E,c,by rw[z,u]⟩
 |oit id =>
  obtain⟨y,s,q,l,z⟩:=m;have hb:=e.blk id (Ł l (by simp));rw[l] at hb;obtain⟨⟨K,c⟩,u⟩:=hb;exact⟨y,s,K,c,by rw[z,u]⟩
 |slc t xs=>exact CR.keep e.keepA m
 |mp k t es=>exact CR.keep e.keepA m
 |own id g =>
  obtain⟨y,t,g',fz,xs,l,p,z⟩:=m;have hb:=e.blk id (Ł l (by simp));rw[l] at hb;obtain⟨f,C,xs',c,d,u⟩:=hb;refine⟨y,t,f,C,xs',c,cW p d,fun G=>?_⟩
  have B:g=g':=by omega
  have A:g'=f:=by omega
  rw[z B,(u A).1]
 |sub id g lo n =>
  obtain⟨y,t,g',fz,xs,l,p,z⟩:=m;have hb:=e.blk id (Ł l (by simp));rw[l] at hb;obtain⟨f,C,xs',c,d,u⟩:=hb;refine⟨y,t,f,C,xs',c,cW p d,fun G=>?_⟩
  have B:g=g':=by omega
  have A:g'=f:=by omega
  obtain⟨D,base,cap,h2,F⟩:=z B;obtain⟨I,H⟩:=u A;exact⟨by rw[H]; exact D,base,cap,by rw[I,H]; exact h2,F⟩
 |omp id =>
  obtain⟨y,k,t,es,l,z⟩:=m;have hb:=e.blk id (Ł l (by simp));rw[l] at hb;obtain⟨⟨E,c⟩,u⟩:=hb;exact⟨y,k,t,E,c,by rw[z,u]⟩
 |box id off =>
  obtain⟨cs,b,l,D,h2⟩:=m;have hb:=e.blk id (Ł l (by simp));rw[l] at hb;obtain⟨⟨J,c⟩,u⟩:=hb;exact⟨J,b,c,by rw[u]; exact D,h2⟩
 |eptr t x off =>
  obtain⟨b,o,us,D,h2,F,M,L⟩:=m;obtain⟨B,A⟩:=e.keepA b F h2;exact⟨b,o,us,D,A,HN F B,CR.keep e.keepA M,L.keep B⟩
 |optr id g i off =>
  obtain⟨y,t,g',fz,xs,l,p,z⟩:=m;have hb:=e.blk id (Ł l (by simp));rw[l] at hb;obtain⟨f,C,xs',c,d,u⟩:=hb;refine⟨y,t,f,C,xs',c,cW p d,fun G=>?_⟩
  have B:g=g':=by omega
  have A:g'=f:=by omega
  obtain⟨D,b,o,cap,h2,F⟩:=z B;obtain⟨I,H⟩:=u A;exact⟨by rw[H]; exact D,b,o,cap,by rw[I,H]; exact h2,F⟩
 |dp id g =>
  obtain⟨y,k,g',xss,l,p,z⟩:=m;have hb:=e.blk id (Ł l (by simp));rw[l] at hb;obtain⟨f,r,c,d,u⟩:=hb;refine⟨y,k,f,r,c,cW p d,fun G=>?_⟩
  have B:g=g':=by omega
  have A:g'=f:=by omega
  rw[(u A).1];exact z B
 |dq id g i =>
  obtain⟨y,k,g',xss,l,p,z⟩:=m;have hb:=e.blk id (Ł l (by simp));rw[l] at hb;obtain⟨f,r,c,d,u⟩:=hb;refine⟨y,k,f,r,c,cW p d,fun G=>?_⟩
  have B:g=g':=by omega
  have A:g'=f:=by omega
  rw[(u A).1,(u A).2];exact z B
 |dr id g i =>
  obtain⟨y,k,g',xss,l,p,z⟩:=m;have hb:=e.blk id (Ł l (by simp));rw[l] at hb;obtain⟨f,r,c,d,u⟩:=hb;refine⟨y,k,f,r,c,cW p d,fun G=>?_⟩
  have B:g=g':=by omega
  have A:g'=f:=by omega
  rw[(u A).1];exact z B
 |de id g i j =>
  obtain⟨y,k,g',xss,l,p,z⟩:=m;have hb:=e.blk id (Ł l (by simp));rw[l] at hb;obtain⟨f,r,c,d,u⟩:=hb;refine⟨y,k,f,r,c,cW p d,fun G=>?_⟩
  have B:g=g':=by omega
  have A:g'=f:=by omega
  rw[(u A).1];exact z B
 |fn=>exact m.elim
 |agg=>exact m.elim
 |tup=>exact m.elim
def VR1.ev (e:Ev h.length ν h w ν' h' w') {a:AV} {v:Value} (b:VR1 ν h w a v):VR1 ν' h' w' a v:=by
 cases c:a.isFn with
 |true =>
  cases a<;>try cases c
  obtain⟨fs,cs,f,h2,d⟩:=b;exact⟨fs,cs,f,h2.mono fun _ _=>VR0.ev e,d.mono fun _ _=>VR0.ev e⟩
 |false=>rw[vx c] at b ⊢; exact VR0.ev e b
def VRc.ev (e:Ev h.length ν h w ν' h' w') {a:AV} {v:Value} (b:VRc ν h w a v):VRc ν' h' w' a v:=⟨b.1.ev e,b.2⟩
def VR2.ev (e:Ev h.length ν h w ν' h' w') {a:AV} {v:Value} (b:VR2 ν h w a v):VR2 ν' h' w' a v:=by
 cases c:a.isAgg with
 |true =>
  cases a<;>try cases c
  obtain⟨vs,d,h2⟩:=b;exact⟨vs,d,h2.mono fun _ _=>VRc.ev e⟩
 |false=>rw[xM c] at b ⊢; exact VR1.ev e b
def VR.ev (e:Ev h.length ν h w ν' h' w') {a:AV} {v:Value} (b:VR ν h w a v):VR ν' h' w' a v:=by
 cases c:a.isTup with
 |true =>
  cases a<;>try cases c
  obtain⟨vs,d,h2⟩:=b;exact⟨vs,d,h2.mono fun _ _=>VR2.ev e⟩
 |false=>rw[uV c] at b ⊢; exact VR2.ev e b
end
def mk1 (k:Nat):Deferred:={target:=.collected k,args:=#[]}
def Fr (w:World) (a:w9 Deferred):Prop :=
 (∃ms:w9 Nat,a=ms.map mk1++Ghost.D/\ms.Nodup/\∀k∈ms,w.heap[k]?=some (.deferred (some []))/\Ghost.M<=k) /\
 (∀l,Ghost.Q=some l->∃r,w.heap[l]?=some (.loop r))/\Ghost.B<=Ghost.M/\Ghost.M<=w.heap.size
def Fr.keep {w w':World} {e:w9 Deferred} (H:Fr w e) (f:w.heap.size<=w'.heap.size) (a:∀(b:Nat) (o:Obj),w.heap[b]?=some o->GN o=false->w'.heap[b]?=some o):Fr w' e:=by
 obtain⟨⟨ms,p,h2,d⟩,n,m,j⟩:=H;exact⟨⟨ms,p,h2,fun k c=>⟨a k _ (d k c).1 rfl,(d k c).2⟩⟩,fun l i=>(n l i).imp fun r g=>a l _ g rfl,m,cW j f⟩
def Fr.bnd {w:World} {a:w9 Deferred} (H:Fr w a):Ghost.B<=w.heap.size:=cW H.2.2.1 H.2.2.2
structure Sim (ν:Nat->Value) (S:St) (a:Act) (w:World):Prop where
 defers:Fr w a.defers
 len:S.t.length<=a.tmps.size
 tmps:∀i,VR ν S.h w (lk S.t i) (a.tmps.getD i undef)
 heap:HR ν S.h w
def WH:∀(t:w9 AV) (d:Nat) (v:AV) (i:Nat),lk (upd t d v) i=if i=d/\d<t.length then v else lk t i
 |[],d,v,i=>by simp[Qz,QA,Qy,ac7,ac8,ac6]
 |x::xs,0,v,0=>by simp[Qz,QA,Qy,ac7,ac8,ac6]
 |x::xs,0,v,i+1=>by simp[Qz,QA,Qy,ac7,ac8,ac6]
 |x::xs,d+1,v,0=>by simp[Qz,QA,Qy,ac7,ac8,ac6]
 |x::xs,d+1,v,i+1=>by simp[Qz,QA,Qy,ac7,ac8,ac6,WH xs d v i]
def ad4:∀(t:w9 AV) (d:Nat),t.length<=d->lk t d=.any
 |[],_,_=>rfl
 |x::xs,0,h=>by simp at h
 |x::xs,d+1,h=>by simpa[ac7,ac8,ac6] using ad4 xs d (by simpa using h)
def Fe:∀(t:w9 AV) (d:Nat) (v:AV),(upd t d v).length=t.length
 |[],_,_=>rfl
 |_::_,0,_=>rfl
 |_::xs,d+1,v=>by simp[Qz,QA,Qy,Fe xs d v]
def rq:∀(h:w9 Blk) (d:Nat) (B:Blk) (i:Nat),lkB (è h d B) i=if i=d/\d<h.length then B else lkB h i
 |[],d,v,i=>by simp[FM,FN,FL,PD,PE,PC]
 |x::xs,0,v,0=>by simp[FM,FN,FL,PD,PE,PC]
 |x::xs,0,v,i+1=>by simp[FM,FN,FL,PD,PE,PC]
 |x::xs,d+1,v,0=>by simp[FM,FN,FL,PD,PE,PC]
 |x::xs,d+1,v,i+1=>by simp[FM,FN,FL,PD,PE,PC,rq xs d v i]
def Ì:∀(h:w9 Blk) (d:Nat) (B:Blk),(è h d B).length=h.length
 |[],_,_=>rfl
 |_::_,0,_=>rfl
 |_::xs,d+1,v=>by simp[FM,FN,FL,Ì xs d v]
end Go.Am
end

noncomputable section
namespace Go.Am
variable [Globs] [Ghost]
section
variable {ν ν':Nat->Value} {h h':w9 Blk} {w w':World}
def ab1 (v:Value):VR0 ν h w (cv1 v) v:=by
 unfold cv1; split<;>first|rfl|trivial|exact⟨rfl,fun _=>rfl,fun h=>by cases h⟩
def Th (v:Value):(cv1 v).isFn=false:=by
 unfold cv1; split<;>rfl
def YS (v:Value):(cv1 v).isAgg=false:=by
 unfold cv1; split<;>rfl
def Ou (v:Value):(cv1 v).isTup=false:=by
 unfold cv1; split<;>rfl
def ñ.map_self {α β:Type} {R:α->β->Prop} {f:β->α}:∀{l:w9 β},(∀b∈l,R (f b) b)->ñ R (l.map f) l
 |[],_=>trivial
 |b::l,h=>⟨h b (by simp),ñ.map_self fun c a=>h c (by simp[a])⟩
def Tg (v:Value):VR ν h w (cv v) v:=by
 unfold cv
 split
 ·rename_i cs
  split
  ·rename_i a;refine⟨cs,rfl,ñ.map_self fun b hb=>⟨?_,di.1 a b hb⟩⟩;rw[vx (Th b)]; exact ab1 b
  ·trivial
 ·rw[uV (Ou _),xM (YS _),vx (Th _)]; exact ab1 _
def Tf (v:Value):(cv v).isTup=false:=by
 unfold cv
 split
 ·split<;>rfl
 ·exact Ou _
def Đ {S:St} {a:Act} (H:Sim ν S a w) (x:Operand):VR ν S.h w (ev S.t x) (a.eval x):=by
 cases x with
 |tmp i=>exact H.tmps i
 |const v=>exact Tg v
 |func f=>exact⟨#[],#[],rfl,trivial,trivial⟩
 |global g=>trivial
def VR.one {a:AV} {v:Value} (b:VR ν h w a v) (ha:a.isAgg=false) (c:a.isTup=false):VR1 ν h w a v:=by
 rw[uV c,xM ha] at b; exact b
def VR1.up {a:AV} {v:Value} (b:VR1 ν h w a v):VR ν h w a v:=by
 cases c:a.isTup with
 |true =>
  cases a<;>try cases c
  exact b.elim
 |false =>
  cases ha:a.isAgg with
  |true =>
   cases a<;>try cases ha
   exact b.elim
  |false=>rw[uV c,xM ha]; exact b
def VR0.up {a:AV} {v:Value} (b:VR0 ν h w a v):VR1 ν h w a v:=by
 cases c:a.isFn with
 |true =>
  cases a<;>try cases c
  exact b.elim
 |false=>rw[vx c]; exact b
def CR.oneCell:∀{t:Ty} {x:Val t} {vs:w9 Value} {av:Nat->Prop},CR w av t x vs->∀v∈vs,v.oneCell'=true
 |.unit,_,_,_,h=>by rw[show _=[] from h]; simp
 |.bool,_,_,_,h=>by rw[show _=[_] from h]; simp[Value.oneCell']
 |.int _,_,_,_,h=>by rw[show _=[_] from h]; simp[Value.oneCell']
 |.str,_,_,_,h=>by rw[show _=[_] from h]; simp[Value.oneCell']
 |.slice _,_,_,_,h=>by obtain⟨_,_,rfl,_⟩:=h; simp[Value.oneCell']
 |.map _ _,_,_,_,h=>by obtain⟨_,rfl,_⟩:=h; simp[Value.oneCell']
 |.ptr _,_,_,_,h=>by obtain⟨_,_,_,rfl,_⟩:=h; simp[Value.oneCell']
 |.pair a b,_,_,_,h=>by
  obtain⟨us,ws,rfl,d,h2⟩:=h;intro v c;rcases cO.1 c with c|c
  ·exact CR.oneCell d v c
  ·exact CR.oneCell h2 v c
def VR1.oneCell {a:AV} {v:Value} {vs:w9 AV} (c:VR1 ν h w a v) (d:į a=some vs):v.oneCell'=true:=by
 cases a with
 |any=>cases d
 |und=>cases d
 |agg=>exact c.elim
 |tup=>cases d
 |bool b=>rw[show v=_ from c]; rfl
 |int k n=>rw[show v=_ from c]; rfl
 |str s=>rw[show v=_ from c]; rfl
 |nils=>rw[show v=_ from c]; rfl
 |nilm=>rw[show v=_ from c]; rfl
 |nilp=>rw[show v=_ from c]; rfl
 |nilfn=>rw[show v=_ from c]; rfl
 |yld=>rw[show v=_ from c]; rfl
 |ifc b=>exact c.1
 |ofn id=>exact c.1
 |oit id=>exact c.1
 |slc t xs=>exact CR.oneCell c v (by simp)
 |mp k t es=>exact CR.oneCell c v (by simp)
 |own id g=>exact c.1
 |sub id g lo n=>exact c.1
 |omp id=>exact c.1
 |box id off=>obtain⟨_,_,_,_,rfl⟩:=c; rfl
 |eptr t x off=>obtain⟨_,_,_,rfl,_⟩:=c; rfl
 |optr id g i off=>exact c.1
 |dp id g=>exact c.1
 |dq id g i=>exact c.1
 |dr id g i=>exact c.1
 |de id g i j=>exact c.1
 |fn f fs cs=>obtain⟨_,_,rfl,_⟩:=c; rfl
def pM {v:Value} (h:v.oneCell'=true):v.cells.toList=[v]:=by cases v<;>first|rfl|cases h
def VR.cells {a:AV} {v:Value} {vs:w9 AV} (c:VR ν h w a v) (b:į a=some vs):ñ (VRc ν h w) vs v.cells.toList:=by
 cases ha:a.isAgg with
 |true =>
  cases a<;>try cases ha
  obtain⟨us,rfl,h2⟩:=c;cases b;exact h2
 |false =>
  have e:a.isTup=false:=by cases a<;>first|rfl|cases b
  have d:=c.one ha e;have h2:=d.oneCell b
  have f:vs=[a]:=by cases a<;>simp_all[į,AV.isAgg]
  rw[f,pM h2];exact⟨⟨d,h2⟩,trivial⟩
def ln:∀{t:Ty} {x:Val t} {vs:w9 Value},CR w (Av ν h) t x vs->ñ (VRc ν h w) (flat t x) vs
 |.unit,_,_,a=>by rw[show _=[] from a]; trivial
 |.bool,_,_,a=>by rw[show _=[_] from a]; exact⟨⟨rfl,rfl⟩,trivial⟩
 |.int _,_,_,a=>by rw[show _=[_] from a]; exact⟨⟨rfl,rfl⟩,trivial⟩
 |.str,_,_,a=>by rw[show _=[_] from a]; exact⟨⟨rfl,rfl⟩,trivial⟩
 |.slice _,_,_,a=>by obtain⟨_,_,rfl,h'⟩:=id a; exact⟨⟨a,rfl⟩,trivial⟩
 |.map _ _,_,_,a=>by obtain⟨_,rfl,h'⟩:=id a; exact⟨⟨a,rfl⟩,trivial⟩
 |.ptr _,_,_,a=>by
  obtain⟨b,off,us,rfl,c,h2,e,d⟩:=id a;exact⟨⟨⟨b,off,us,rfl,c,h2,e,d⟩,rfl⟩,trivial⟩
 |.pair _ _,_,_,a=>by
  obtain⟨us,ws,rfl,c,h2⟩:=a;exact(ln c).append (ln h2)
def GC {t:Ty} {x:Val t} {vs:w9 Value} (e:CR w (Av ν h) t x vs):VR ν h w (enc t x) (vI t vs):=by
 have d:=ln e
 cases t with
 |unit=>exact⟨vs.toArray,rfl,by simpa[flat] using d⟩
 |pair a b=>exact⟨vs.toArray,rfl,by simpa using d⟩
 |bool=>obtain⟨u,rfl,c⟩:=d.one; exact c.1.up
 |int k=>obtain⟨u,rfl,c⟩:=d.one; exact c.1.up
 |str=>obtain⟨u,rfl,c⟩:=d.one; exact c.1.up
 |slice t=>obtain⟨u,rfl,c⟩:=d.one; exact c.1.up
 |map k v=>obtain⟨u,rfl,c⟩:=d.one; exact c.1.up
 |ptr t=>obtain⟨u,rfl,c⟩:=d.one; exact c.1.up
def VRs (w:World) (av:Nat->Prop):AV->Value->Prop
 |.bool b,v=>v=.bool b
 |.int k n,v=>v=.int k n
 |.str s,v=>v=.string s
 |.nils,v=>v=.slice none 0 0
 |.nilm,v=>v=.map none
 |.slc t xs,v=>CR w av (.slice t) xs [v]
 |.mp k e es,v=>CR w av (.map k e) es [v]
 |.eptr t x off,v=>∃b o us,v=.pointer (some ⟨b,o+off,none⟩)/\¬av b/\b<w.heap.size/\CR w av t x us/\CellsAt w b o us
 |_,_=>True
def CR.mono {av a:Nat->Prop} (d:∀b,a b->av b) {t:Ty} {x:Val t} {vs:w9 Value} (e:CR w av t x vs):CR w a t x vs :=
 e.keep fun b _ c=>⟨rfl,fun hb=>c (d b hb)⟩
def VRs.mono {av c:Nat->Prop} (e:∀b,c b->av b) {a:AV} {v:Value} (d:VRs w av a v):VRs w c a v:=by
 cases a<;>try exact d
 ·exact CR.mono e d
 ·exact CR.mono e d
 ·obtain⟨b,o,us,j,h2,i,g,f⟩:=d;exact⟨b,o,us,j,fun hb=>h2 (e b hb),i,CR.mono e g,f⟩
def VR1.data {a:AV} {v:Value} (b:VR1 ν h w a v):VRs w (Av ν h) a v:=by
 cases a<;>first|exact b|trivial
def Zy {av:Nat->Prop}:∀{t:Ty} {l:w9 AV} {x:Val t} {d:w9 AV} {vs:w9 Value},ū t l=some (x,d)->ñ (VRs w av) l vs ->
 ∃us f,vs=us++f/\CR w av t x us/\ñ (VRs w av) d f:=by
 intro t
 induction t with
 |unit=>intro l x d vs e c; simp only[ū,Option.some.injEq,Prod.mk.injEq] at e; obtain⟨_,rfl⟩:=e; exact⟨[],vs,rfl,rfl,c⟩
 |bool =>
  intro l x d vs e c
  rcases l with _|⟨a,l⟩<;>try (simp[ū] at e; done)
  cases a<;>simp only[ū,reduceCtorEq,Option.some.injEq,Prod.mk.injEq] at e
  obtain⟨rfl,rfl⟩:=e
  cases vs with
  |nil=>exact c.elim
  |cons v vs=>exact⟨[v],vs,rfl,by rw[show v=_ from c.1]; rfl,c.2⟩
 |str =>
  intro l x d vs e c
  rcases l with _|⟨a,l⟩<;>try (simp[ū] at e; done)
  cases a<;>simp only[ū,reduceCtorEq,Option.some.injEq,Prod.mk.injEq] at e
  obtain⟨rfl,rfl⟩:=e
  cases vs with
  |nil=>exact c.elim
  |cons v vs=>exact⟨[v],vs,rfl,by rw[show v=_ from c.1]; rfl,c.2⟩
 |int k =>
  intro l x d vs e c
  rcases l with _|⟨a,l⟩<;>try (simp[ū] at e; done)
  cases a<;>simp only[ū,reduceCtorEq] at e
  split at e
  ·rename_i g _; subst g;simp only[Option.some.injEq,Prod.mk.injEq] at e;obtain⟨rfl,rfl⟩:=e
   cases vs with
   |nil=>exact c.elim
   |cons v vs=>exact⟨[v],vs,rfl,by rw[show v=_ from c.1]; rfl,c.2⟩
  ·cases e
 |slice t _ =>
  intro l x d vs e c
  rcases l with _|⟨a,l⟩<;>try (simp[ū] at e; done)
  cases a<;>simp only[ū,reduceCtorEq] at e
  ·simp only[Option.some.injEq,Prod.mk.injEq] at e;obtain⟨rfl,rfl⟩:=e
   cases vs with
   |nil=>exact c.elim
   |cons v vs=>exact⟨[v],vs,rfl,⟨none,0,by rw[show v=_ from c.1]; rfl,by simp,.inl rfl⟩,c.2⟩
  ·split at e
   ·rename_i g _; subst g;simp only[Option.some.injEq,Prod.mk.injEq] at e;obtain⟨rfl,rfl⟩:=e
    cases vs with
    |nil=>exact c.elim
    |cons v vs=>exact⟨[v],vs,rfl,c.1,c.2⟩
   ·cases e
 |map k v _ _ =>
  intro l x d vs e c
  rcases l with _|⟨a,l⟩<;>try (simp[ū] at e; done)
  cases a<;>simp only[ū,reduceCtorEq] at e
  ·simp only[Option.some.injEq,Prod.mk.injEq] at e;obtain⟨rfl,rfl⟩:=e
   cases vs with
   |nil=>exact c.elim
   |cons v vs=>exact⟨[v],vs,rfl,⟨none,by rw[show v=_ from c.1],.inl ⟨rfl,rfl⟩⟩,c.2⟩
  ·split at e
   ·rename_i g _;cases g;simp only[Option.some.injEq,Prod.mk.injEq] at e;obtain⟨rfl,rfl⟩:=e
    cases vs with
    |nil=>exact c.elim
    |cons v vs=>exact⟨[v],vs,rfl,c.1,c.2⟩
   ·cases e
 |ptr t _ =>
  intro l x d vs e c
  rcases l with _|⟨a,l⟩<;>try (simp[ū] at e; done)
  cases a<;>try (simp[ū] at e; done)
  rename_i t' y off
  cases off<;>try (simp[ū] at e; done)
  simp only[ū] at e
  split at e
  ·rename_i g _; subst g;simp only[Option.some.injEq,Prod.mk.injEq] at e;obtain⟨rfl,rfl⟩:=e
   cases vs with
   |nil=>exact c.elim
   |cons v vs =>
    obtain⟨b,o,us,n,h2,m,j,p⟩:=c.1;exact⟨[v],vs,rfl,⟨b,o,us,by rw[n]; rfl,h2,m,j,p⟩,c.2⟩
  ·cases e
 |pair a b iha ihb =>
  intro l x d vs e c;simp only[ū] at e
  split at e
  ·rename_i u A r
   split at e
   ·rename_i s z q;simp only[Option.some.injEq,Prod.mk.injEq] at e;obtain⟨rfl,rfl⟩:=e;obtain⟨us,f,rfl,n,h2⟩:=iha r c;obtain⟨ws,i,rfl,m,j⟩:=ihb q h2;exact⟨us++ws,i,by simp,⟨us,ws,rfl,n,m⟩,j⟩
   ·cases e
  ·cases e
def ē {av:Nat->Prop} {t:Ty} {l:w9 AV} {x:Val t} {vs:w9 Value} (e:Ò t l=some x) (b:ñ (VRs w av) l vs):CR w av t x vs:=by
 unfold Ò at e
 split at e<;>try (cases e; done)
 rename_i y c;cases e;obtain⟨us,a,rfl,d,h2⟩:=Zy c b
 cases a with
 |nil=>simpa using d
 |cons=>exact h2.elim
end
end Go.Am
end

noncomputable section
namespace Go.Am
variable [Globs] [Ghost]
section
variable {ν ν':Nat->Value} {h h':w9 Blk} {w w':World}
def HR.dat (H:HR ν h w) {b:Nat} (hb:pP ν h b):∃o,w.heap[b]?=some o/\GN o=true:=by
 obtain⟨id,n,a⟩:=hb;have d:=H.blk id
 cases e:lkB h id with
 |dead=>rw[e] at n; cases n
 |cells cs =>
  rw[e] at d;obtain⟨m,c,x,f,h2,_⟩:=d;rw[f] at a; cases a; exact⟨_,h2,rfl⟩
 |row t g fz xs =>
  rw[e] at d n
  cases fz with
  |true=>cases n
  |false =>
   obtain⟨base,cap,f,_,h2⟩:=d;rcases h2 with⟨rfl,_⟩|⟨m,off,c,x,rfl,h2,_⟩
   ·rw[f] at a; cases a
   ·rw[f] at a; cases a; exact⟨_,h2,rfl⟩
 |map k v es =>
  rw[e] at d;obtain⟨m,j,l,f,h2,_⟩:=d;rw[f] at a; cases a; exact⟨_,h2,rfl⟩
 |fns es =>
  rw[e] at d;obtain⟨m,j,l,f,h2,_⟩:=d;rw[f] at a; cases a; exact⟨_,h2,rfl⟩
 |iter s q =>
  rw[e] at d;obtain⟨m,f,h2,_⟩:=d;rw[f] at a; cases a; exact⟨_,h2,rfl⟩
 |deep k g xss =>
  rw[e] at d;obtain⟨base,cap,us,f,B,ha,h2,z⟩:=d;rw[f] at a;obtain⟨u,p,hb⟩:=a;rcases cP.1 (by simpa using p) with rfl|p
  ·rcases h2 with⟨rfl,_⟩|⟨m,off,c,x,rfl,h2,_⟩
   ·cases hb
   ·cases hb; exact⟨_,h2,rfl⟩
  ·obtain⟨i,hi,rfl⟩:=dg.1 p;obtain⟨xs,_,y⟩:=z.get' (cI hi);obtain⟨base',cap',A,_,r⟩:=y;rw[A] at hb;rcases r with⟨rfl,_⟩|⟨m,off,c,x,rfl,r,_⟩
   ·cases hb
   ·cases hb; exact⟨_,r,rfl⟩
 |acc t xs =>
  rw[e] at d;obtain⟨us,f,h2,_⟩:=d;exact h2 b a
def HR.lt (H:HR ν h w) {b:Nat} (hb:pP ν h b):b<w.heap.size:=by
 obtain⟨o,a,_⟩:=H.dat hb;exact ß a
def HR.nd {m:Nat} (H:HR ν h w) (e:Ev m ν h w ν' h' w') (b:Nat) (o:Obj) (hb:w.heap[b]?=some o) (c:GN o=false):w'.heap[b]?=some o :=
 ((e.keep b (ß hb) fun d=>by obtain⟨o',a,h2⟩:=H.dat d; rw[hb] at a; cases a; rw[c] at h2; cases h2).1).trans hb
def HR.gl {m:Nat} (H:HR ν h w) (e:Ev m ν h w ν' h' w') (b:Nat) (hb:b<Globs.n):w'.heap[b]?=w.heap[b]? :=
 (e.keep b (by obtain⟨o,a,_⟩:=Globs.dat w H.glob b hb; exact ß a) (H.globL b hb)).1
def HR.globLE {m:Nat} (H:HR ν h w) (e:Ev m ν h w ν' h' w') (b:Nat) (hb:b<Globs.n):¬pP ν' h' b :=
 (e.keep b (by obtain⟨o,a,_⟩:=Globs.dat w H.glob b hb; exact ß a) (H.globL b hb)).2
def HR.globE {m:Nat} (H:HR ν h w) (e:Ev m ν h w ν' h' w'):Globs.Φ w':=Globs.keep _ _ H.glob fun b hb=>H.gl e b hb
def HR.ltA (H:HR ν h w) {b:Nat} (hb:Av ν h b):b<w.heap.size:=hb.elim H.lt (H.ghlt b)
def Vo.keep {k:IntKind} {xs:w9 Int} {u:Value} (h:Vo w k xs u) (d:∀b,jQ u=some b->b<w.heap.size->w'.heap[b]?=w.heap[b]?):Vo w' k xs u:=by
 obtain⟨base,cap,rfl,f,a⟩:=h;refine⟨base,cap,rfl,f,?_⟩;rcases a with a|⟨b,off,c,e,rfl,h2,g⟩
 ·exact .inl a
 ·exact .inr ⟨b,off,c,e,rfl,(d b rfl (ß h2)).trans h2,g⟩
def ñ.keepRows {k:IntKind}:∀{xss:w9 (w9 Int)} {us:w9 Value},ñ (Vo w k) xss us->(∀u∈us,∀b,jQ u=some b->b<w.heap.size->w'.heap[b]?=w.heap[b]?)->ñ (Vo w' k) xss us
 |[],[],_,_=>trivial
 |_::_,_::_,h,a=>⟨h.1.keep (a _ (by simp)),ñ.keepRows h.2 fun u c=>a u (by simp[c])⟩
 |[],_::_,h,_=>h.elim
 |_::_,[],h,_=>h.elim
def BR.ev (e:Ev h.length ν h w ν' h' w') (F:∀(b:Nat) (o:Obj),w.heap[b]?=some o->GN o=false->w'.heap[b]?=some o) (I:∀b,b<Globs.n->w'.heap[b]?=w.heap[b]?) {id:Nat} (d:ν' id=ν id)
 (l:∀b,(lkB h id).live=true->ģ (ν id) b->b<w.heap.size->w'.heap[b]?=w.heap[b]?) (H:BR ν h w id (lkB h id)):BR ν' h' w' id (lkB h id):=by
 cases y:lkB h id with
 |dead=>trivial
 |cells cs =>
  rw[y] at H l;obtain⟨b,c,C,f,h2,p⟩:=H;exact⟨b,c,C,d.trans f,(l b rfl (by rw[f]; rfl) (ß h2)).trans h2,p.mono fun _ _=>VRc.ev e⟩
 |row t g fz xs =>
  rw[y] at H l
  cases fz with
  |true =>
   show CR w' _ _ _ [ν' id];rw[d]; exact CR.keep e.keepA H
  |false =>
   obtain⟨base,cap,f,J,h2⟩:=H;refine⟨base,cap,d.trans f,J,?_⟩;rcases h2 with h2|⟨b,off,c,C,rfl,p,r,B⟩
   ·exact .inl h2
   ·have L:=l b rfl (by rw[f]; rfl) (ß p);refine .inr ⟨b,off,c,C,rfl,L.trans p,r,fun i x z=>?_⟩;obtain⟨us,A,K⟩:=B i x z;exact⟨us,CR.keep e.keepA A,K.keep L⟩
 |map k v es =>
  rw[y] at H l;obtain⟨b,a,j,f,h2,Q,p⟩:=H;refine⟨b,a,j,d.trans f,(l b rfl (by rw[f]; rfl) (ß h2)).trans h2,Q,fun i x z=>?_⟩;obtain⟨m,us,r,B,A,K⟩:=p i x z;exact⟨m,us,r,CR.keep e.keepA B,CR.keep e.keepA A,K⟩
 |fns es =>
  rw[y] at H l;obtain⟨b,a,j,f,h2,p⟩:=H;exact⟨b,a,j,d.trans f,(l b rfl (by rw[f]; rfl) (ß h2)).trans h2,p.mono fun _ _ q=>⟨q.1,q.2.1,q.2.2.ev e⟩⟩
 |iter s q =>
  rw[y] at H l;obtain⟨b,f,h2,p⟩:=H;exact⟨b,d.trans f,(l b rfl (by rw[f]; rfl) (ß h2)).trans h2,p⟩
 |deep k g xss =>
  rw[y] at H l;obtain⟨base,cap,us,f,J,ha,h2,p⟩:=H;have own:∀u∈Value.slice base xss.length cap::us,∀b,jQ u=some b->b<w.heap.size->w'.heap[b]?=w.heap[b]?:=fun u D b hb G=>l b rfl (by rw[f]; exact⟨u,by simpa using D,hb⟩) G;refine⟨base,cap,us,d.trans f,J,ha,?_,p.keepRows fun u D=>own u (by simp[D])⟩;rcases h2 with h2|⟨b,off,c,C,rfl,r,B,A⟩
  ·exact .inl h2
  ·exact .inr ⟨b,off,c,C,rfl,(own _ (.head _) b rfl (ß r)).trans r,B,A⟩
 |acc t xs =>
  rw[y] at H l;obtain⟨us,f,h2,p,r⟩:=H;have same:∀b o,w.heap[b]?=some o->ģ (ν id) b->w'.heap[b]?=some o:=fun b o hb E=>(l b rfl E (ß hb)).trans hb;refine⟨us,d.trans f,fun b hb=>?_,p,?_⟩
  ·rw[d] at hb;obtain⟨o,O,N⟩:=h2 b hb;exact⟨o,same b o O hb,N⟩
  ·rw[d];refine Ghost.st _ _ _ _ _ _ r ⟨e.os,e.tape,e.output,e.size,fun b hb S=>(e.keepA b hb S).2,fun b o hb _ z=>?_,fun b o hb E _=>F b o hb E,fun _ b hb=>I b hb⟩
   by_cases M:Av ν h b
   ·exact same b o hb (z M)
   ·exact(e.keepA b (ß hb) M).1.trans hb
def í (ν:Nat->Value) (id:Nat) (v:Value):Nat->Value:=fun i=>if i=id then v else ν i
def Ê (ν:Nat->Value) (id:Nat) (v:Value):í ν id v id=v:=by simp[í]
def ú (ν:Nat->Value) {id j:Nat} (v:Value) (a:j≠id):í ν id v j=ν j:=by simp[í,a]
def ja (ν:Nat->Value) (id:Nat):í ν id (ν id)=ν:=by
 funext i; unfold í; split<;>simp_all
def Ø {h:w9 Blk} {id:Nat} (B:Blk) (a:id<h.length):lkB (è h id B) id=B:=by simp[rq,a]
def Í {h:w9 Blk} {id j:Nat} (B:Blk) (a:j≠id):lkB (è h id B) j=lkB h j:=by simp[rq,a]
def Ev.upd (H:HR ν h w) {id:Nat} {B:Blk} {V:Value} (n:id<h.length) (p:w'.os=w.os) (c:w'.tape=w.tape) (m:w'.output=w.output)
 (d:w.heap.size<=w'.heap.size)
 (f:∀b,b<w.heap.size->((lkB h id).live=true->¬ģ (ν id) b)->w'.heap[b]?=w.heap[b]?)
 (x:B.live=true->∀b,ģ V b->((lkB h id).live=true/\ģ (ν id) b)\/w.heap.size<=b)
 (e:(lkB h id).next ν (í ν id V) id B):Ev h.length ν h w (í ν id V) (è h id B) w':=by
 refine⟨p,c,m,d,fun b hb r=>⟨f b hb fun i l=>r ⟨id,i,l⟩,?_⟩,fun j o=>?_⟩
 ·rintro⟨j,i,l⟩
  by_cases o:j=id
  ·subst o;rw[Ø B n] at i;rw[Ê] at l;rcases x i b l with⟨u,h2⟩|u
   ·exact r ⟨j,u,h2⟩
   ·omega
  ·rw[Í B o] at i;rw[ú ν V o] at l;exact r ⟨j,i,l⟩
 ·by_cases a:j=id
  ·subst a; rw[Ø B n]; exact e
  ·rw[Í B a];have:=Blk.next_refl ν j (lkB h j)
   cases y:lkB h j with
   |dead=>trivial
   |cells cs=>exact⟨⟨cs,rfl⟩,ú ν V a⟩
   |row t g fz xs=>exact⟨g,fz,xs,rfl,cJ _,fun _=>⟨ú ν V a,rfl⟩⟩
   |map k v es=>exact⟨⟨es,rfl⟩,ú ν V a⟩
   |deep k g xss=>exact⟨g,xss,rfl,cJ _,fun _=>⟨ú ν V a,rfl⟩⟩
   |acc t xs=>exact⟨xs,rfl⟩
   |fns es=>exact⟨⟨es,rfl⟩,ú ν V a⟩
   |iter s q=>exact⟨⟨q,rfl⟩,ú ν V a⟩
def HR.upd (H:HR ν h w) {id:Nat} {B:Blk} {V:Value} (f:id<h.length) (e:Ev h.length ν h w (í ν id V) (è h id B) w')
 (k:∀b,b<w.heap.size->((lkB h id).live=true->¬ģ (ν id) b)->w'.heap[b]?=w.heap[b]?)
 (r:B.live=true->∀b,ģ V b->((lkB h id).live=true/\ģ (ν id) b)\/w.heap.size<=b)
 (t:BR (í ν id V) (è h id B) w' id B):HR (í ν id V) (è h id B) w':=by
 refine⟨fun j=>?_,fun i j b hi a d c=>?_,fun b hb=>cX (H.ghlt b hb) e.size,fun j b l hb=>?_,H.globE e,H.globLE e⟩
 rotate_left 2
 ·by_cases a:j=id
  ·subst a;rw[Ø B f] at l;rw[Ê] at hb;rcases r l b hb with⟨g,n⟩|g
   ·exact H.ghne j b g n
   ·exact fun s=>by have:=H.ghlt b s; omega
  ·rw[Í B a] at l;rw[ú ν V a] at hb;exact H.ghne j b l hb
 ·by_cases a:j=id
  ·subst a; rw[Ø B f]; exact t
  ·rw[Í B a];refine BR.ev e (H.nd e) (H.gl e) (ú ν V a) (fun b l hb o=>k b o fun p q=>a (H.inj j id b l p hb q)) (H.blk j)
 ·by_cases m:i=id<;>by_cases h2:j=id
  ·rw[m,h2]
  ·subst m;rw[Ø B f] at hi; rw[Í B h2] at a;rw[Ê] at d; rw[ú ν V h2] at c;rcases r hi b d with⟨g,n⟩|g
   ·exact H.inj i j b g a n c
   ·have:=H.lt ⟨j,a,c⟩; omega
  ·subst h2;rw[Í B m] at hi; rw[Ø B f] at a;rw[ú ν V m] at d; rw[Ê] at c;rcases r a b c with⟨g,n⟩|g
   ·exact H.inj i j b hi g d n
   ·have:=H.lt ⟨i,hi,d⟩; omega
  ·rw[Í B m] at hi; rw[Í B h2] at a;rw[ú ν V m] at d; rw[ú ν V h2] at c;exact H.inj i j b hi a d c
def Ev.new (H:HR ν h w) {id:Nat} {B:Blk} {V:Value} {o:Obj} {w':World} (d:id<h.length) (hd:lkB h id=.dead) (i:w'.heap=w.heap.push o) (g:w'.os=w.os) (a:w'.tape=w.tape) (c:w'.output=w.output)
 (k:∀b,ģ V b->b=w.heap.size)
 (l:Ev h.length ν h w (í ν id V) (è h id B) w'->BR (í ν id V) (è h id B) w' id B) :
 Ev h.length ν h w (í ν id V) (è h id B) w'/\HR (í ν id V) (è h id B) w':=by
 have j:∀b,b<w.heap.size->((lkB h id).live=true->¬ģ (ν id) b)->w'.heap[b]?=w.heap[b]?:=fun b hb _=>by
  rw[i,eF]; simp[fq hb]
 have f:B.live=true->∀b,ģ V b->((lkB h id).live=true/\ģ (ν id) b)\/w.heap.size<=b:=fun _ b hb=>.inr (by rw[k b hb]; exact cJ _);have e:=Ev.upd H (B:=B) (V:=V) d g a c (by rw[i]; simp) j f (by rw[hd]; trivial);exact⟨e,HR.upd H d e j f (l e)⟩
def Ļ (b off n:Nat):(⟨b,off,none⟩:Addr).add n=⟨b,off+n,none⟩:=by
 unfold Addr.add; split
 ·rename_i h; subst h; rfl
 ·rfl
def HR.row_data (H:HR ν h w) {id g:Nat} {t:Ty} {fz:Bool} {xs:w9 (Val t)} (hb:lkB h id=.row t g fz xs) :
 ∃base cap,ν id=.slice base xs.length cap/\xs.length<=cap/\(base=none->cap=0\/xs=[])/\((xs:w9 (Val t))=[]\/∃b off,base=some ⟨b,off,none⟩/\b<w.heap.size/\(fz=true->¬Av ν h b) /\
  ∀i x,(xs:w9 (Val t))[i]?=some x->∃us,CR w (Av ν h) t x us/\CellsAt w b (off+i*t.size) us):=by
 have j:=H.blk id;rw[hb] at j
 cases fz with
 |true =>
  obtain⟨base,cap,l,h2,a⟩:=j;refine⟨base,cap,by simpa using l,h2,fun f=>?_,?_⟩
  ·rcases a with a|⟨b,off,a,_⟩
   ·exact .inr a
   ·rw[f] at a; cases a
  ·rcases a with a|⟨b,off,a,d,m,k⟩
   ·exact .inl a
   ·exact .inr ⟨b,off,a,m,fun _=>d,k⟩
 |false =>
  obtain⟨base,cap,l,h2,a⟩:=j;refine⟨base,cap,l,h2,fun f=>?_,?_⟩
  ·rcases a with⟨a,d⟩|⟨b,off,c,e,a,_⟩
   ·exact .inl d
   ·rw[f] at a; cases a
  ·rcases a with⟨a,d⟩|⟨b,off,c,e,a,d,m,k⟩
   ·exact .inl (cZ.1 (by omega))
   ·exact .inr ⟨b,off,a,ß d,fun n=>(by cases n),k⟩
def vN (H:HR ν h w) {av:Nat->Prop} (c:∀b,av b->Av ν h b) {a:AV} {v:Value} (d:VR1 ν h w a v)
 (p:∀id b,(∃g,a=.own id g)\/(∃g lo n,a=.sub id g lo n)\/a=.omp id->(lkB h id).live=true->ģ (ν id) b->¬av b):VRs w av (ò h a) v:=by
 cases a with
 |own id g =>
  obtain⟨K,t,g',fz,xs,e,F,u⟩:=d;simp only[ò,e]
  cases q:g==g' with
  |false=>trivial
  |true =>
   have G:g=g':=by simpa using q
   obtain⟨base,cap,o,h2,_,j⟩:=H.row_data e;rw[u G,o];refine⟨base,cap,rfl,h2,?_⟩;rcases j with j|⟨b,off,rfl,B,A,z⟩
   ·exact .inl j
   ·refine .inr ⟨b,off,rfl,?_,B,fun i x l=>?_⟩
    ·cases fz with
     |true=>exact fun ha=>A rfl (c b ha)
     |false=>exact p id b (.inl ⟨g,rfl⟩) (by rw[e]; rfl) (by rw[o]; rfl)
    ·obtain⟨us,y,J⟩:=z i x l;exact⟨us,CR.mono c y,J⟩
 |sub id g lo n =>
  obtain⟨K,t,g',fz,xs,e,F,u⟩:=d;simp only[ò,e]
  cases q:g==g' with
  |false=>trivial
  |true =>
   have G:g=g':=by simpa using q
   obtain⟨L,base',cap',s,D⟩:=u G;obtain⟨base,cap,o,h2,_,j⟩:=H.row_data e
   rw[o] at s; injection s with Q S O; subst Q; subst O
   have E:((xs.drop lo).take n).length=n:=by simp; omega
   refine⟨_,cap-lo,by rw[E]; exact congrArg (fun x=>[x]) D,by rw[E]; omega,?_⟩
   by_cases I:cap=lo
   ·exact .inl (cZ.1 (by rw[E]; omega))
   rcases j with j|⟨b,off,rfl,B,A,z⟩
   ·exact .inl (by rw[j]; simp)
   ·refine .inr ⟨b,off+lo*t.size,by rw[if_neg I]; simp[Ļ],?_,B,fun i x l=>?_⟩
    ·cases fz with
     |true=>exact fun ha=>A rfl (c b ha)
     |false=>exact p id b (.inr (.inl ⟨g,lo,n,rfl⟩)) (by rw[e]; rfl) (by rw[o]; rfl)
    ·have C:xs[lo+i]?=some x:=by
      rw[dR] at l
      split at l
      ·simpa using l
      ·cases l
     obtain⟨us,y,J⟩:=z (lo+i) x C;refine⟨us,CR.mono c y,?_⟩
     have:off+lo*t.size+i*t.size=off+(lo+i)*t.size:=by rw[dm]; omega
     rw[this]; exact J
 |omp id =>
  obtain⟨K,k,t,es,e,u⟩:=d;simp only[ò,e];have M:=H.blk id;rw[e] at M;obtain⟨b,f,r,o,h2,N,j⟩:=M;rw[u,o];refine⟨some b,rfl,.inr ⟨b,f,r,rfl,p id b (.inr (.inr rfl)) (by rw[e]; rfl) (by rw[o]; rfl),h2,N,fun i x l=>?_⟩⟩;obtain⟨m,us,B,A,z,y⟩:=j i x l;exact⟨m,us,B,CR.mono c A,CR.mono c z,y⟩
 |any=>trivial
 |und=>trivial
 |bool=>exact d
 |int=>exact d
 |str=>exact d
 |nils=>exact d
 |slc=>exact CR.mono c d
 |nilm=>exact d
 |mp=>exact CR.mono c d
 |nilp=>trivial
 |box=>trivial
 |eptr=>exact VRs.mono (a:=.eptr _ _ _) c d
 |optr=>trivial
 |dp=>trivial
 |dq=>trivial
 |dr=>trivial
 |de=>trivial
 |nilfn=>trivial
 |yld=>trivial
 |ifc=>trivial
 |ofn=>trivial
 |oit=>trivial
 |fn=>trivial
 |agg=>exact d.elim
 |tup=>exact d.elim
def QO (H:HR ν h w) {a:AV} {v:Value} (c:VR1 ν h w a v):VRs w (fun _=>False) (ò h a) v :=
 vN H (fun _ b=>b.elim) c fun _ _ _ _ _ b=>b
def Ng (H:HR ν h w) {a:AV} {v:Value} (d:VR1 ν h w a v):VRs w Ghost.G (ò h a) v :=
 vN H (fun _ c=>.inr c) d fun id b _ e hb c=>H.ghne id b e hb c
def Gx (H:HR ν h w) {id g:Nat} {t:Ty} {fz:Bool} {xs:w9 (Val t)} (n:lkB h id=.row t g fz xs) :
 Ev h.length ν h w ν (è h id (.row t g true xs)) w/\HR ν (è h id (.row t g true xs)) w/\(∀b,Av ν (è h id (.row t g true xs)) b->Av ν h b) /\
  ((lkB h id).live=true->∀b,ģ (ν id) b->¬Av ν (è h id (.row t g true xs)) b):=by
 have l:id<h.length:=Ł n (by simp)
 have a:∀b,Av ν (è h id (.row t g true xs)) b->Av ν h b:=by
  rintro b (⟨j,c,h2⟩|o)
  ·by_cases m:j=id
   ·subst m; rw[Ø _ l] at c; cases c
   ·rw[Í _ m] at c; exact .inl ⟨j,c,h2⟩
  ·exact .inr o
 have d:∀b,b<w.heap.size->((lkB h id).live=true->¬ģ (ν id) b)->w.heap[b]?=w.heap[b]?:=fun _ _ _=>rfl
 have r:(Blk.row t g true xs).live=true->∀b,ģ (ν id) b->((lkB h id).live=true/\ģ (ν id) b)\/w.heap.size<=b:=fun v=>by cases v
 have e:Ev h.length ν h w (í ν id (ν id)) (è h id (.row t g true xs)) w:=Ev.upd H l rfl rfl rfl (cJ _) d r (by
  rw[n]; exact⟨g,true,xs,rfl,cJ _,fun _=>⟨Ê _ _ _,rfl⟩⟩)
 have f:∀b,ģ (ν id) b->(lkB h id).live=true->¬Av ν (è h id (.row t g true xs)) b:=by
  rintro b hb k (⟨j,c,h2⟩|o)
  ·by_cases m:j=id
   ·subst m; rw[Ø _ l] at c; cases c
   ·rw[Í _ m] at c; exact m (H.inj j id b c k h2 hb)
  ·exact H.ghne id b k hb o
 have q:HR (í ν id (ν id)) (è h id (.row t g true xs)) w:=by
  refine HR.upd H l e d r ?_;show CR w _ (.slice t) xs [í ν id (ν id) id];rw[ja]
  cases fz with
  |true =>
   have s:=H.blk id;rw[n] at s;exact CR.mono a s
  |false =>
   obtain⟨base,cap,c,h2,_,p⟩:=H.row_data n;rw[c];refine⟨base,cap,rfl,h2,?_⟩;rcases p with p|⟨b,off,rfl,B,C,A⟩
   ·exact .inl p
   ·refine .inr ⟨b,off,rfl,f b (by rw[c]; rfl) (by rw[n]; rfl),B,fun i x u=>?_⟩;obtain⟨us,z,y⟩:=A i x u;exact⟨us,CR.mono a z,y⟩
 rw[ja] at e q;exact⟨e,q,a,fun k b hb=>f b hb k⟩
def me (h:w9 Blk) (a:AV):(pO h a).length=h.length:=by
 cases a<;>try rfl
 all_goals
  simp only[pO]
  split<;>first|rfl|exact Ì _ _ _
def KM (H:HR ν h w) (a:AV):Ev h.length ν h w ν (pO h a) w/\HR ν (pO h a) w/\(∀b,Av ν (pO h a) b->Av ν h b):=by
 have c:Ev h.length ν h w ν h w/\HR ν h w/\(∀b,Av ν h b->Av ν h b):=⟨Ev.refl _ _ _ _,H,fun _ hb=>hb⟩
 cases a<;>try exact c
 ·rename_i id g;simp only[pO]
  cases d:lkB h id<;>first|exact c|exact⟨(Gx H d).1,(Gx H d).2.1,(Gx H d).2.2.1⟩
 ·rename_i id g lo n;simp only[pO]
  cases d:lkB h id<;>first|exact c|exact⟨(Gx H d).1,(Gx H d).2.1,(Gx H d).2.2.1⟩
def KL (H:HR ν h w) {a:AV} {v:Value} (d:VR1 ν h w a v) (i:IH a=true):VRs w (Av ν (pO h a)) (ò h a) v:=by
 refine vN H (KM H a).2.2 d fun id b j e hb=>?_;rcases j with⟨g,rfl⟩|⟨g,lo,n,rfl⟩|rfl
 ·obtain⟨f,t,g',fz,xs,c,_⟩:=d;simp only[pO,c];exact(Gx H c).2.2.2 e b hb
 ·obtain⟨f,t,g',fz,xs,c,_⟩:=d;simp only[pO,c];exact(Gx H c).2.2.2 e b hb
 ·cases i
def EA (h:w9 Blk) (a b:AV):ò (pO h a) b=ò h b:=by
 have key:∀(id g:Nat) (t:Ty) (fz:Bool) (xs:w9 (Val t)),lkB h id=.row t g fz xs->ò (è h id (.row t g true xs)) b=ò h b:=by
  intro id g t fz xs l;have e:id<h.length:=Ł l (by simp)
  have c:∀j,(∀{α:Type} (f:(t:Ty)->Nat->w9 (Val t)->α) (d:α),(match lkB (è h id (.row t g true xs)) j with|.row t g _ xs=>f t g xs|_=>d)=(match lkB h j with|.row t g _ xs=>f t g xs|_=>d)) /\
   (∀{α:Type} (f:(k v:Ty)->w9 (Val k×Val v)->α) (d:α),(match lkB (è h id (.row t g true xs)) j with|.map k v es=>f k v es|_=>d)=(match lkB h j with|.map k v es=>f k v es|_=>d)):=by
   intro j
   by_cases m:j=id
   ·subst m; rw[Ø _ e,l]; exact⟨fun _ _=>rfl,fun _ _=>rfl⟩
   ·rw[Í _ m]; exact⟨fun _ _=>rfl,fun _ _=>rfl⟩
  cases b with
  |own j i=>exact(c j).1 (fun t g' xs=>match i==g' with|true=>AV.slc t xs|false=>.any) .any
  |sub j i lo n=>exact(c j).1 (fun t g' xs=>match i==g' with|true=>AV.slc t ((xs.drop lo).take n)|false=>.any) .any
  |omp j=>exact(c j).2 (fun k v es=>AV.mp k v es) .any
  |_=>rfl
 cases a<;>try rfl
 all_goals
  simp only[pO]
  split
  ·exact key _ _ _ _ _ ‹_›
  ·rfl
def BA:∀(as:w9 AV) {h:w9 Blk},HR ν h w->Ev h.length ν h w ν (yV h as) w/\HR ν (yV h as) w/\(∀b,Av ν (yV h as) b->Av ν h b)
 |[],h,H=>⟨Ev.refl _ _ _ _,H,fun _ hb=>hb⟩
 |a::as,h,H=>by
  obtain⟨e,i,d⟩:=KM H a;obtain⟨f,g,c⟩:=BA as i;refine⟨e.trans f (by rw[me]; exact cJ _),g,fun b hb=>d b (c b hb)⟩
def HR.grow (H:HR ν h w) (c:∀b,b<w.heap.size->w'.heap[b]?=w.heap[b]?) (a:w.heap.size<=w'.heap.size) (f:w'.os=w.os) (h2:w'.tape=w.tape) (e:w'.output=w.output) (m:Nat):Ev m ν h w ν h w'/\HR ν h w':=by
 have ev:∀m,Ev m ν h w ν h w':=fun m=>⟨f,h2,e,a,fun b hb d=>⟨c b hb,d⟩,fun _ _=>Blk.next_refl _ _ _⟩;exact⟨ev m,fun id=>BR.ev (ev _) (H.nd (ev 0)) (H.gl (ev 0)) rfl (fun b _ _ hb=>c b hb) (H.blk id),H.inj,fun b hb=>cX (H.ghlt b hb) a,H.ghne,H.globE (ev 0),H.globL⟩
end
def Sim.put {ν ν':Nat->Value} {S:St} {a:Act} {w w':World} {h':w9 Blk} (H:Sim ν S a w) (e:Ev S.h.length ν S.h w ν' h' w') (g:HR ν' h' w') (d:w8 Nat) {v:AV} {u:Value} (j:VR ν' h' w' v u) :
 Sim ν' {t:=õ S.t d v,h:=h'} (a.put d u) w':=by
 cases d with
 |none=>exact⟨H.defers.keep e.size (H.heap.nd e),H.len,fun i=>(H.tmps i).ev e,g⟩
 |some d =>
  refine⟨by simpa[Act.put] using H.defers.keep e.size (H.heap.nd e),by simpa[õ,Act.put,Fe] using H.len,fun i=>?_,g⟩;simp only[õ,WH,Act.put]
  by_cases hi:i=d/\d<S.t.length
  ·rw[if_pos hi];have b:d<a.tmps.size:=cX hi.2 H.len;rw[hi.1];simpa[dt,dL,b] using j
  ·rw[if_neg hi]
   by_cases hd:i=d
   ·have c:S.t.length<=d:=by
     rcases dA d S.t.length with b|c
     ·exact absurd ⟨hd,b⟩ hi
     ·exact c
    have f:lk S.t i=.any:=by
     rw[hd]; exact ad4 _ _ c
    rw[f]; trivial
   ·have:(a.tmps.setIfInBounds d u).getD i undef=a.tmps.getD i undef:=by
     simp[dt,dL,Ne.symm hd]
    rw[this]; exact(H.tmps i).ev e
end Go.Am
end

noncomputable section
namespace Go.Am
variable [Globs] [Ghost]
section
variable {ν ν':Nat->Value} {h h':w9 Blk} {w w':World} {P:Program}
def ng:∀{cs:w9 AV} {o n:Nat} {a:w9 AV},HU cs o n=some a->a=(cs.drop o).take n/\a.length=n
 |cs,0,0,a,e=>by cases cs<;>(simp[HU] at e; subst e; simp)
 |[],0,n+1,a,e=>by simp[HU] at e
 |c::cs,0,n+1,a,e=>by
  simp only[HU] at e
  split at e
  ·rename_i l d;cases e;obtain⟨b,h2⟩:=ng d;simp at b;exact⟨by simp[<-b],by simp[h2]⟩
  ·cases e
 |[],o+1,n,a,e=>by cases n<;>simp[HU] at e
 |c::cs,o+1,n,a,e=>by
  have f:HU cs o n=some a:=by cases n<;>simpa[HU] using e
  simpa using ng f
def rZ:∀{cs:w9 AV} {o:Nat} {vs a:w9 AV},XN cs o vs=some a->a=cs.take o++vs++cs.drop (o+vs.length)/\o+vs.length<=cs.length
 |cs,0,[],a,e=>by cases cs<;>(simp[XN] at e; subst e; simp)
 |[],0,v::vs,a,e=>by simp[XN] at e
 |c::cs,0,v::vs,a,e=>by
  simp only[XN] at e
  split at e
  ·rename_i l d;cases e;obtain⟨b,h2⟩:=rZ d;simp at b h2;exact⟨by simp[b],by simpa using h2⟩
  ·cases e
 |[],o+1,vs,a,e=>by cases vs<;>simp[XN] at e
 |c::cs,o+1,vs,a,e=>by
  obtain⟨l,d,rfl⟩:∃l,XN cs o vs=some l/\a=c::l:=by
   cases vs<;>(simp only[XN] at e; split at e<;>first|exact⟨_,‹_›,by cases e; rfl⟩|cases e)
  obtain⟨b,h2⟩:=rZ d;refine⟨?_,by simp; omega⟩;rw[b,show o+1+vs.length=(o+vs.length)+1 by omega];simp
def lQ {t:TypeId} {n:Nat} (h:szP P t=some n) (w:World):(sizeOf t).run P w=.ok n w:=by
 unfold szP at h
 split at h
 ·rename_i i hi; cases h; simp[sizeOf,typeInfo,hi]
 ·cases h
def PH {t:TypeId} {agg:Bool} {n:Nat} (h:ldP P t=some (agg,n)):∃d,P.underlying t=some d/\LO d=agg/\szP P t=some n:=by
 unfold ldP at h
 split at h
 ·rename_i d hd
  split at h
  ·rename_i m a; cases h; exact⟨d,hd,rfl,a⟩
  ·cases h
 ·cases h
def vR {t:TypeId} {d:TypeDesc} (h:P.underlying t=some d) (w:World):(isAgg t).run P w=.ok (LO d) w:=by
 unfold isAgg;simp only[Sem.run_bind,run_underlying h,Result.andThen_ok]
 cases d<;>rfl
def TL (agg:Bool) (us:w9 Value):Value:=match agg with|true=>.agg us.toArray|false=>us.headD undef
def run_loadVar {t:TypeId} {agg:Bool} {n:Nat} (g:ldP P t=some (agg,n)) {us:w9 Value} (c:us.length=n) (ha:agg=false->n=1) {a:Addr} (e:∀j v,us[j]?=some v->w.cell? (a.add j)=some v) :
 (loadVar t a).run P w=.ok (TL agg us) w:=by
 obtain⟨d,hd,rfl,f⟩:=PH g;unfold loadVar;simp only[Sem.run_bind,vR hd,Result.andThen_ok]
 cases b:LO d with
 |true =>
  simp only[if_true,Sem.run_bind,lQ f,Result.andThen_ok,<-c,run_loadCells_list w a us e];rfl
 |false =>
  have i:=ha b;obtain⟨u,rfl⟩:=List.length_eq_one_iff.1 (c.trans i);have h0:=e 0 u rfl
  have:a.add 0=a:=by simp[Addr.add]
  rw[this] at h0;simp[h0,TL]
def afb {agg:Bool} {cs:w9 AV} {us:w9 Value} {v:AV} (a:mkv agg cs=some v) (b:ñ (VRc ν h w) cs us):VR ν h w v (TL agg us)/\(agg=false->cs.length=1):=by
 cases agg with
 |true=>cases a; exact⟨⟨us.toArray,rfl,by simpa using b⟩,fun c=>by cases c⟩
 |false =>
  simp only[mkv] at a
  split at a
  ·cases a;obtain⟨u,rfl,d⟩:=b.one;exact⟨d.1.up,fun _=>rfl⟩
  ·cases a
def CellsAt.part {b off:Nat} {us:w9 Value} (c:CellsAt w b off us) (o n:Nat):CellsAt w b (off+o) ((us.drop o).take n):=by
 intro j v a;rw[dR] at a
 split at a
 ·rw[eA] at a;have:=c (o+j) v a
  rwa [show off+(o+j)=off+o+j by omega] at this
 ·cases a
def CellsAt.addr {b off:Nat} {us:w9 Value} (c:CellsAt w b off us):∀j v,us[j]?=some v->w.cell? ((⟨b,off,none⟩:Addr).add j)=some v:=fun j v a=>by rw[Ļ]; exact c j v a
def CellsAt.of_cells {b:Nat} {c:Array Value} {e:TypeId} {f:Nat×Nat} (hb:w.heap[b]?=some (.cells c e f)):CellsAt w b 0 c.toList:=by
 intro j v a;simp[World.cell?,hb] at a ⊢;exact a
def ñ.get2 {α β:Type} {R:α->β->Prop}:∀{l:w9 α} {m:w9 β},ñ R l m->∀{i:Nat} {a:α} {b:β},l[i]?=some a->m[i]?=some b->R a b:=fun h _ _ _ ha hb=>by
 obtain⟨c,d,h2⟩:=h.get ha;rw[hb] at d;cases d;exact h2
def HR.table (H:HR ν h w) {id g:Nat} {k:IntKind} {xss:w9 (w9 Int)} (d:lkB h id=.deep k g xss) :
 ∃base cap us,ν id=.agg (Value.slice base xss.length cap::us).toArray/\xss.length<=cap/\TJ (Value.slice base xss.length cap::us) /\
  ((base=none/\cap=0)\/∃b off c e,base=some ⟨b,off,none⟩/\w.heap[b]?=some (.cells c e (0,0))/\off+cap<=c.size/\∀(i:Nat) (u:Value),us[i]?=some u->c[off+i]?=some u) /\
  ñ (Vo w k) xss us:=by
 have a:=H.blk id;rw[d] at a;exact a
def lF {l m:w9 Value} (h:Value.agg l.toArray=Value.agg m.toArray):l=m:=by
 injection h with h
 exact dw.2 h |> fun e=>by simpa using e
def abc {t:TypeId} {a v:AV} {Q:Value} (H:HR ν h w) (e:Kr P h t a some=some v) (M:VR ν h w a Q) :
 ∃u,(Instr.loadAt t Q).run P w=.ok u w/\VR ν h w v u:=by
 unfold Kr at e
 split at e<;>try (cases e; done)
 rename_i agg n Y
 have fin:∀(b off o:Nat) (cs z:w9 AV) (us:w9 Value),ñ (VRc ν h w) cs us->HU cs o n=some z->CellsAt w b off us->Q=.pointer (some ⟨b,off+o,none⟩) ->
  mkv agg z=some v->∃u,(Instr.loadAt t Q).run P w=.ok u w/\VR ν h w v u:=by
  intro b off o cs z us hc I hca W r;obtain⟨f,h2⟩:=ng I
  have hd:ñ (VRc ν h w) z ((us.drop o).take n):=by rw[f]; exact(hc.drop o).take n
  obtain⟨y,p⟩:=afb r hd;refine⟨TL agg ((us.drop o).take n),?_,y⟩;rw[W];simp only[Instr.loadAt,Instr.sureAddr,Sem.run_bind,Sem.run_pure,Result.andThen_ok];exact run_loadVar Y (hd.length.symm.trans h2) (fun hf=>h2.symm.trans (p hf)) (hca.part o n).addr
 cases a with
 |box id off =>
  obtain⟨cs,b,f,h2,y⟩:=M;simp only[f] at e
  split at e<;>try (cases e; done)
  rename_i z I
  split at e<;>try (cases e; done)
  rename_i v' r;cases e;have hB:=H.blk id;rw[f] at hB;obtain⟨b',c,e',p,B,E⟩:=hB;rw[p] at h2; cases h2;exact fin b 0 off cs z c.toList E I (.of_cells B) (by rw[y]; simp) r
 |eptr ty x off =>
  obtain⟨b,o,us,f,h2,y,p,B⟩:=M;simp only at e
  split at e<;>try (cases e; done)
  rename_i z I
  split at e<;>try (cases e; done)
  rename_i v' r;cases e;exact fin b o off (flat ty x) z us (ln p) I B f r
 |optr id g i off =>
  obtain⟨ho,ty,g',fz,xs,f,h2,y⟩:=M;simp only[f] at e
  split at e<;>try (cases e; done)
  rename_i l
  have hge:g=g':=by simpa using l
  split at e<;>try (cases e; done)
  rename_i x K
  split at e<;>try (cases e; done)
  rename_i z I
  split at e<;>try (cases e; done)
  rename_i v' r;cases e;obtain⟨hi,b,o,cap,p,B⟩:=y hge;obtain⟨base,cap',E,h7,_,A⟩:=H.row_data f
  rw[p] at E; injection E with e1 e2 e3; subst e1; subst e3
  rcases A with A|⟨b',o',A,L,s,d⟩
  ·rw[A] at K; simp at K
  ·cases A;obtain⟨us,D,C⟩:=d i x K;exact fin b _ off (flat ty x) z us (ln D) I C B r
 |dq id g i =>
  obtain⟨ho,k,g',xss,f,h2,y⟩:=M;simp only[f] at e
  split at e<;>try (cases e; done)
  rename_i l;cases e;simp only[cM,beq_iff_eq,dW] at l;obtain⟨rfl,rfl,G⟩:=l;obtain rfl:=cR G;obtain⟨hi,us,b,o,n,cap,p,B⟩:=y rfl;obtain⟨base,cap',S,E,h7,A,L,s⟩:=H.table f;rw[p] at E;have q:=lF E
  injection q with q1 U
  subst U
  injection q1 with T q4 q5
  subst T;obtain⟨u,X⟩:∃u,us[i]?=some u:=⟨us[i]'(by rw[<-s.length]; exact hi),cI _⟩;rcases L with⟨L,_⟩|⟨b',o',c,e',L,d,D,C⟩
  ·cases L
  cases L;obtain⟨xs,K,J,O,F,_⟩:=s.get' X
  have N:u.oneCell'=true:=by rw[F]; rfl
  refine⟨u,?_,N,k,g,xss,f,cJ _,fun _=>⟨_,us,p,X⟩⟩;rw[B];simp only[Instr.loadAt,Instr.sureAddr,Sem.run_bind,Sem.run_pure,Result.andThen_ok];refine run_loadVar (us:=[u]) Y rfl (fun _=>rfl) (fun j v Z=>?_)
  cases j with
  |zero =>
   simp at Z;subst Z;rw[Ļ,fK];simp only[World.cell?,d];exact C i _ X
  |succ j=>simp at Z
 |de id g i j =>
  obtain⟨ho,k,g',xss,f,h2,y⟩:=M;simp only[f] at e
  split at e<;>try (cases e; done)
  rename_i l
  split at e<;>try (cases e; done)
  rename_i xs V
  split at e<;>try (cases e; done)
  rename_i x K;cases e;simp only[cM,beq_iff_eq,dW] at l;obtain⟨rfl,rfl,G⟩:=l;obtain rfl:=cR G;obtain⟨u,us,b,o,n,cap,p,B,E,h7⟩:=y rfl;obtain⟨base,cap',S,A,_,_,_,s⟩:=H.table f;rw[p] at A;have q:=lF A
  injection q with q1 U
  subst U;obtain⟨J,O,F,_,d⟩:=s.get2 V B
  injection F with T q4 q5
  subst T;rcases d with⟨d,_⟩|⟨b',o',c,e',d,D,C,h14⟩
  ·cases d
  cases d;refine⟨.int k x,?_,rfl⟩;rw[h7];simp only[Instr.loadAt,Instr.sureAddr,Sem.run_bind,Sem.run_pure,Result.andThen_ok];refine run_loadVar (us:=[.int k x]) Y rfl (fun _=>rfl) (fun m v r=>?_)
  cases m with
  |zero =>
   simp at r;subst r;rw[Ļ,fK];simp only[World.cell?,D];exact h14 j _ K
  |succ m=>simp at r
 |_=>cases e
def tQ (w:World) (g:Nat) (c:Array Value):(w.setRow g c).heap.size=w.heap.size:=by simp[World.setRow]
def OU (H:HR ν h w) {id g g' b o' cap':Nat} {t:Ty} {xs xs':w9 (Val t)} {c c':Array Value} {e:TypeId} (l:lkB h id=.row t g false xs) (hb:ģ (ν id) b)
 (r:w.heap[b]?=some (.cells c e (0,0))) (n:xs'.length<=cap') (m:o'+cap'*t.size<=c'.size)
 (f:g<g'\/(g=g'/\Value.slice (some ⟨b,o',none⟩) xs'.length cap'=ν id/\xs'.length=xs.length))
 (u:∀(i:Nat) (x:Val t),xs'[i]?=some x->∃us,CR w (Av ν h) t x us/\∀j v,us[j]?=some v->c'[o'+i*t.size+j]?=some v) :
 Ev h.length ν h w (í ν id (.slice (some ⟨b,o',none⟩) xs'.length cap')) (è h id (.row t g' false xs')) (w.setRow b c') /\
  HR (í ν id (.slice (some ⟨b,o',none⟩) xs'.length cap')) (è h id (.row t g' false xs')) (w.setRow b c'):=by
 have d:id<h.length:=Ł l (by simp)
 have a:∀k,k<w.heap.size->((lkB h id).live=true->¬ģ (ν id) k)->(w.setRow b c').heap[k]?=w.heap[k]?:=fun k _ o=>by
  refine setRow_other w b k c' fun q=>o (by rw[l]; rfl) (by rw[q]; exact hb)
 have s:(Blk.row t g' false xs').live=true->∀k,ģ (Value.slice (some ⟨b,o',none⟩) xs'.length cap') k->((lkB h id).live=true/\ģ (ν id) k)\/w.heap.size<=k:=fun _ k o=>by
  cases o; exact .inl ⟨by rw[l]; rfl,hb⟩
 have ev:=Ev.upd H (B:=.row t g' false xs') (V:=.slice (some ⟨b,o',none⟩) xs'.length cap') (w':=w.setRow b c') d rfl rfl rfl (by rw[tQ]; exact cJ _) a s (by
  rw[l]
  refine⟨g',false,xs',rfl,by rcases f with f|⟨f,_⟩<;>omega,fun q=>?_⟩
  rcases f with f|⟨_,p,h2⟩
  ·omega
  ·exact⟨by rw[Ê,p],h2⟩)
 refine⟨ev,HR.upd H d ev a s ⟨some ⟨b,o',none⟩,cap',Ê _ _ _,n,.inr ⟨b,o',c',e,rfl,setRow_heap w b c c' e _ r,m,fun i x hi=>?_⟩⟩⟩;obtain⟨us,p,h2⟩:=u i x hi;refine⟨us,CR.keep ev.keepA p,fun j v y=>?_⟩;simp only[World.cell?,setRow_heap w b c c' e _ r];simpa using h2 j v y
def BB:∀(t:Ty) (x:Val t),(flat t x).length=t.size
 |.unit,_=>rfl
 |.bool,_=>rfl
 |.int _,_=>rfl
 |.str,_=>rfl
 |.slice _,_=>rfl
 |.map _ _,_=>rfl
 |.ptr _,_=>rfl
 |.pair a b,x=>by rw[flat,cN,BB a,BB b]; rfl
def DU:∀{as:w9 AV} {h:w9 Blk} {vs:w9 Value},HR ν h w->ñ (VR1 ν h w) as vs->as.all IH=true->ñ (VRs w (Av ν (yV h as))) (as.map (ò h)) vs
 |[],_,[],_,_,_=>trivial
 |[],_,_::_,_,c,_=>c.elim
 |_::_,_,[],_,c,_=>c.elim
 |a::as,h,v::vs,H,c,d=>by
  simp only[fk,cM] at d;obtain⟨e,g,j⟩:=KM H a;have f:=DU (vs:=vs) g (c.2.mono fun _ _=>VR1.ev e) d.2;have i:as.map (ò (pO h a))=as.map (ò h):=eG fun b _=>EA h a b;rw[i] at f;refine⟨VRs.mono (BA as g).2.2 (KL H c.1 d.1),f⟩
def abE {v:AV} {vs:w9 AV} (a:į v=some vs) (h:w9 Blk):frz h v=yV h vs/\(aaz v=true->vs.all IH=true):=by
 cases v<;>simp only[į,Option.some.injEq,reduceCtorEq] at a<;>subst a<;>exact⟨rfl,fun b=>by first|simpa[aaz] using b|rfl⟩
def ż:∀(as:w9 AV) (h:w9 Blk),(yV h as).length=h.length
 |[],_=>rfl
 |a::as,h=>by rw[yV,ż as,me]
def FC {v:AV} {u:Value} {vs:w9 AV} (a:VR ν h w v u) (b:į v=some vs):u.cells.size=vs.length:=by
 have:=(a.cells b).length;simpa using this.symm
def qg {t:TypeId} {u:Value} {n b o:Nat} {c:Array Value} {e:TypeId} (f:szP P t=some n) (d:u.cells.size=n) (g:w.heap[b]?=some (.cells c e (0,0)))
 (a:o+n<=c.size) (i:∀v∈u.cells.toList,v.oneCell'=true) :
 (storeVar t ⟨b,o,none⟩ u).run P w=.ok () (w.setRow b (c.toList.take o++u.cells.toList++c.toList.drop (o+n)).toArray):=by
 have:=run_storeCells_at P b o e u.cells.toList 0 c w g (by simpa[d] using a) i;simp only[Nat.add_zero,Array.length_toList,d] at this;unfold storeVar;simp only[Sem.run_bind,lQ f,Result.andThen_ok,d,ne_eq,not_true,if_false,this]
def ñ.right_mem {α β:Type} {R:α->β->Prop}:∀{l:w9 α} {m:w9 β},ñ R l m->∀b∈m,∃a,R a b
 |[],[],_,b,hb=>by cases hb
 |a::_,c::_,h,b,hb=>by
  rcases cP.1 hb with rfl|hb
  ·exact⟨a,h.1⟩
  ·exact ñ.right_mem h.2 b hb
 |[],_::_,h,_,_=>h.elim
 |_::_,[],h,_,_=>h.elim
def oy {α:Type} (l m:w9 α) (p k:Nat) (b:p+m.length<=l.length) :
 (l.take p++m++l.drop (p+m.length))[k]?=if k<p then l[k]? else if k<p+m.length then m[k-p]? else l[k]?:=by
 rw[eR,eR,cN,dh,Nat.min_eq_left (by omega:p<=l.length)]
 by_cases a:k<p
 ·rw[if_pos (by omega),if_pos a,if_pos a,dR,if_pos a]
 ·rw[if_neg a,if_neg a]
  by_cases h2:k<p+m.length
  ·rw[if_pos h2,if_pos h2]
  ·rw[if_neg h2,if_neg h2,eA,show p+m.length+(k-(p+m.length))=k by omega]
def VD {t:TypeId} {a v:AV} {ua J:Value} (H:HR ν h w) (e:qf P h t a v some=some h') (ha:VR ν h w a ua) (hv:VR ν h w v J) :
 ∃w',(Instr.storeAt t ua J).run P w=.ok () w'/\HR ν h' w'/\Ev h.length ν h w ν h' w'/\h'.length=h.length:=by
 unfold qf at e
 split at e<;>try (cases e; done)
 rename_i vs O
 split at e<;>try (cases e; done)
 rename_i hs
 have hs:szP P t=some vs.length:=by simpa using hs
 have T:=hv.cells O;have X:∀v∈J.cells.toList,v.oneCell'=true:=fun v hv=>let ⟨_,h⟩:=T.right_mem v hv; h.2;have S:=FC hv O
 cases a with
 |box id off =>
  obtain⟨cs,b,I,h2,h3⟩:=ha;simp only[I] at e
  split at e<;>try (cases e; done)
  rename_i c' K;cases e;obtain⟨rfl,h5⟩:=rZ K;have hB:=H.blk id;rw[I] at hB;obtain⟨b',c,e',h6,h7,Z⟩:=hB;rw[h6] at h2; cases h2;have M:id<h.length:=Ł I (by simp)
  have hcl:c.size=cs.length:=by simpa using Z.length.symm
  have l:=qg (P:=P) (o:=off) hs S h7 (by omega) X
  have d:∀k,k<w.heap.size->((lkB h id).live=true->¬ģ (ν id) k)->(w.setRow b (c.toList.take off++J.cells.toList++c.toList.drop (off+vs.length)).toArray).heap[k]?=w.heap[k]? :=
   fun k _ r=>setRow_other w b k _ fun he=>r (by rw[I]; rfl) (by rw[h6,he]; rfl)
  have hV:(Blk.cells (cs.take off++vs++cs.drop (off+vs.length))).live=true->∀k,ģ (ν id) k->((lkB h id).live=true/\ģ (ν id) k)\/w.heap.size<=k:=fun _ k r=>.inl ⟨by rw[I]; rfl,r⟩;have ev:=Ev.upd H (B:=.cells (cs.take off++vs++cs.drop (off+vs.length))) (V:=ν id) (w':=w.setRow b (c.toList.take off++J.cells.toList++c.toList.drop (off+vs.length)).toArray) M rfl rfl rfl (by rw[tQ]; exact cJ _) d hV (by rw[I]; exact⟨⟨_,rfl⟩,Ê _ _ _⟩)
  have W:=HR.upd H M ev d hV ⟨b,_,e',(Ê _ _ _).trans h6,setRow_heap w b c _ e' _ h7,by
   exact(((Z.take off).append T).append (Z.drop (off+vs.length))).mono fun _ _ A=>VRc.ev ev A⟩
  rw[ja] at ev W;exact⟨_,by rw[h3]; simpa[Instr.storeAt,Instr.sureAddr] using l,W,ev,Ì _ _ _⟩
 |optr id g i off =>
  simp only at e
  split at e<;>try (cases e; done)
  rename_i D;obtain⟨hfe,hfm⟩:=abE O h;have hfm:=hfm D;rw[hfe] at e;obtain⟨e1,H1,hlv⟩:=BA vs H;have hsn:=DU H (T.mono fun _ _ A=>A.1) hfm;have ha1:=ha.ev e1
  split at e<;>try (cases e; done)
  rename_i ty g' xs p
  split at e<;>try (cases e; done)
  rename_i hgg
  have hge:g=g':=by simpa using hgg
  split at e<;>try (cases e; done)
  rename_i x A
  split at e<;>try (cases e; done)
  rename_i cs' K
  split at e<;>try (cases e; done)
  rename_i x' hx';cases e;obtain⟨h4,h5⟩:=rZ K;rw[dP] at h4 h5;rw[BB] at h5;obtain⟨ho,ty2,g2,fz2,xs2,h6,h7,Z⟩:=ha1;rw[p] at h6;cases h6;obtain⟨hi,b,o,cap,h9,N⟩:=Z hge;have hB:=H1.blk id;rw[p] at hB;obtain⟨base,cap2,s,U,G⟩:=hB
  rw[h9] at s; injection s with q1 q2 q3; subst q1; subst q3
  rcases G with⟨G,_⟩|⟨b2,o2,c,e2,G,F,h15,h16⟩
  ·cases G
  cases G;obtain⟨us,h17,h18⟩:=h16 i x A;have hul:us.length=ty.size:=h17.length;have hii:(i+1)*ty.size<=cap*ty.size:=dv _ (by omega)
  have hi1:(i+1)*ty.size=i*ty.size+ty.size:=by rw[dm,fj]
  have l:=qg (P:=P) (o:=o+i*ty.size+off) hs S F (by omega) X
  have hcr:CR w (Av ν (yV h vs)) ty x' (us.take off++J.cells.toList++us.drop (off+vs.length)):=by
   refine ē hx' ?_;rw[h4];have hf:=(ln h17).mono fun _ _ A=>(VR1.data A.1);exact((hf.take off).append hsn).append (hf.drop _)
  have huc:J.cells.toList.length=vs.length:=by simpa using S
  obtain⟨ev,W⟩:=OU H1 (xs':=xs.set i x') (g':=g') (o':=o) (cap':=cap) (c':=(c.toList.take (o+i*ty.size+off)++J.cells.toList++c.toList.drop (o+i*ty.size+off+vs.length)).toArray) p (by rw[h9]; rfl) F
   (by simpa using U) (by simp; omega) (.inr ⟨rfl,by simpa using h9.symm,by simp⟩) (fun j y hj=>by
    have Y:∀k,(c.toList.take (o+i*ty.size+off)++J.cells.toList++c.toList.drop (o+i*ty.size+off+vs.length)).toArray[k]? =
     if k<o+i*ty.size+off then c[k]? else if k<o+i*ty.size+off+vs.length then J.cells.toList[k-(o+i*ty.size+off)]? else c[k]?:=by
     intro k;have:=oy c.toList J.cells.toList (o+i*ty.size+off) k (by rw[huc]; simp; omega);rw[huc] at this;simpa using this
    rw[fN] at hj
    split at hj
    ·rename_i hij; subst hij;cases hj;refine⟨_,hcr,fun k v r=>?_⟩;rw[Y];have f:=fun v hv=>h18 k v hv;simp only[World.cell?,F] at f;rw[eR,eR] at r;simp only[cN,dh,huc,hul] at r;rw[Nat.min_eq_left (by omega:off<=ty.size)] at r
     split at r
     ·split at r
      ·rw[if_pos (by omega)];rw[dR,if_pos (by omega)] at r;simpa using f v r
      ·rw[if_neg (by omega),if_pos (by omega)];rw[show o+i*ty.size+k-(o+i*ty.size+off)=k-off by omega]; exact r
     ·rw[if_neg (by omega),if_neg (by omega)];rw[eA,show off+vs.length+(k-(off+vs.length))=k by omega] at r;simpa using f v r
    ·rename_i hij;obtain⟨ws,h19,h20⟩:=h16 j y hj;refine⟨ws,h19,fun k v r=>?_⟩
     have hkl:k<ty.size:=by rw[<-h19.length]; exact(cQ.1 r).1
     have f:=h20 k v r;simp only[World.cell?,F] at f;rw[Y]
     have hne:j*ty.size+ty.size<=i*ty.size\/i*ty.size+ty.size<=j*ty.size:=by
      rcases Nat.lt_or_gt_of_ne hij with E|E
      ·right;have:=dv ty.size (show i+1<=j from E);rw[dm,fj] at this; exact this
      ·left;have:=dv ty.size (show j+1<=i from E);rw[dm,fj] at this; exact this
     split
     ·simpa using f
     ·rw[if_neg (by omega)]; simpa using f)
  have hvv:í ν id (.slice (some ⟨b,o,none⟩) (xs.set i x').length cap)=ν:=by
   rw[fh,<-h9,ja]
  rw[hvv] at ev W;refine⟨_,by rw[N]; simpa[Instr.storeAt,Instr.sureAddr] using l,W,e1.trans ev (by rw[ż]; exact cJ _),by rw[Ì,ż]⟩
 |de id g i j =>
  simp only at e
  split at e<;>try (cases e; done)
  rename_i z y;obtain⟨ho,k,g',xss,I,h2,h3⟩:=ha;simp only[I] at e
  split at e<;>try (cases e; done)
  rename_i hgg
  split at e<;>try (cases e; done)
  rename_i hkk _
  split at e<;>try (cases e; done)
  rename_i xs hxs
  split at e<;>try (cases e; done)
  rename_i x A;cases e;subst hkk
  obtain rfl:g=g':=by simpa using hgg
  cases O;have huv:J=.int z y:=hv;subst huv;obtain⟨u,us,b,o,n,cap,h4,h5,h6,h7⟩:=h3 rfl;obtain⟨base,cap',us',Z,h9,hap,L,N⟩:=H.table I;rw[h4] at Z;have q:=lF Z
  injection q with q1 q2
  subst q1;subst q2;have p:=N.get2 hxs h5;obtain⟨base2,cap2,hu2,hle2,s⟩:=p
  injection hu2 with q3 q4 q5
  subst q3 q4 q5;rcases s with⟨s,_⟩|⟨b',o',c,e',s,U,G,F⟩
  ·cases s
  cases s;have M:id<h.length:=Ł I (by simp);have hmem:Value.slice (some ⟨b,o,none⟩) xs.length cap∈us:=cY h5;have hjl:j<xs.length:=h6;have l:=qg (P:=P) (u:=.int z y) (o:=o+j) hs S U (by simp; omega) (by simp[Value.cells,Value.oneCell'])
  have hb:ģ (ν id) b:=by rw[h4]; exact⟨Value.slice (some ⟨b,o,none⟩) xs.length cap,by simp[hmem],rfl⟩
  -- the cells
  let c':Array Value:=(c.toList.take (o+j)++(Value.int z y).cells.toList++c.toList.drop (o+j+1)).toArray
  have hc':∀m,c'[m]?=if m=o+j then some (Value.int z y) else c[m]?:=by
   intro m;have:=oy c.toList [Value.int z y] (o+j) m (by simp; omega);have e0:(Value.int z y).cells.toList=[Value.int z y]:=rfl;show(c.toList.take (o+j)++(Value.int z y).cells.toList++c.toList.drop (o+j+1)).toArray[m]?=_;rw[e0,eh];rw[show[Value.int z y].length=1 from rfl] at this;rw[this]
   by_cases D:m=o+j
   ·rw[if_neg (by omega),if_pos (by omega),if_pos D,D,Nat.sub_self]; rfl
   ·rw[if_neg D]
    split
    ·simp
    ·rw[if_neg (by omega)]; simp
  have T:c'.size=c.size:=by
   show(c.toList.take (o+j)++(Value.int z y).cells.toList++c.toList.drop (o+j+1)).toArray.size=c.size;have e0:(Value.int z y).cells.toList=[Value.int z y]:=rfl;rw[e0];simp;omega
  have d:∀m,m<w.heap.size->((lkB h id).live=true->¬ģ (ν id) m)->(w.setRow b c').heap[m]?=w.heap[m]?:=fun m _ D =>
   setRow_other w b m c' fun he=>D (by rw[I]; rfl) (by rw[he]; exact hb)
  have hV:(Blk.deep z g (xss.set i (xs.set j y))).live=true->∀m,ģ (ν id) m->((lkB h id).live=true/\ģ (ν id) m)\/w.heap.size<=m:=fun _ m D=>.inl ⟨by rw[I]; rfl,D⟩
  have ev:=Ev.upd H (B:=.deep z g (xss.set i (xs.set j y))) (V:=ν id) (w':=w.setRow b c') M rfl rfl rfl (by rw[tQ]; exact cJ _) d hV (by
   rw[I]; exact⟨g,_,rfl,cJ _,fun _=>⟨Ê _ _ _,by simp⟩⟩)
  have hnew:(w.setRow b c').heap[b]?=some (.cells c' e' (0,0)):=setRow_heap w b c c' e' _ U
  -- other rows, and the table itself, lie elsewhere
  have C:∀m u',(Value.slice base xss.length cap'::us)[m]?=some u'->m≠i+1->∀q,jQ u'=some q->q≠b:=by
   intro m u' D hne q hq he;subst he
   have hi1:(Value.slice base xss.length cap'::us)[i+1]?=some (Value.slice (some ⟨q,o,none⟩) xs.length cap):=by simpa using h5
   obtain⟨m1,em⟩:=cQ.1 D;obtain⟨i1,ei⟩:=cQ.1 hi1;rcases Nat.lt_or_gt_of_ne hne with E|hgt
   ·have:=eX.1 hap m (i+1) m1 i1 E q (by rw[em]; exact hq);rw[ei] at this;exact this rfl
   ·have:=eX.1 hap (i+1) m i1 m1 hgt q (by rw[ei]; rfl);rw[em] at this;exact this hq
  have hrows:ñ (Vo (w.setRow b c') z) (xss.set i (xs.set j y)) us:=by
   refine ñ.of_get (by rw[fh]; exact N.length) fun m zs u' hz Q=>?_;rw[fN] at hz
   by_cases D:i=m
   ·subst D;rw[if_pos rfl] at hz
    split at hz
    ·cases hz;rw[h5] at Q;cases Q;refine⟨some ⟨b,o,none⟩,cap,by simp,by simpa using hle2,.inr ⟨b,o,c',e',rfl,hnew,by omega,fun m x A=>?_⟩⟩;rw[hc'];rw[fN] at A
     by_cases hjm:j=m
     ·subst hjm;rw[if_pos rfl,if_pos hjl] at A;cases A;rw[if_pos rfl]
     ·rw[if_neg hjm] at A;rw[if_neg (by omega)];exact F m x A
    ·cases hz
   ·rw[if_neg D] at hz;refine(N.get2 hz Q).keep fun q hq E=>setRow_other w b q c' ?_;exact C (m+1) u' (by simpa using Q) (by omega) q hq
  have W:=HR.upd H M ev d hV ⟨base,cap',us,by rw[Ê,h4,fh],by rw[fh]; exact h9,by rw[fh]; exact hap,by
   rcases L with L|⟨b2,o2,c2,e2,rfl,g1,g2,g3⟩
   ·exact .inl L
   ·exact .inr ⟨b2,o2,c2,e2,rfl,(setRow_other w b b2 c' (C 0 _ rfl (by omega) b2 rfl)).trans g1,g2,g3⟩,hrows⟩
  rw[ja] at ev W;refine⟨w.setRow b c',?_,W,ev,Ì _ _ _⟩;rw[h7];have hrun':(storeVar t ⟨b,o+j,none⟩ (Value.int z y)).run P w=.ok () (w.setRow b c'):=l;simpa only[Instr.storeAt,Instr.sureAddr,Sem.run_bind,Sem.run_pure,Result.andThen_ok] using hrun'
 |_=>cases e
end
end Go.Am
end

noncomputable section
namespace Go.Am
variable [Globs] [Ghost]
section
variable {ν ν':Nat->Value} {h h':w9 Blk} {w w':World} {P:Program}
def SR (w:World) (av:Nat->Prop) (t:Ty) (xs:w9 (Val t)) (base:w8 Addr) (cap:Nat):Prop :=
 xs.length<=cap/\(xs=[]\/∃b off,base=some ⟨b,off,none⟩/\b<w.heap.size/\∀(i:Nat) (x:Val t),xs[i]?=some x->∃us,CR w av t x us/\CellsAt w b (off+i*t.size) us)
def SR.part {av:Nat->Prop} {t:Ty} {xs:w9 (Val t)} {base:w8 Addr} {cap l m:Nat} (e:SR w av t xs base cap) (p:l<=m) (o:m<=xs.length) :
 SR w av t ((xs.drop l).take (m-l)) (if cap=l then base else base.map (·.add (l*t.size))) (cap-l):=by
 obtain⟨q,h2⟩:=e
 have a:((xs.drop l).take (m-l)).length=m-l:=by simp; omega
 refine⟨by rw[a]; omega,?_⟩
 by_cases f:cap=l
 ·exact .inl (cZ.1 (by rw[a]; omega))
 rcases h2 with h2|⟨b,off,rfl,n,k⟩
 ·exact .inl (by rw[h2]; simp)
 ·refine .inr ⟨b,off+l*t.size,by rw[if_neg f]; simp[Ļ],n,fun i x c=>?_⟩
  have d:xs[l+i]?=some x:=by
   rw[dR] at c
   split at c
   ·simpa using c
   ·cases c
  obtain⟨us,j,g⟩:=k (l+i) x d;refine⟨us,j,?_⟩
  have:off+l*t.size+i*t.size=off+(l+i)*t.size:=by rw[dm]; omega
  rw[this]; exact g
def CR.slice_iff {av:Nat->Prop} {t:Ty} {xs:w9 (Val t)} {v:Value}:CR w av (.slice t) xs [v] ↔
 ∃base cap,v=.slice base xs.length cap/\SR w av t xs base cap/\(xs=[]\/∀b off,base=some ⟨b,off,none⟩->¬av b):=by
 constructor
 ·rintro⟨base,cap,g,h2,a⟩;refine⟨base,cap,by simpa using g,⟨h2,?_⟩,?_⟩
  ·rcases a with a|⟨b,off,a,c,e,d⟩
   ·exact .inl a
   ·exact .inr ⟨b,off,a,e,d⟩
  ·rcases a with a|⟨b,off,a,c,e,d⟩
   ·exact .inl a
   ·exact .inr fun i f hb=>by rw[a] at hb; cases hb; exact c
 ·rintro⟨base,cap,rfl,⟨h2,a⟩,c⟩;refine⟨base,cap,rfl,h2,?_⟩;rcases a with a|⟨b,off,a,e,d⟩
  ·exact .inl a
  ·rcases c with c|c
   ·exact .inl c
   ·exact .inr ⟨b,off,a,c b off a,e,d⟩
def CR.part {av:Nat->Prop} {t:Ty} {xs:w9 (Val t)} {base:w8 Addr} {cap l m:Nat} (e:CR w av (.slice t) xs [.slice base xs.length cap]) (g:l<=m) (f:m<=xs.length) :
 CR w av (.slice t) ((xs.drop l).take (m-l)) [.slice (if cap=l then base else base.map (·.add (l*t.size))) (m-l) (cap-l)]:=by
 obtain⟨base',cap',j,h2,c⟩:=CR.slice_iff.1 e;cases j
 have a:((xs.drop l).take (m-l)).length=m-l:=by simp; omega
 refine CR.slice_iff.2 ⟨_,_,by rw[a],h2.part g f,?_⟩;rcases c with c|c
 ·exact .inl (by rw[c]; simp)
 rcases h2.2 with i|⟨k,off0,rfl,_⟩
 ·exact .inl (by rw[i]; simp)
 ·right;intro b off hb;have d:=c k off0 rfl
  split at hb
  ·cases hb; exact d
  ·simp only[dQ,Ļ,Option.some.injEq,Addr.mk.injEq] at hb;rw[<-hb.1]; exact d
def agR (H:HR ν h w) {x:AV} {f:Value} {t:Ty} {ys:w9 (Val t)} (r:VR ν h w x f) (e:Ò (.slice t) [ò h x]=some ys) :
 ∃base cap,f=.slice base ys.length cap/\SR w (Av ν h) t ys base cap:=by
 have j:∀{a:AV},VRs w (Av ν h) a f->Ò (.slice t) [a]=some ys->∃base cap,f=.slice base ys.length cap/\SR w (Av ν h) t ys base cap:=fun u e=>by
  obtain⟨base,cap,p,h2,_⟩:=CR.slice_iff.1 (ē e ⟨u,trivial⟩);exact⟨base,cap,p,h2⟩
 have q:∀{t':Ty} {zs:w9 (Val t')},Ò (.slice t) [.slc t' zs]=some ys->∃e:t'=t,ys=qd (F:=fun t=>w9 (Val t)) e zs:=fun {t' zs} e=>by
  simp only[Ò,ū] at e
  split at e<;>try (cases e; done)
  rename_i y A
  split at A<;>try (cases A; done)
  rename_i E _;cases A; cases e;exact⟨E,rfl⟩
 cases x with
 |own id g =>
  obtain⟨G,t',g',fz,xs,o,v,z⟩:=r;simp only[ò,o] at e
  split at e
  ·rename_i d;obtain⟨rfl,rfl⟩:=q e;obtain⟨base,cap,p,h2,_,c⟩:=H.row_data o;refine⟨base,cap,by rw[z (by simpa using d),p],h2,?_⟩;rcases c with c|⟨b,off,c,C,_,B⟩
   ·exact .inl c
   ·exact .inr ⟨b,off,c,C,B⟩
  ·simp[Ò,ū] at e
 |sub id g lo n =>
  obtain⟨G,t',g',fz,xs,o,v,z⟩:=r;simp only[ò,o] at e
  split at e
  ·rename_i d;obtain⟨rfl,rfl⟩:=q e;obtain⟨k,base',cap',i,s⟩:=z (by simpa using d);obtain⟨base,cap,p,h2,_,c⟩:=H.row_data o
   rw[p] at i; injection i with K L J; subst K; subst J
   have u:SR w (Av ν h) t' xs base cap:=⟨h2,by
    rcases c with c|⟨b,off,c,C,_,B⟩
    ·exact .inl c
    ·exact .inr ⟨b,off,c,C,B⟩⟩
   have D:=u.part (l:=lo) (m:=lo+n) (by omega) k;rw[Nat.add_sub_cancel_left] at D
   have I:((xs.drop lo).take n).length=n:=by simp; omega
   refine⟨_,_,?_,D⟩;show f=.slice _ ((xs.drop lo).take n).length _;rw[I]; exact s
  ·simp[Ò,ū] at e
 |omp id =>
  simp only[ò] at e
  split at e<;>simp[Ò,ū] at e
 |nils=>exact j (a:=.nils) (VR1.data (a:=.nils) r) e
 |slc t' xs=>exact j (a:=.slc t' xs) (VR1.data (a:=.slc t' xs) r) e
 |_=>simp[ò,Ò,ū] at e
def flatten {av:Nat->Prop} {b:Nat} {t:Ty}:∀(ys:w9 (Val t)) (off:Nat),(∀(i:Nat) (y:Val t),ys[i]?=some y->∃us,CR w av t y us/\CellsAt w b (off+i*t.size) us) ->
 ∃news:w9 Value,news.length=ys.length*t.size/\CellsAt w b off news/\(∀v∈news,v.oneCell'=true)/\∀(i:Nat) (y:Val t),ys[i]?=some y->CR w av t y ((news.drop (i*t.size)).take t.size)
 |[],off,_=>⟨[],by simp,fun j v c=>by simp at c,by simp,fun i y hi=>by simp at hi⟩
 |y::ys,off,H=>by
  obtain⟨us,f,h2⟩:=H 0 y rfl
  obtain⟨news,o,n,m,l⟩:=flatten ys (off+t.size) fun i z d=>by
   obtain⟨ws,k,g⟩:=H (i+1) z (by simpa using d);refine⟨ws,k,?_⟩;rw[show off+t.size+i*t.size=off+(i+1)*t.size by rw[dm]; omega]; exact g
  have a:us.length=t.size:=f.length;refine⟨us++news,by simp[a,o,dm]; omega,fun j v c=>?_,fun v e=>?_,fun i z d=>?_⟩
  ·rw[eR] at c
   split at c
   ·simpa using h2 j v c
   ·have:=n _ v c
    rwa [show off+t.size+(j-us.length)=off+j by omega] at this
  ·rcases cO.1 e with e|e
   ·exact CR.oneCell f v e
   ·exact m v e
  ·cases i with
   |zero =>
    simp at d; subst d;simpa[<-a] using f
   |succ i =>
    have:=l i z (by simpa using d);rw[show(i+1)*t.size=us.length+i*t.size by rw[dm,a]; omega,<-fR,gw];exact this
def SR.flat {av:Nat->Prop} {t:Ty} {ys:w9 (Val t)} {base:w8 Addr} {cap:Nat} (c:SR w av t ys base cap) :
 ∃news:w9 Value,news.length=ys.length*t.size/\(∀a,base=some a->∀j v,news[j]?=some v->w.cell? (a.add j)=some v)/\(base=none->ys=[])/\(∀v∈news,v.oneCell'=true) /\
  ∀(i:Nat) (y:Val t),ys[i]?=some y->CR w av t y ((news.drop (i*t.size)).take t.size):=by
 rcases c.2 with rfl|⟨b,off,rfl,m,h2⟩
 ·exact⟨[],by simp,fun _ _ j v d=>by simp at d,fun _=>rfl,by simp,fun i y hi=>by simp at hi⟩
 ·obtain⟨news,l,k,g,f⟩:=flatten ys off h2;exact⟨news,l,fun a ha=>by cases ha; exact k.addr,fun e=>(by cases e),g,f⟩
end
end Go.Am
end

noncomputable section
namespace Go.Am
variable [Globs] [Ghost]
section
variable {ν ν':Nat->Value} {h h':w9 Blk} {w w':World} {P:Program}
def xN (w:World) (av:Nat->Prop) (t:Ty) (xs:w9 (Val t)) (news:w9 Value):Prop :=
 news.length=xs.length*t.size/\∀(i:Nat) (x:Val t),xs[i]?=some x->CR w av t x ((news.drop (i*t.size)).take t.size)
def xN.append {av:Nat->Prop} {t:Ty} {xs ys:w9 (Val t)} {m n:w9 Value} (a:xN w av t xs m) (h2:xN w av t ys n):xN w av t (xs++ys) (m++n):=by
 refine⟨by simp[a.1,h2.1,dm],fun i x hi=>?_⟩;rw[eR] at hi
 split at hi
 ·rename_i b;have:=a.2 i x hi;have hb:(i+1)*t.size<=xs.length*t.size:=dv _ b;rw[dm,fj] at hb;rw[fZ (by rw[a.1]; omega),eE (by rw[fD,a.1]; omega)];exact this
 ·rename_i c;have:=h2.2 _ x hi
  have:i*t.size=m.length+(i-xs.length)*t.size:=by rw[a.1,<-dm]; congr 1; omega
  rw[this,<-fR,gw];exact h2.2 _ x hi
def xN.cells {av:Nat->Prop} {t:Ty} {xs:w9 (Val t)} {news:w9 Value} (b:xN w av t xs news) {c:Array Value} {o:Nat} (d:∀(j:Nat) (v:Value),news[j]?=some v->c[o+j]?=some v) :
 ∀(i:Nat) (x:Val t),xs[i]?=some x->∃us,CR w av t x us/\∀j v,us[j]?=some v->c[o+i*t.size+j]?=some v:=by
 intro i x hi;refine⟨_,b.2 i x hi,fun j v a=>?_⟩;rw[dR] at a
 split at a
 ·rw[eA] at a;have:=d _ v a
  rwa [show o+(i*t.size+j)=o+i*t.size+j by omega] at this
 ·cases a
def AY (H:HR ν h w) {id g' cap':Nat} {t:Ty} {xs':w9 (Val t)} {c':Array Value} {e:TypeId} {news:w9 Value} (m:id<h.length)
 (g:∀V,(lkB h id).next ν (í ν id V) id (.row t g' false xs')) (n:w'.heap=w.heap.push (.cells c' e (0,0))) (p:w'.os=w.os) (f:w'.tape=w.tape) (l:w'.output=w.output)
 (q:xs'.length<=cap') (u:cap'*t.size<=c'.size) (y:xN w (Av ν h) t xs' news) (z:∀(j:Nat) (v:Value),news[j]?=some v->c'[j]?=some v) :
 Ev h.length ν h w (í ν id (.slice (some ⟨w.heap.size,0,none⟩) xs'.length cap')) (è h id (.row t g' false xs')) w' /\
  HR (í ν id (.slice (some ⟨w.heap.size,0,none⟩) xs'.length cap')) (è h id (.row t g' false xs')) w':=by
 have a:∀b,b<w.heap.size->((lkB h id).live=true->¬ģ (ν id) b)->w'.heap[b]?=w.heap[b]?:=fun b hb _=>by
  rw[n,eF]; simp[fq hb]
 have s:(Blk.row t g' false xs').live=true->∀k,ģ (Value.slice (some ⟨w.heap.size,0,none⟩) xs'.length cap') k->((lkB h id).live=true/\ģ (ν id) k)\/w.heap.size<=k:=fun _ k A=>by
  cases A; exact .inr (cJ _)
 have ev:=Ev.upd H (B:=.row t g' false xs') (V:=.slice (some ⟨w.heap.size,0,none⟩) xs'.length cap') (w':=w') m p f l (by rw[n]; simp) a s (g _)
 have d:w'.heap[w.heap.size]?=some (.cells c' e (0,0)):=by rw[n]; simp
 refine⟨ev,HR.upd H m ev a s ⟨_,cap',Ê _ _ _,q,.inr ⟨w.heap.size,0,c',e,rfl,d,by omega,fun i x hi=>?_⟩⟩⟩;obtain⟨us,C,h2⟩:=y.cells (o:=0) (c:=c') (fun j v r=>by simpa using z j v r) i x hi;refine⟨us,CR.keep ev.keepA C,fun j v r=>?_⟩;simp only[World.cell?,d];simpa using h2 j v r
def OV (H:HR ν h w) {id g':Nat} {t:Ty} (d:id<h.length) (c:∀V,(lkB h id).next ν (í ν id V) id (.row t g' false [])) :
 Ev h.length ν h w (í ν id (.slice none 0 0)) (è h id (.row t g' false [])) w/\HR (í ν id (.slice none 0 0)) (è h id (.row t g' false [])) w:=by
 have a:∀b,b<w.heap.size->((lkB h id).live=true->¬ģ (ν id) b)->w.heap[b]?=w.heap[b]?:=fun b hb _=>rfl
 have e:(Blk.row t g' false []).live=true->∀k,ģ (Value.slice none 0 0) k->((lkB h id).live=true/\ģ (ν id) k)\/w.heap.size<=k:=fun _ k f=>by cases f
 have ev:=Ev.upd H (B:=.row t g' false []) (V:=.slice none 0 0) (w':=w) d rfl rfl rfl (cJ _) a e (c _);exact⟨ev,HR.upd H d ev a e ⟨none,0,Ê _ _ _,cJ _,.inl ⟨rfl,rfl⟩⟩⟩
def vc {id g:Nat} {t:Ty} {fz:Bool} {xs:w9 (Val t)} {V:Value} {h:w9 Blk} (a:id<h.length) (b:V.oneCell'=true):VR (í ν id V) (è h id (.row t g fz xs)) w (.own id g) V :=
 ⟨b,t,g,fz,xs,Ø _ a,cJ _,fun _=>(Ê _ _ _).symm⟩
def ki {e:TypeId} {n:Nat} (a:B5 P e n=true):∃i z,P.info? e=some i/\i.size=n/\0<n/\i.bytes<=32768/\i.zero=some z/\z.cells.size=n:=by
 unfold B5 at a
 split at a
 ·rename_i i hi;simp only[cM,beq_iff_eq,decide_eq_true_eq] at a;obtain⟨f,h2,d,b⟩:=a
  split at b
  ·rename_i z c;exact⟨i,z,hi,f,h2,d,c,by simpa using b⟩
  ·cases b
 ·cases a
def nr (t ty e:TypeId) (i:TypeInfo) (p:P.underlying t=some (.slice e)) (hi:P.info? e=some i)
 {g o sLen sCap:Nat} {b:Array Value} {n:TypeId} (r:w.heap[g]?=some (.cells b n (0,0)))
 (base:w8 Addr) (m c:Nat) (news:w9 Value) (q:news.length=m*i.size) (f:∀a,base=some a->∀j u,news[j]?=some u->w.cell? (a.add j)=some u) (hb:base=none->news=[]) (v:∀u∈news,u.oneCell'=true)
 (d:sLen+m<=sCap) (l:o+sLen*i.size+news.length<=b.size) :
 (Builtin.append_ #[t,t] ty #[.slice (some ⟨g,o,none⟩) sLen sCap,.slice base m c]).run P w =
  .ok (.slice (some ⟨g,o,none⟩) (sLen+m) sCap) (w.setRow g (b.toList.take (o+sLen*i.size)++news++b.toList.drop (o+sLen*i.size+news.length)).toArray):=by
 have s:(Builtin.firstCells i.size m (.slice base m c)).run P w=.ok news.toArray w:=by
  cases base with
  |none=>rw[hb rfl]; exact run_firstCells_none (P:=P) w _ _ _ _
  |some a=>exact run_firstCells_some (P:=P) w i.size m a m c news q (f a rfl)
 have k:=run_storeCells_at P g (o+sLen*i.size) n news 0 b w r (by simpa using l) v;simp only[fK] at k;simp[Builtin.append_,run_underlying p,sizeOf,typeInfo,hi,Builtin.lenOf,d,s,Ļ,k]
def oQ (t ty e:TypeId) (i:TypeInfo) (b:P.underlying t=some (.slice e)) (hi:P.info? e=some i) (base:w8 Addr) (c:Nat) :
 (Builtin.append_ #[t,t] ty #[.slice none 0 0,.slice base 0 c]).run P w=.ok (.slice none 0 0) w:=by
 have f:(Builtin.firstCells i.size 0 (.slice base 0 c)).run P w=.ok #[] w:=by
  cases base with
  |none=>exact run_firstCells_none (P:=P) w _ _ _ _
  |some a=>exact run_firstCells_some (P:=P) w i.size 0 a 0 c [] (by simp) (fun j v d=>by simp at d)
 simp[Builtin.append_,run_underlying b,sizeOf,typeInfo,hi,Builtin.lenOf,f]
def LJ (H:HR ν h w) (t ty:TypeId) {e:TypeId} {i:TypeInfo} {z:Value} (N:P.underlying t=some (.slice e)) (hi:P.info? e=some i) (T:i.zero=some z) {f:Ty} (q:i.size=f.size) (hpos:0<f.size)
 (hby:i.bytes<=32768) (S:z.cells.size=f.size) {id g':Nat} (L:id<h.length) {xs ys:w9 (Val f)} (r:∀V,(lkB h id).next ν (í ν id V) id (.row f g' false (xs++ys)))
 {base:w8 Addr} {cap:Nat} {l:w8 Addr} {cy:Nat} (hy:SR w (Av ν h) f ys l cy)
 (hx:(base=none/\cap=0/\xs=[])\/∃g,lkB h id=.row f g false xs/\g<g'/\ν id=.slice base xs.length cap)
 (A:xs.length+ys.length<=4294967296) :
 ∃V w',(Builtin.append_ #[t,t] ty #[.slice base xs.length cap,.slice l ys.length cy]).run P w=.ok V w'/\V.oneCell'=true /\
  Ev h.length ν h w (í ν id V) (è h id (.row f g' false (xs++ys))) w'/\HR (í ν id V) (è h id (.row f g' false (xs++ys))) w':=by
 obtain⟨news,p,D,C,Y,X⟩:=hy.flat;have J:xN w (Av ν h) f ys news:=⟨p,X⟩
 have o:(xs.length+ys.length)*i.bytes<=140737488355328:=by
  have:=fQ A hby;omega
 have y:∀(s:Nat) (k:w9 Value),xN w (Av ν h) f xs k ->
  ∃V w',(Result.ok (Value.slice (some ⟨w.heap.size,0,none⟩) (xs.length+ys.length) (grownCap w (xs.length+ys.length) s e))
   (w.drew.alloc (.cells (k.toArray++news.toArray++Builtin.zeroCells z.cells (grownCap w (xs.length+ys.length) s e-(xs.length+ys.length))) e)):Result Value)=.ok V w'/\V.oneCell'=true /\
  Ev h.length ν h w (í ν id V) (è h id (.row f g' false (xs++ys))) w'/\HR (í ν id V) (è h id (.row f g' false (xs++ys))) w':=by
  intro s k u;have Z:=grownCap_ge w (xs.length+ys.length) s e;have hr:=u.append J
  have:=AY (w':=w.drew.alloc (.cells (k.toArray++news.toArray++Builtin.zeroCells z.cells (grownCap w (xs.length+ys.length) s e-(xs.length+ys.length))) e))
   H (cap':=grownCap w (xs.length+ys.length) s e) (g':=g') (t:=f) L r rfl rfl rfl rfl (by simpa using Z) (by
    simp only[gC,eT,size_zeroCells,S,u.1,J.1,<-dm]
    apply dv; omega) hr (fun j v B=>by
     rw[<-eh] at B;rw[eY,if_pos]
     ·simpa using B
     ·have:=(eS.1 B).1
      simpa using this)
  rw[cN] at this;exact⟨_,_,rfl,rfl,this⟩
 rcases hx with⟨rfl,rfl,rfl⟩|⟨g,hl,hg,O⟩
 ·by_cases m:ys=[]
  ·subst m;have d:=oQ (P:=P) (w:=w) t ty e i N hi l cy;exact⟨_,w,d,rfl,OV H L r⟩
  ·have h0:0<ys.length:=dX.2 m
   have hb:∃a,l=some a:=by
    cases l with
    |none=>exact absurd (C rfl) m
    |some a=>exact⟨a,rfl⟩
   obtain⟨a,rfl⟩:=hb;have d:=run_append_nil (P:=P) w t ty e i z N hi T a ys.length cy news (by rw[q]; exact p) (D a rfl) h0 (by simp at A; omega) (by simp at o; omega);obtain⟨V,w',I,h2,M,E⟩:=y 0 [] ⟨by simp,fun i x hi=>by simp at hi⟩;refine⟨V,w',?_,h2,M,E⟩;rw[<-I];simpa using d
 ·have hB:=H.blk id;rw[hl] at hB;obtain⟨base',cap',I,h2,M⟩:=hB
  rw[O] at I; injection I with q1 q2 q3; subst q1; subst q3
  rcases M with⟨rfl,rfl⟩|⟨b,off,c,e',rfl,E,h5,h6⟩
  ·have U:xs=[]:=cZ.1 (by omega);subst U
   by_cases m:ys=[]
   ·subst m;have d:=oQ (P:=P) (w:=w) t ty e i N hi l cy;exact⟨_,w,d,rfl,OV H L r⟩
   ·have h0:0<ys.length:=dX.2 m
    have hb:∃a,l=some a:=by
     cases l with
     |none=>exact absurd (C rfl) m
     |some a=>exact⟨a,rfl⟩
    obtain⟨a,rfl⟩:=hb;have d:=run_append_nil (P:=P) w t ty e i z N hi T a ys.length cy news (by rw[q]; exact p) (D a rfl) h0 (by simp at A; omega) (by simp at o; omega);obtain⟨V,w',I,h2,M,E⟩:=y 0 [] ⟨by simp,fun i x hi=>by simp at hi⟩;refine⟨V,w',?_,h2,M,E⟩;rw[<-I];simpa using d
  ·obtain⟨k,K,Q,ho3,W⟩:=flatten xs off h6;have u:xN w (Av ν h) f xs k:=⟨K,W⟩
   by_cases n:xs.length+ys.length<=cap
   ·have G:off+xs.length*i.size+news.length<=c.size:=by
     have:=dv f.size n;rw[q,p];rw[dm] at this;omega
    have d:=nr (P:=P) t ty e i N hi E l ys.length cy news (by rw[q]; exact p) D (fun hb=>by
     rw[C hb] at p; exact cZ.1 (by simpa using p)) Y n G
    have F:=OU H (xs':=xs++ys) (g':=g') (o':=off) (cap':=cap) (c':=(c.toList.take (off+xs.length*i.size)++news++c.toList.drop (off+xs.length*i.size+news.length)).toArray) hl
     (by rw[O]; rfl) E (by simpa using n) (by simp; omega) (.inl hg) ((u.append J).cells fun j v B=>by
      have hs:=oy c.toList news (off+xs.length*i.size) (off+j) (by simpa using G);rw[eh,hs];rw[eR] at B;rw[K,<-q] at B
      split at B
      ·rw[if_pos (by omega)];have:=Q j v B;simp only[World.cell?,E] at this;simpa using this
      ·have hjl:=(cQ.1 B).1;rw[if_neg (by omega),if_pos (by omega)]
       rw[show off+j-(off+xs.length*i.size)=j-xs.length*i.size by omega]; exact B)
    rw[cN] at F;exact⟨_,_,d,rfl,F⟩
   ·by_cases m:ys=[]
    ·subst m; simp at n; omega
    have hb:∃a,l=some a:=by
     cases l with
     |none=>exact absurd (C rfl) m
     |some a=>exact⟨a,rfl⟩
    obtain⟨a,rfl⟩:=hb;have d:=run_append_grow (P:=P) w t ty e i z N hi T ⟨b,off,none⟩ xs.length cap k (by rw[q]; exact K) Q.addr a ys.length cy news (by rw[q]; exact p) (D a rfl) (by omega) (by omega) (growslice_fits (by omega) o);obtain⟨V,w',I,h2,M,E⟩:=y cap k u;exact⟨V,w',d.trans I,h2,M,E⟩
end
end Go.Am
end

noncomputable section
namespace Go.Am
variable [Globs] [Ghost]
section
variable {ν ν':Nat->Value} {h h':w9 Blk} {w w':World} {P:Program}
def ň (P:Program) (ν:Nat->Value) (h:w9 Blk) (w:World) (x:Sem Value) (v:AV) (h':w9 Blk):Prop :=
 ∃ν' w' u,x.run P w=.ok u w'/\VR ν' h' w' v u/\HR ν' h' w'/\Ev h.length ν h w ν' h' w'/\h'.length=h.length
def ň.still {x:Sem Value} {u:Value} {v:AV} (H:HR ν h w) (b:x.run P w=.ok u w) (a:VR ν h w v u):ň P ν h w x v h :=
 ⟨ν,w,u,b,a,H,Ev.refl _ _ _ _,rfl⟩
def jl {t e:TypeId} (h:BF P t=some e):P.underlying t=some (.slice e):=by
 unfold BF at h
 split at h
 ·rename_i a h'; cases h; exact h'
 ·cases h
def acQ {nid:Nat} {t ty:TypeId} {s x v:AV} {us D:Value} (H:HR ν h w) (I:nid<h.length) (hd:lkB h nid=.dead)
 (e:uU P h nid t s x (fun v h=>some (v,h))=some (v,h')) (G:VR ν h w s us) (N:VR ν h w x D):ň P ν h w (Builtin.append_ #[t,t] ty #[us,D]) v h':=by
 unfold uU at e
 split at e<;>try (cases e; done)
 rename_i Z A
 split at e<;>try (cases e; done)
 rename_i T J
 split at e<;>try (cases e; done)
 rename_i l;obtain⟨i,z,hi,j,b,p,E,f⟩:=ki l
 split at e<;>try (cases e; done)
 rename_i ys q;obtain⟨U,cy,rfl,k⟩:=agR H N q;have F:=jl A
 split at e
 ·-- nil
  split at e<;>try (cases e; done)
  rename_i a;cases e;have c:us=.slice none 0 0:=G;subst c
  obtain⟨V,w',d,h2,C,B⟩:=LJ H t ty F hi E j b p f (id:=nid) (g':=0) I (xs:=[]) (ys:=ys) (fun V=>by rw[hd]; trivial) (base:=none) (cap:=0) k (.inl ⟨rfl,rfl,rfl⟩)
   (by simp[Ý] at a; simpa using a)
  exact⟨_,w',V,d,vc I h2,B,C,Ì _ _ _⟩
 ·rename_i id g
  split at e<;>try (cases e; done)
  rename_i M g' xs n
  split at e<;>try (cases e; done)
  rename_i u
  split at e<;>try (cases e; done)
  rename_i y _;subst y
  split at e<;>try (cases e; done)
  rename_i a
  have Q:g=g':=by simpa using u
  subst Q;obtain⟨W,t2,Y,S,L,m,O,r⟩:=G;rw[n] at m; cases m;have o:id<h.length:=Ł n (by simp);have K:=H.blk id;rw[n] at K;obtain⟨base,cap,d,_,_⟩:=K
  have c:us=.slice base xs.length cap:=by rw[r rfl,d]
  subst c
  obtain⟨V,w',d,h2,C,B⟩:=LJ H t ty F hi E j b p f (id:=id) (g':=g+1) o (xs:=xs) (ys:=ys) (fun V=>by
   rw[n]; exact⟨g+1,false,xs++ys,rfl,fY _,fun X=>by omega⟩) (base:=base) (cap:=cap) k (.inr ⟨g,n,gG _,d⟩)
   (by simpa[Ý] using a)
  cases e;exact⟨_,w',V,d,vc o h2,B,C,Ì _ _ _⟩
 ·cases e
def aeh {t e:TypeId} {sz:Nat} {x i v:AV} {N Q:Value} (H:HR ν h w) (ht:P.underlying t=some (.slice e)) (hs:szP P e=some sz)
 (d:AE sz h x i some=some v) (G:VR ν h w x N) (hi:VR ν h w i Q):ň P ν h w (Instr.indexAt t N Q) v h:=by
 unfold AE at d
 split at d<;>try (cases d; done)
 rename_i k n;have V:Q=.int k n:=hi;subst V
 have run:∀(a:Addr) (len cap:Nat),0<=n->n<len->(Instr.indexAt t (.slice (some a) len cap) (.int k n)).run P w=.ok (.pointer (some (a.add (n.toNat*sz)))) w:=by
  intro a len cap h0 p;simp[Instr.indexAt,asIntOf,run_underlying ht,lQ hs,h0,p]
 split at d
 ·rename_i ty xs
  split at d<;>try (cases d; done)
  rename_i z;simp only[cM,beq_iff_eq,decide_eq_true_eq] at z;obtain⟨j,h0⟩:=z
  split at d<;>try (cases d; done)
  rename_i y hy;cases d;obtain⟨base,cap,rfl,W,A⟩:=CR.slice_iff.1 G;have B:=(cQ.1 hy).1;rcases W.2 with p|⟨b,off,rfl,p,h2⟩
  ·rw[p] at B; simp at B
  ·obtain⟨us,r,L⟩:=h2 _ y hy;refine ň.still H (run _ _ _ h0 (by omega)) ?_;rcases A with A|A
   ·rw[A] at B; simp at B
   ·exact⟨b,off+n.toNat*ty.size,us,by rw[Ļ,j]; rfl,A b off rfl,p,r,L⟩
 ·rename_i id g
  split at d<;>try (cases d; done)
  rename_i ty g' fz xs u
  split at d<;>try (cases d; done)
  rename_i z;simp only[cM,beq_iff_eq] at z;obtain⟨rfl,j⟩:=z
  split at d<;>try (cases d; done)
  rename_i o;simp only[cM,decide_eq_true_eq] at o;cases d;obtain⟨X,t2,Z,fz2,M,f,E,s⟩:=G;rw[u] at f; cases f;obtain⟨base,cap,p,h2,_,r⟩:=H.row_data u
  have U:N=.slice base xs.length cap:=by rw[s rfl,p]
  subst U;rcases r with r|⟨b,off,rfl,r,_,_⟩
  ·rw[r] at o; simp at o; omega
  ·refine ň.still H (run _ _ _ o.1 o.2) ?_;refine⟨rfl,ty,g,fz,xs,u,cJ _,fun _=>⟨by omega,b,off,cap,p,?_⟩⟩;rw[Ļ,j]; rfl
 ·rename_i id g lo m
  split at d<;>try (cases d; done)
  rename_i ty g' fz xs u
  split at d<;>try (cases d; done)
  rename_i z;simp only[cM,beq_iff_eq] at z;obtain⟨rfl,j⟩:=z
  split at d<;>try (cases d; done)
  rename_i o;simp only[cM,decide_eq_true_eq] at o;cases d;obtain⟨X,t2,Z,fz2,M,f,E,s⟩:=G;rw[u] at f; cases f;obtain⟨base,cap,p,h2,_,r⟩:=H.row_data u;obtain⟨C,base',cap',l,D⟩:=s rfl
  rw[p] at l; injection l with K J q3; subst K; subst q3
  rcases r with r|⟨b,off,rfl,r,_,_⟩
  ·rw[r] at C; simp at C; omega
  ·have Y:¬cap=lo:=by omega
   rw[if_neg Y] at D;simp only[dQ,Ļ] at D;subst D;refine ň.still H (run _ _ _ o.1 o.2) ?_;refine⟨rfl,ty,g,fz,xs,u,cJ _,fun _=>⟨by omega,b,off,cap,p,?_⟩⟩;rw[Ļ,<-j]
   have:off+lo*ty.size+n.toNat*ty.size=off+(lo+n.toNat)*ty.size:=by rw[dm]; omega
   rw[this]; rfl
 ·rename_i id g
  split at d<;>try (cases d; done)
  rename_i S g' xss u
  split at d<;>try (cases d; done)
  rename_i z;simp only[cM,beq_iff_eq] at z;obtain⟨rfl,j⟩:=z;obtain rfl:=cR j
  split at d<;>try (cases d; done)
  rename_i o;simp only[cM,decide_eq_true_eq] at o;cases d;obtain⟨X,k3,Z,F,f,E,s⟩:=G;rw[u] at f; cases f;obtain⟨us,l⟩:=s rfl;obtain⟨base,cap,O,p,h2,_,r,_⟩:=H.table u;rw[l] at p;have q:=lF p
  injection q with K J
  subst K J;rcases r with⟨rfl,r⟩|⟨b,off,c,e',rfl,_⟩
  ·omega
  ·refine ň.still H (run _ _ _ o.1 o.2) ?_;refine⟨rfl,S,g,xss,u,cJ _,fun _=>⟨by omega,us,b,off,_,cap,l,?_⟩⟩;rw[Ļ,fI]
 ·rename_i id g i0
  split at d<;>try (cases d; done)
  rename_i S g' xss u
  split at d<;>try (cases d; done)
  rename_i z;simp only[cM,beq_iff_eq] at z;obtain⟨rfl,j⟩:=z;obtain rfl:=cR j
  split at d<;>try (cases d; done)
  rename_i xs T
  split at d<;>try (cases d; done)
  rename_i o;simp only[cM,decide_eq_true_eq] at o;cases d;obtain⟨X,k3,Z,F,f,E,s⟩:=G;rw[u] at f; cases f;obtain⟨u0,us,l,hu⟩:=s rfl;obtain⟨base,cap,O,p,h2,_,_,r⟩:=H.table u;rw[l] at p;have q:=lF p
  injection q with K J
  subst J;obtain⟨base2,I,rfl,hc2,L⟩:=r.get2 T hu;rcases L with⟨rfl,L⟩|⟨b,off,c,e',rfl,_⟩
  ·omega
  ·refine ň.still H (run _ _ _ o.1 o.2) ?_;refine⟨rfl,S,g,xss,u,cJ _,fun _=>⟨u0,us,b,off,_,I,l,hu,by omega,?_⟩⟩;rw[Ļ,fI]
 ·cases d
def jb {b:Nat} {es:Array MapEntry} {c:Nat} (hb:w.heap[b]?=some (.map es c)):(getObj b).run P w=.ok (.map es c) w:=by simp[getObj,Sem.run,hb]
def len_ok {t ty:TypeId} {x v:AV} {z:Value} (H:HR ν h w) (e:ac9 (P.underlying t) h x some=some v) (m:VR ν h w x z) {ts:Array TypeId} (g:ts[0]?=some t):ň P ν h w (Builtin.len_ ts ty #[z]) v h:=by
 unfold ac9 at e;simp only[lT] at e
 split at e
 ·rename_i W o
  have run:∀(b:w8 Addr) (n c:Nat),(Builtin.len_ ts ty #[.slice b n c]).run P w=.ok (.int .i64 n) w:=fun b n c=>by
   simp[Builtin.len_,g,run_underlying o,goInt]
  split at e<;>try (cases e; done)
  ·cases e;obtain⟨base,cap,rfl,_⟩:=CR.slice_iff.1 m;exact ň.still H (run _ _ _) rfl
  ·cases e;have:z=.slice none 0 0:=m;subst this;exact ň.still H (run _ _ _) rfl
  ·split at e<;>try (cases e; done)
   rename_i E g' fz xs i
   split at e<;>try (cases e; done)
   rename_i f;cases e;obtain⟨B,t2,G,I,C,a,s,d⟩:=m;rw[i] at a; cases a;obtain⟨base,cap,j,_⟩:=H.row_data i;rw[d (by simpa using f),j];exact ň.still H (run _ _ _) rfl
  ·split at e<;>try (cases e; done)
   rename_i E g' fz xs i
   split at e<;>try (cases e; done)
   rename_i f;cases e;obtain⟨B,t2,G,I,C,a,s,d⟩:=m;rw[i] at a; cases a;obtain⟨_,base,cap,_,rfl⟩:=d (by simpa using f);exact ň.still H (run _ _ _) rfl
  ·split at e<;>try (cases e; done)
   rename_i M g' xss i
   split at e<;>try (cases e; done)
   rename_i f;cases e;obtain⟨B,Q,G,y,a,s,d⟩:=m;rw[i] at a; cases a;obtain⟨us,p⟩:=d (by simpa using f);obtain⟨base,cap,D,j,_⟩:=H.table i;rw[p] at j;have q:=lF j
   injection q with L K
   subst L;exact ň.still H (run _ _ _) rfl
  ·split at e<;>try (cases e; done)
   rename_i M g' xss i
   split at e<;>try (cases e; done)
   rename_i f
   split at e<;>try (cases e; done)
   rename_i xs F;cases e;obtain⟨B,Q,G,y,a,s,d⟩:=m;rw[i] at a; cases a;obtain⟨Y,us,p,S⟩:=d (by simpa using f);obtain⟨base,cap,D,j,h2,_,_,A⟩:=H.table i;rw[p] at j;have q:=lF j
   injection q with L K
   subst K;obtain⟨J,O,rfl,U,h4⟩:=A.get2 F S;exact ň.still H (run _ _ _) rfl
 ·rename_i o
  split at e<;>try (cases e; done)
  cases e;have:z=.string _:=m;subst this;exact ň.still H (by simp[Builtin.len_,g,run_underlying o,goInt]) rfl
 ·rename_i k W o
  split at e<;>try (cases e; done)
  ·cases e;obtain⟨r,T,j⟩:=m;cases T;rcases j with⟨rfl,rfl⟩|⟨b,l,u,rfl,_,h2,A,_⟩
   ·exact ň.still H (by simp[Builtin.len_,g,run_underlying o,goInt]) rfl
   ·exact ň.still H (by simp[Builtin.len_,g,run_underlying o,goInt,jb h2,A]) rfl
  ·cases e;have:z=.map none:=m;subst this;exact ň.still H (by simp[Builtin.len_,g,run_underlying o,goInt]) rfl
  ·split at e<;>try (cases e; done)
   rename_i Z X es i;cases e;obtain⟨B,M,v2,V,a,d⟩:=m;rw[i] at a; cases a;have N:=H.blk ‹Nat›;rw[i] at N;obtain⟨b,l,u,j,h2,A,_⟩:=N;rw[d,j];exact ň.still H (by simp[Builtin.len_,g,run_underlying o,goInt,jb h2,A]) rfl
 ·cases e
def QU {k:IntKind} {n:Int} {y:Nat} {a:BoundsCode} (h0:0<=n) (b:n<=y) (w:World):(Instr.sliceBound (.int k n) y a).run P w=.ok n.toNat w:=by
 simp[Instr.sliceBound,asIntOf,h0,b]
def Lo (low:w8 Value) (l m:Nat):Prop:=(low=none/\l=0)\/∃k n,low=some (.int k n)/\0<=n/\n<=(m:Int)/\l=n.toNat
def Hi (a:w8 Value) (len cap m:Nat):Prop:=(a=none/\m=len)\/∃k n,a=some (.int k n)/\0<=n/\n<=(cap:Int)/\m=n.toNat
def vQ {t e:TypeId} {sz:Nat} (c:P.underlying t=some (.slice e)) (d:szP P e=some sz) {low b:w8 Value} {a:w8 Addr} {len cap l m:Nat} (f:Lo low l m) (g:Hi b len cap m) (w:World) :
 (Instr.sliceAt t (.slice a len cap) low b none).run P w=.ok (.slice (if cap=l then a else a.map (·.add (l*sz))) (m-l) (cap-l)) w:=by
 rcases f with⟨rfl,rfl⟩|⟨k,n,rfl,i,h2,rfl⟩<;>rcases g with⟨rfl,rfl⟩|⟨o,j,rfl,q,p,rfl⟩ <;>
  simp[Instr.sliceAt,run_underlying c,Instr.slice,Instr.sliceBounds,lQ d,QU, *]
 rw[QU i h2]; rfl
def adu {t e:TypeId} {sz:Nat} {x v:AV} {lo hi:w8 AV} {f j:w8 Value} {Q:Value} {eat:Bool} (H:HR ν h w) (L:P.underlying t=some (.slice e)) (M:szP P e=some sz)
 (d:oO sz h x lo hi eat (fun v h=>some (v,h))=some (v,h')) (y:VR ν h w x Q)
 (z:∀a,lo=some a->∃u,f=some u/\VR ν h w a u) (o:lo=none->f=none) (D:∀a,hi=some a->∃u,j=some u/\VR ν h w a u) (p:hi=none->j=none) :
 ň P ν h w (Instr.sliceAt t Q f j none) v h':=by
 have s:∀{k:IntKind} {n:Int} {m:Nat},lo=some (.int k n)->0<=n->n<=(m:Int)->Lo f n.toNat m:=fun e h0 E=>by
  obtain⟨u,h2,S⟩:=z _ e;have:u=_:=S;subst this;exact .inr ⟨_,_,h2,h0,E,rfl⟩
 have r:∀{k:IntKind} {n:Int} {len cap:Nat},hi=some (.int k n)->0<=n->n<=(cap:Int)->Hi j len cap n.toNat:=fun e h0 E=>by
  obtain⟨u,h2,S⟩:=D _ e;have:u=_:=S;subst this;exact .inr ⟨_,_,h2,h0,E,rfl⟩
 unfold oO at d
 split at d
 ·rename_i ty xs
  split at d<;>try (cases d; done)
  rename_i q
  have q:ty.size=sz:=by simpa using q
  obtain⟨base,cap,rfl,W,_⟩:=CR.slice_iff.1 y
  have fin:∀(l m:Nat),Lo f l m->Hi j xs.length cap m->l<=m->m<=xs.length->ň P ν h w (Instr.sliceAt t (.slice base xs.length cap) f j none) (.slc ty ((xs.drop l).take (m-l))) h:=fun l m F X E h2=>by
   refine ň.still H (vQ L M F X w) ?_;rw[<-q];exact CR.part y E h2
  have hcap:=W.1
  split at d<;>try (cases d; done)
  ·split at d<;>try (cases d; done)
   rename_i hb;simp only[cM,decide_eq_true_eq] at hb;cases d;have:=fin _ _ (s rfl hb.1 (by omega)) (r rfl (by omega) (by omega)) (by omega) (by omega)
   rw[show ∀a b:Int,0<=a->a<=b->(b-a).toNat=b.toNat-a.toNat from fun a b _ _=>by omega]<;>first|exact this|omega
  ·split at d<;>try (cases d; done)
   rename_i hb;simp only[cM,decide_eq_true_eq] at hb;cases d;have:=fin _ xs.length (s rfl hb.1 (by omega)) (.inl ⟨p rfl,rfl⟩) (by omega) (cJ _)
   rwa [dN (by simp)] at this
  ·split at d<;>try (cases d; done)
   rename_i hb;simp only[cM,decide_eq_true_eq] at hb;cases d;have:=fin 0 _ (.inl ⟨o rfl,rfl⟩) (r rfl (by omega) (by omega)) (dI _) (by omega);simpa using this
  ·cases d;have:=fin 0 xs.length (.inl ⟨o rfl,rfl⟩) (.inl ⟨p rfl,rfl⟩) (dI _) (cJ _);simpa using this
 ·have I:Q=.slice none 0 0:=y;subst I
  split at d<;>try (cases d; done)
  ·split at d<;>try (cases d; done)
   rename_i hb;simp only[decide_eq_true_eq] at hb;cases d;subst hb;refine ň.still H (vQ L M (.inl ⟨o rfl,rfl⟩) (r rfl (by omega) (by omega)) w) ?_;simp; rfl
  ·cases d;refine ň.still H (vQ L M (l:=0) (m:=0) (.inl ⟨o rfl,rfl⟩) (.inl ⟨p rfl,rfl⟩) w) ?_;simp; rfl
 ·rename_i id g
  split at d<;>try (cases d; done)
  rename_i ty g' fz xs F
  split at d<;>try (cases d; done)
  rename_i hc;simp only[cM,beq_iff_eq] at hc;obtain⟨rfl,q⟩:=hc;obtain⟨ho,t2,g2,fz2,xs2,N,hle,U⟩:=y;rw[F] at N; cases N;obtain⟨base,cap,E,h2,S,h4⟩:=H.row_data F
  have I:Q=.slice base xs.length cap:=by rw[U rfl,E]
  subst I
  split at d
  ·-- the cut replaces the row
   split at d<;>try (cases d; done)
   have J:id<h.length:=Ł F (by simp)
   have G:∀(l m:Nat),Lo f l m->Hi j xs.length cap m->l<=m->m<=xs.length->ň P ν h w (Instr.sliceAt t (.slice base xs.length cap) f j none) (.own id (g+1)) (è h id (.row ty (g+1) false ((xs.drop l).take (m-l)))):=fun l m z D Y X=>by
    have hB:=H.blk id;rw[F] at hB;obtain⟨base',cap',q1,_,q2⟩:=hB
    rw[E] at q1; injection q1 with e1 e2 e3; subst e1; subst e3
    have A:((xs.drop l).take (m-l)).length=m-l:=by simp; omega
    have O:∀b,ģ (Value.slice (if cap=l then base else base.map (·.add (l*sz))) (m-l) (cap-l)) b->ģ (ν id) b:=fun b hb=>by
     rw[E]
     cases base with
     |none=>split at hb<;>cases hb
     |some a =>
      split at hb
      ·exact hb
      ·have:(a.add (l*sz)).block=a.block:=by unfold Addr.add; split<;>rfl
       simp only[ģ,jQ,dQ,Option.some.injEq] at hb ⊢;rw[<-hb,this]
    have C:∀b,b<w.heap.size->((lkB h id).live=true->¬ģ (ν id) b)->w.heap[b]?=w.heap[b]?:=fun _ _ _=>rfl
    have hV:(Blk.row ty (g+1) false ((xs.drop l).take (m-l))).live=true->∀b,ģ (Value.slice (if cap=l then base else base.map (·.add (l*sz))) (m-l) (cap-l)) b->((lkB h id).live=true/\ģ (ν id) b)\/w.heap.size<=b :=
     fun _ b hb=>.inl ⟨by rw[F]; rfl,O b hb⟩
    have ev:=Ev.upd H (B:=.row ty (g+1) false ((xs.drop l).take (m-l))) (V:=.slice (if cap=l then base else base.map (·.add (l*sz))) (m-l) (cap-l)) (w':=w) J rfl rfl rfl (cJ _) C hV (by
     rw[F]; exact⟨g+1,false,_,rfl,fY _,fun hf=>by omega⟩)
    refine⟨_,w,_,vQ L M z D w,vc J rfl,HR.upd H J ev C hV ⟨_,cap-l,by rw[Ê,A],by rw[A]; omega,?_⟩,ev,Ì _ _ _⟩;rcases q2 with⟨rfl,rfl⟩|⟨b,off,c,e',rfl,Z,q4,q5⟩
    ·left; exact⟨by split<;>rfl,by omega⟩
    ·right
     by_cases K:cap=l
     ·refine⟨b,off,c,e',by rw[if_pos K],Z,by rw[K,Nat.sub_self,Nat.zero_mul]; omega,fun i x y=>?_⟩;have:=(cQ.1 y).1;rw[A] at this; omega
     ·refine⟨b,off+l*ty.size,c,e',by rw[if_neg K]; simp[Ļ,q],Z,?_,fun i x y=>?_⟩
      ·have:(cap-l)*ty.size=cap*ty.size-l*ty.size:=Nat.sub_mul _ _ _;have h5:l*ty.size<=cap*ty.size:=dv _ (by omega);omega
      ·have T:xs[l+i]?=some x:=by
        rw[dR] at y
        split at y
        ·simpa using y
        ·cases y
       obtain⟨us,q6,q7⟩:=q5 (l+i) x T;refine⟨us,CR.keep ev.keepA q6,?_⟩
       have:off+l*ty.size+i*ty.size=off+(l+i)*ty.size:=by rw[dm]; omega
       rw[this]; exact q7
   split at d<;>try (cases d; done)
   ·split at d<;>try (cases d; done)
    rename_i hb;simp only[cM,decide_eq_true_eq] at hb;cases d;have:=G _ xs.length (s rfl hb.1 (by omega)) (.inl ⟨p rfl,rfl⟩) (by omega) (cJ _)
    rwa [dN (by simp)] at this
   ·split at d<;>try (cases d; done)
    rename_i hb;simp only[cM,decide_eq_true_eq] at hb;cases d;have:=G 0 _ (.inl ⟨o rfl,rfl⟩) (r rfl (by omega) (by omega)) (dI _) (by omega);simpa using this
  ·have fin:∀(l m:Nat),Lo f l m->Hi j xs.length cap m->l<=m->m<=xs.length->ň P ν h w (Instr.sliceAt t (.slice base xs.length cap) f j none) (.sub id g l (m-l)) h:=fun l m z D Y X=>by
    refine ň.still H (vQ L M z D w) ?_;refine⟨rfl,ty,g,fz,xs,F,cJ _,fun _=>⟨by omega,base,cap,E,by rw[q]⟩⟩
   split at d<;>try (cases d; done)
   ·split at d<;>try (cases d; done)
    rename_i hb;simp only[cM,decide_eq_true_eq] at hb;cases d;have:=fin _ _ (s rfl hb.1 (by omega)) (r rfl (by omega) (by omega)) (by omega) (by omega)
    rw[show ∀a b:Int,0<=a->a<=b->(b-a).toNat=b.toNat-a.toNat from fun a b _ _=>by omega]<;>first|exact this|omega
   ·split at d<;>try (cases d; done)
    rename_i hb;simp only[cM,decide_eq_true_eq] at hb;cases d;exact fin _ xs.length (s rfl hb.1 (by omega)) (.inl ⟨p rfl,rfl⟩) (by omega) (cJ _)
   ·split at d<;>try (cases d; done)
    rename_i hb;simp only[cM,decide_eq_true_eq] at hb;cases d;have:=fin 0 _ (.inl ⟨o rfl,rfl⟩) (r rfl (by omega) (by omega)) (dI _) (by omega);simpa using this
 ·cases d
def agS (H:HR ν h w) {id g lo n:Nat} {ty:Ty} {xs:w9 (Val ty)} {u:Value} (l:lkB h id=.row ty g false xs) (S:lo+n=xs.length) (I:VR ν h w (.sub id g lo n) u) :
 ∃ν',VR ν' (è h id (.row ty (g+1) false (xs.drop lo))) w (.own id (g+1)) u/\HR ν' (è h id (.row ty (g+1) false (xs.drop lo))) w/\Ev h.length ν h w ν' (è h id (.row ty (g+1) false (xs.drop lo))) w:=by
 obtain⟨J,t2,W,L,C,k,K,q⟩:=I;rw[l] at k; cases k;obtain⟨_,base,cap,z,t⟩:=q rfl;have f:id<h.length:=Ł l (by simp);have y:=H.blk id;rw[l] at y;obtain⟨base',cap',s,O,G⟩:=y
 rw[z] at s; injection s with N X M; subst N; subst M
 have d:(xs.drop lo).length=n:=by simp; omega
 have m:∀b,ģ u b->ģ (ν id) b:=fun b hb=>by
  rw[z];rw[t] at hb
  cases base with
  |none=>split at hb<;>cases hb
  |some a =>
   split at hb
   ·exact hb
   ·have:(a.add (lo*ty.size)).block=a.block:=by unfold Addr.add; split<;>rfl
    simp only[ģ,jQ,dQ,Option.some.injEq] at hb ⊢;rw[<-hb,this]
 have e:∀b,b<w.heap.size->((lkB h id).live=true->¬ģ (ν id) b)->w.heap[b]?=w.heap[b]?:=fun _ _ _=>rfl
 have v:(Blk.row ty (g+1) false (xs.drop lo)).live=true->∀b,ģ u b->((lkB h id).live=true/\ģ (ν id) b)\/w.heap.size<=b :=
  fun _ b hb=>.inl ⟨by rw[l]; rfl,m b hb⟩
 have ev:=Ev.upd H (B:=.row ty (g+1) false (xs.drop lo)) (V:=u) (w':=w) f rfl rfl rfl (cJ _) e v (by
  rw[l]; exact⟨g+1,false,_,rfl,fY _,fun T=>by omega⟩)
 refine⟨_,vc f J,HR.upd H f ev e v ⟨_,cap-lo,by rw[Ê,d,t],by rw[d]; omega,?_⟩,ev⟩;rcases G with⟨rfl,rfl⟩|⟨b,off,c,A,rfl,r,Q,F⟩
 ·left; exact⟨by split<;>rfl,by omega⟩
 ·right
  by_cases j:cap=lo
  ·refine⟨b,off,c,A,by rw[if_pos j],r,by rw[j,Nat.sub_self,Nat.zero_mul]; omega,fun i x p=>?_⟩;have:=(cQ.1 p).1;rw[d] at this; omega
  ·refine⟨b,off+lo*ty.size,c,A,by rw[if_neg j]; simp[Ļ],r,?_,fun i x p=>?_⟩
   ·have:(cap-lo)*ty.size=cap*ty.size-lo*ty.size:=Nat.sub_mul _ _ _;have U:lo*ty.size<=cap*ty.size:=dv _ (by omega);omega
   ·have o:xs[lo+i]?=some x:=by simpa using p
    obtain⟨us,E,D⟩:=F (lo+i) x o;refine⟨us,CR.keep ev.keepA E,?_⟩
    have:off+lo*ty.size+i*ty.size=off+(lo+i)*ty.size:=by rw[dm]; omega
    rw[this]; exact D
end
end Go.Am
end

noncomputable section
namespace Go.Am
variable [Globs] [Ghost]
section
variable {ν ν':Nat->Value} {h h':w9 Blk} {w w':World} {P:Program}
def LQ {z:Array Value} {n i:Nat} (hi:i<n):((Builtin.zeroCells z n).toList.drop (i*z.size)).take z.size=z.toList:=by
 have hb:i*z.size+z.size<=n*z.size:=by
  have:=dv z.size (show i+1<=n from hi)
  rwa [dm,fj] at this
 apply List.ext_getElem?
 intro j;rw[dR]
 split
 ·rename_i a;rw[eA];simp only[Builtin.zeroCells,fT,Array.toList_range,eI];rw[gg (by omega)];simp only[dQ]
  have b:(i*z.size+j) % z.size=j:=by rw[Nat.mul_comm,Nat.mul_add_mod]; exact Nat.mod_eq_of_lt a
  rw[b];simp[getElem!_pos,a]
 ·rename_i a;rw[List.getElem?_eq_none]; simpa using a
def TR {e:TypeId} {t:Ty} {i:TypeInfo} {z:Value} {zs:w9 AV} {x:Val t} {av:Nat->Prop} (hi:P.info? e=some i) (d:i.zero=some z)
 (c:(((P.info? e).bind (·.zero)).map cv).bind į=some zs) (h2:Ò t zs=some x) (H:HR ν h w) (a:∀b,av b->Av ν h b):CR w av t x z.cells.toList:=by
 simp only[hi,d,ee,dQ] at c;have:=(Tg (ν:=ν) (h:=h) (w:=w) z).cells c;exact CR.mono a (ē h2 (this.mono fun _ _ f=>VR1.data f.1))
def Ia {t:Ty} {x:Val t} {z:Array Value} {av:Nat->Prop} (b:z.size=t.size) (c:CR w av t x z.toList) (n:Nat):xN w av t (List.replicate n x) (Builtin.zeroCells z n).toList:=by
 refine⟨by simp[Builtin.zeroCells,b],fun i y hi=>?_⟩
 have a:i<n:=by simpa using(cQ.1 hi).1
 rw[List.getElem?_replicate,if_pos a] at hi;cases hi;rw[<-b,LQ a];exact c
def Cl {n:Nat} (h:0<n):Builtin.nextslicecap n 0=n:=by simp[Builtin.nextslicecap]; omega
def wrap_i64 {n:Int} (a : -9223372036854775808<=n) (h2:n<=9223372036854775807):IntKind.i64.wrap n=n:=by
 have e:IntKind.i64.wrap n=if n % 18446744073709551616>=9223372036854775808 then n % 18446744073709551616-18446744073709551616 else n % 18446744073709551616:=by
  simp[IntKind.wrap,IntKind.bits,IntKind.signed]
 rw[e]
 split<;>omega
def ade {nid:Nat} {t t' ty:TypeId} {k:IntKind} {s x v:AV} {us o:Value} (H:HR ν h w) (J:nid<h.length) (hd:lkB h nid=.dead) (A:P.underlying t'=some (.int k))
 (e:BO P h nid t s x (fun v h=>some (v,h))=some (v,h')) (T:VR ν h w s us) (N:VR ν h w x o):ň P ν h w (Builtin.append_ #[t,t'] ty #[us,o]) v h':=by
 unfold BO at e
 split at e<;>try (cases e; done)
 rename_i n m C
 split at e<;>try (cases e; done)
 rename_i Y K
 split at e<;>try (cases e; done)
 rename_i d;obtain⟨i,z,hi,S,I,D,G,c⟩:=ki d
 split at e<;>try (cases e; done)
 rename_i zs p
 split at e<;>try (cases e; done)
 rename_i M q
 split at e<;>try (cases e; done)
 rename_i f;cases e;have Q:=jl C;have y:us=.slice none 0 0:=T;have u:o=.int .i64 n:=N;subst y u;simp only[cM,decide_eq_true_eq,Ý] at f;have r:=TR hi G p q H (av:=Av ν h) fun _ hb=>hb;have U:=Ia (by rw[c]) r n.toNat;have O:IntKind.i64.wrap n=n:=wrap_i64 (by omega) (by omega);have B:=grownCap_ge w n.toNat 0 m
 have a:=AY (w':=w.drew.alloc (.cells ((Builtin.zeroCells z.cells n.toNat)++Builtin.zeroCells z.cells (grownCap w n.toNat 0 m-n.toNat)) m)) H (id:=nid) (g':=0) (xs':=List.replicate n.toNat M) (cap':=grownCap w n.toNat 0 m) J
  (fun V=>by rw[hd]; trivial) rfl rfl rfl rfl (by simpa using B) (by
   simp only[gC,size_zeroCells,c,<-dm]
   apply dv; omega) U (fun j v X=>by
    have g:(Builtin.zeroCells z.cells n.toNat)[j]?=some v:=by simpa using X
    rw[eY,if_pos (eS.1 g).1]; exact g)
 rw[fL] at a;refine⟨_,_,_,?_,vc J rfl,a.2,a.1,Ì _ _ _⟩
 have hb:n.toNat*i.bytes<=140737488355328:=by
  have:=fQ f.2 D;omega
 have F:¬(281474976710656:Int)<n*(i.bytes:Int):=by
  have:((n.toNat*i.bytes:Nat):Int)=n*i.bytes:=by
   rw[gM,gi (by omega)]
  omega
 have l:¬(281474976710656<Builtin.nextslicecap n.toNat 0*i.bytes):=by rw[Cl (by omega)]; omega
 have h0:¬n<0:=by omega
 have L:n.toNat≠0:=by omega
 have W:IntKind.i64.max=9223372036854775807:=rfl
 have E:¬(9223372036854775807:Int)<(n.toNat:Int):=by omega
 have b:¬i.size=0:=by omega
 simp[Builtin.append_,run_underlying Q,run_underlying A,sizeOf,typeInfo,zeroValue,hi,G,asInt,asIntOf,O,h0,F,l,L,W,E,b,Builtin.firstCells,Question.forced,newRow,grownCap];rw[if_neg (by omega),if_neg (by omega),if_neg (Nat.mul_ne_zero L b)]
def RH {nid:Nat} {t l:TypeId} {k:IntKind} {n:Int} {b:Ty} {zs:w9 AV} {m:Val b} (H:HR ν h w) (F:nid<h.length) (hd:lkB h nid=.dead) (x:BF P t=some l)
 (e:B5 P l b.size=true) (o:(((P.info? l).bind (·.zero)).map cv).bind į=some zs) (p:Ò b zs=some m) (h0:0<=n) (u:n.toNat<=4294967296) :
 ň P ν h w (Instr.makeSlice t (.int k n) (.int k n)) (.own nid 0) (è h nid (.row b 0 false (List.replicate n.toNat m))):=by
 obtain⟨i,z,hi,s,E,y,r,c⟩:=ki e;have D:=jl x;have q:=TR hi r o p H (av:=Av ν h) fun _ hb=>hb;have G:=Ia (by rw[c]) q n.toNat;have C:IntKind.i64.wrap n=n:=wrap_i64 (by omega) (by omega)
 have a:=AY (w':=w.alloc (.cells (Builtin.zeroCells z.cells n.toNat) l)) H (id:=nid) (g':=0) (xs':=List.replicate n.toNat m) (cap':=n.toNat) F
  (fun V=>by rw[hd]; trivial) rfl rfl rfl rfl (by simp) (by simp[size_zeroCells,c]) G (fun j v J=>by simpa using J)
 rw[fL] at a;refine⟨_,_,_,?_,vc F rfl,a.2,a.1,Ì _ _ _⟩
 have A:¬(281474976710656:Int)<(i.bytes:Int)*n:=by
  have hb:n.toNat*i.bytes<=140737488355328:=by
   have:=fQ u y;omega
  have:((n.toNat*i.bytes:Nat):Int)=i.bytes*n:=by
   rw[gM,gi h0,gN]
  omega
 have B:¬n<0:=by omega
 by_cases g:n.toNat*i.size=0
 ·have I:n.toNat=0:=by
   rcases Nat.mul_eq_zero.1 g with h|h
   ·exact h
   ·omega
  have f:n=0:=by omega
  subst f;simp[Instr.makeSlice,run_underlying D,sizeOf,typeInfo,zeroValue,hi,r,asInt,asIntOf,C,newRow,Builtin.zeroCells];congr 2;apply eW;simp[Array.toList_range]
 ·have d:z.cells.size=i.size:=by rw[c,s]
  simp[Instr.makeSlice,run_underlying D,sizeOf,typeInfo,zeroValue,hi,r,asInt,asIntOf,C,B,A,newRow,Builtin.zeroCells,d,g]
def QB:∀(h:w9 Blk) (id:Nat),è h id (lkB h id)=h
 |[],_=>rfl
 |_::_,0=>rfl
 |x::h,id+1=>by simp[FM,FN,FL,PD,PE,PC,QB h id]
def aew {t ty:TypeId} {ts:Array TypeId} (E:ts[0]?=some t) {x:AV} {ux:Value} (H:HR ν h w) (e:Ee P h t x some=some h') (hun:(P.underlying t).isSome=true) (hx:VR ν h w x ux) :
 ň P ν h w (Builtin.clear_ ts ty #[ux]) (.tup []) h':=by
 obtain⟨d,hd⟩:=Option.isSome_iff_exists.1 hun;unfold Ee at e
 split at e
 ·cases e;have:ux=.slice none 0 0:=hx;subst this;refine ň.still H (u:=.tuple #[]) ?_ ⟨#[],rfl,trivial⟩
  cases d<;>simp[Builtin.clear_,E,run_underlying hd]
 ·rename_i id g lo n el hel;have ht:=jl hel
  split at e<;>try (cases e; done)
  rename_i zs C
  split at e<;>try (cases e; done)
  rename_i a g' xs X
  split at e<;>try (cases e; done)
  rename_i hgg
  split at e<;>try (cases e; done)
  rename_i K hzv;cases e
  have hge:g=g':=by simpa using hgg
  subst hge;obtain⟨ho,t2,g2,fz2,xs2,W,hle,hv2⟩:=hx;rw[X] at W; cases W;obtain⟨V,base,cap,r,s⟩:=hv2 rfl;have hB:=H.blk id;rw[X] at hB;obtain⟨base',cap',q1,q0,q2⟩:=hB
  rw[r] at q1; injection q1 with e1 e2 e3; subst e1; subst e3
  by_cases hn0:n=0
  ·-- nothing to clear
   subst hn0
   have F:xs.take lo++List.replicate 0 K++xs.drop (lo+0)=xs:=by simp
   rw[F];have hid:id<h.length:=Ł X (by simp)
   have O:è h id (.row a g false xs)=h:=by rw[<-X]; exact QB h id
   rw[O];refine ň.still H (u:=.tuple #[]) ?_ ⟨#[],rfl,trivial⟩;rw[s];generalize (if cap=lo then base else Option.map (fun x=>x.add (lo*a.size)) base)=bb;generalize cap-lo=cc
   cases bb<;>(simp only[Builtin.clear_,E]; simp[run_underlying ht])
  rcases q2 with⟨rfl,rfl⟩|⟨b,off,c,e',rfl,q3,q4,q5⟩
  ·omega
  have hne:¬cap=lo:=by omega
  rw[if_neg hne] at s;simp only[dQ,Ļ] at s
  cases hi:P.info? el with
  |none=>simp[hi] at C
  |some i =>
  cases hz:i.zero with
  |none=>simp[hi,hz] at C
  |some z =>
  have D:=TR hi hz C hzv H (av:=Av ν h) fun _ hb=>hb
  have N:z.cells.size=a.size:=by simpa using D.length
  have S:=Ia (by rw[N]) D n
  have U:∀v∈(Builtin.zeroCells z.cells n).toList,v.oneCell'=true:=by
   intro v hv;obtain⟨j,l⟩:=List.mem_iff_getElem?.1 hv;simp only[Builtin.zeroCells,fT,Array.toList_range,eI] at l
   have I:j<n*z.cells.size:=by
    cases h1:(List.range (n*z.cells.size))[j]? with
    |none=>simp[h1] at l
    |some q=>simpa using(cQ.1 h1).1
   rw[gg I] at l;simp only[dQ,Option.some.injEq] at l
   have T:0<z.cells.size:=by
    rcases gq z.cells.size with h0|h0
    ·rw[h0] at I; simp at I
    ·exact h0
   have hm:=Nat.mod_lt j T;refine CR.oneCell D v ?_;rw[<-l,getElem!_pos z.cells (j % z.cells.size) hm];simp
  have J:(Builtin.zeroCells z.cells n).toList.length=n*a.size:=by simp[Builtin.zeroCells,N]
  have hln:lo*a.size+n*a.size<=cap*a.size:=by rw[<-dm]; exact dv _ (by omega)
  have B:off+lo*a.size+(Builtin.zeroCells z.cells n).toList.length<=c.size:=by rw[J]; omega
  have Q:=run_storeCells_at P b (off+lo*a.size) e' (Builtin.zeroCells z.cells n).toList 0 c w q3 (by simpa using B) U;simp only[fK] at Q
  have f:(xs.take lo++List.replicate n K++xs.drop (lo+n)).length=xs.length:=by simp; omega
  obtain⟨ev,hr⟩:=OU H (xs':=xs.take lo++List.replicate n K++xs.drop (lo+n)) (g':=g) (o':=off) (cap':=cap)
   (c':=(c.toList.take (off+lo*a.size)++(Builtin.zeroCells z.cells n).toList++c.toList.drop (off+lo*a.size+(Builtin.zeroCells z.cells n).toList.length)).toArray) X (by rw[r]; rfl) q3
   (by rw[f]; omega) (by simp only[eT,cN,dh,fD,fi]; omega) (.inr ⟨rfl,by rw[f,r],f⟩) (fun j y l=>by
    have A:=fun k=>oy c.toList (Builtin.zeroCells z.cells n).toList (off+lo*a.size) k (by simpa using B);have Y:=oy xs (List.replicate n K) lo j (by simpa using V);rw[fL] at Y;rw[Y] at l
    have M:∀(y:Val a),xs[j]?=some y->(j<lo\/lo+n<=j)->∃us,CR w (Av ν h) a y us/\∀(k:Nat) (v:Value),us[k]?=some v->(c.toList.take (off+lo*a.size)++(Builtin.zeroCells z.cells n).toList++c.toList.drop (off+lo*a.size+(Builtin.zeroCells z.cells n).toList.length)).toArray[off+j*a.size+k]?=some v:=fun y hy p=>by
     obtain⟨us,L,q7⟩:=q5 j y hy;refine⟨us,L,fun k v G=>?_⟩
     have hkl:k<a.size:=by rw[<-L.length]; exact(cQ.1 G).1
     have:=q7 k v G;simp only[World.cell?,q3] at this;rw[eh,A,J];rcases p with p|p
     ·have Z:=dv a.size (show j+1<=lo from p);rw[dm,fj] at Z;rw[if_pos (by omega)];simpa using this
     ·have Z:=dv a.size p;rw[dm] at Z;rw[if_neg (by omega),if_neg (by omega)];simpa using this
    split at l
    ·exact M y l (.inl ‹_›)
    ·split at l
     ·rename_i h1 h2;obtain⟨us,L,q7⟩:=S.cells (c:=(Builtin.zeroCells z.cells n)) (o:=0) (fun k v G=>by simpa using G) (j-lo) y (by simpa using l);refine⟨us,L,fun k v G=>?_⟩
      have hkl:k<a.size:=by rw[<-L.length]; exact(cQ.1 G).1
      have h7:=q7 k v G
      have Z:j*a.size=lo*a.size+(j-lo)*a.size:=by rw[<-dm]; congr 1; omega
      have h6:=dv a.size (show j-lo+1<=n by omega);rw[dm,fj] at h6;rw[eh,A,J,if_neg (by omega),if_pos (by omega)];rw[show off+j*a.size+k-(off+lo*a.size)=0+(j-lo)*a.size+k by omega];simpa using h7
     ·exact M y l (.inr (by omega)))
  have hvs:í ν id (.slice (some ⟨b,off,none⟩) (xs.take lo++List.replicate n K++xs.drop (lo+n)).length cap)=ν:=by rw[f,<-r,ja]
  rw[hvs] at ev hr;refine⟨ν,_,.tuple #[],?_,⟨#[],rfl,trivial⟩,hr,ev,Ì _ _ _⟩;rw[s];obtain⟨m,rfl⟩:∃m,n=m+1:=⟨n-1,by omega⟩;simp only[Builtin.clear_,E];simp[run_underlying ht,zeroValue,typeInfo,hi,hz,Q]
 ·cases e
def box_ok {nid:Nat} {x:AV} {a:Value} {cs:w9 AV} {c:TypeId} (H:HR ν h w) (e:nid<h.length) (hd:lkB h nid=.dead) (i:į x=some cs) (f:VR ν h w x a) :
 ň P ν h w (Instr.box c a) (.box nid 0) (è h nid (.cells cs)):=by
 have d:=f.cells i
 obtain⟨ev,g⟩:=Ev.new (w':=w.alloc (.cells a.cells c)) (o:=.cells a.cells c) H (id:=nid) (B:=.cells cs) (V:=.pointer (some ⟨w.heap.size,0,none⟩)) e hd rfl rfl rfl rfl (fun b hb=>by cases hb; rfl) fun ev =>
  ⟨w.heap.size,a.cells,c,Ê _ _ _,heap_alloc_new w _,d.mono fun _ _=>VRc.ev ev⟩
 refine⟨_,_,.pointer (some ⟨w.heap.size,0,none⟩),?_,⟨cs,w.heap.size,Ø _ e,Ê _ _ _,rfl⟩,g,ev,Ì _ _ _⟩;simp[Instr.box,newVar,newRow]
def ag5 {x:AV} {a:Value} {cs:w9 AV} {c:TypeId} {ty:Ty} {y:Val ty} (H:HR ν h w) (k:į x=some cs) (g:Ò ty cs=some y) (i:VR ν h w x a) :
 ň P ν h w (Instr.box c a) (.eptr ty y 0) h:=by
 have d:=i.cells k;have f:(w.alloc (.cells a.cells c)).heap=w.heap.push (.cells a.cells c):=rfl;have e:=H.grow (w':=w.alloc (.cells a.cells c)) (fun b hb=>by rw[f]; simp[eF,fq hb]) (by rw[f]; simp) rfl rfl rfl h.length;refine⟨ν,_,.pointer (some ⟨w.heap.size,0,none⟩),?_,⟨w.heap.size,0,a.cells.toList,rfl,fun hb=>absurd (H.ltA hb) (Nat.lt_irrefl _),by rw[f]; simp,?_,?_⟩,e.2,e.1,rfl⟩
 ·simp[Instr.box,newVar,newRow]
 ·exact CR.keep e.1.keepA (ē g (d.mono fun _ _ j=>j.1.data))
 ·exact CellsAt.of_cells (heap_alloc_new w _)
def aeU {nid:Nat} {z:AV} {cs:w9 AV} {c:TypeId} (H:HR ν h w) (g:nid<h.length) (hd:lkB h nid=.dead) (e:((P.info? c).bind (·.zero)).map cv=some z) (k:į z=some cs) :
 ň P ν h w (Instr.alloc c true (.tuple #[])) (.box nid 0) (è h nid (.cells cs)):=by
 cases hi:P.info? c with
 |none=>simp[hi] at e
 |some i =>
  cases a:i.zero with
  |none=>simp[hi,a] at e
  |some d =>
   simp only[hi,a,ee,dQ,Option.some.injEq] at e;subst e;have f:=(Tg (ν:=ν) (h:=h) (w:=w) d).cells k
   obtain⟨ev,j⟩:=Ev.new (w':=w.alloc (.cells d.cells c)) (o:=.cells d.cells c) H (id:=nid) (B:=.cells cs) (V:=.pointer (some ⟨w.heap.size,0,none⟩)) g hd rfl rfl rfl rfl (fun b hb=>by cases hb; rfl) fun ev =>
    ⟨w.heap.size,d.cells,c,Ê _ _ _,heap_alloc_new w _,f.mono fun _ _=>VRc.ev ev⟩
   refine⟨_,_,.pointer (some ⟨w.heap.size,0,none⟩),?_,⟨cs,w.heap.size,Ø _ g,Ê _ _ _,rfl⟩,j,ev,Ì _ _ _⟩;simp[Instr.alloc,zeroValue,typeInfo,hi,a,newVar,newRow]
def Yh {nid:Nat} {t:TypeId} (k v:Ty) (H:HR ν h w) (a:nid<h.length) (hd:lkB h nid=.dead):ň P ν h w (Instr.makeMap t none) (.omp nid) (è h nid (.map k v [])):=by
 obtain⟨ev,c⟩:=Ev.new (w':=w.alloc (.map #[] 0)) (o:=.map #[] 0) H (id:=nid) (B:=.map k v []) (V:=.map (some w.heap.size)) a hd rfl rfl rfl rfl (fun b hb=>by cases hb; rfl) fun ev =>
  ⟨w.heap.size,#[],0,Ê _ _ _,heap_alloc_new w _,rfl,fun i e hi=>by simp at hi⟩
 refine⟨_,_,.map (some w.heap.size),?_,⟨rfl,k,v,[],Ø _ a,(Ê _ _ _).symm⟩,c,ev,Ì _ _ _⟩;simp[Instr.makeMap]
end
end Go.Am
end
