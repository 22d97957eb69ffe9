/- lemmas -/
import Derived.CallsIn
import Derived.Lib.SlicesCompact
import Derived.WalkKit
import Derived.Laws.AppendOwn
import Derived.Laws.CopyRow
import Derived.Laws.MakeOwn
import Derived.Laws.StructEq
import Derived.ChangeKeysEq
set_option linter.all false
abbrev BY.{u} (a:Type u):Type u:=Option a
abbrev CK.{u} (a:Type u):Type u:=List a
def cV:=@List.getElem?_eq_getElem
def cW:=@Bool.and_eq_true
def cX:=@Nat.le_refl
def cY:=@List.getElem?_eq_some_iff
def cZ:=@List.length_append
def dc:=@List.mem_of_getElem?
def de:=@List.mem_append
def df:=@List.mem_cons
def dg:=@List.append_assoc
def dh:=@List.mem_singleton
def di:=@List.length_cons
def dj:=@Int.toNat_natCast
def dk:=@List.length_take
def dl:=@Nat.lt_or_ge
def dm:=@List.mem_iff_getElem
def dp:=@Bool.false_eq_true
def dq:=@Nat.eq_of_beq_eq_true
def dr:=@Nat.lt_of_lt_of_le
def dt:=@List.append_nil
def du:=@Nat.le_trans
def dv:=@List.any_eq_true
def dw:=@List.mem_map
def dz:=@List.flatMap_cons
def dA:=@List.mem_flatMap
def dB:=@Nat.mul_le_mul_right
def dC:=@List.all_eq_true
def dD:=@List.length_eq_zero_iff
def dE:=@Nat.add_mul
def dF:=@List.length_map
def dG:=@List.pairwise_cons
def dH:=@Nat.zero_add
def dI:=@List.any_eq_false
def dJ:=@Eq.trans
def dK:=@List.length_nil
def dL:=@List.pairwise_iff_getElem
def dM:=@List.findIdx?_eq_some_iff_getElem
def dN:=@List.mem_append_right
def dO:=@List.length_singleton
def dP:=@Bool.not_true
def dQ:=@Int.le_refl
def dR:=@List.mem_append_left
def dS:=@List.mem_cons_of_mem
def dT:=@List.drop_eq_getElem_cons
def dU:=@Nat.zero_le
def dV:=@List.contains_iff_mem
def dW:=@List.mem_filter
def dX:=@List.findIdx?_eq_none_iff
def dY:=@List.take_of_length_le
def dZ:=@Option.map_some
def d8:=@List.nil_append
def d9:=@List.getElem?_take
def ee:=@List.find?_eq_none
def eh:=@List.prefix_append
def ej:=@List.getD_eq_getElem?_getD
def ew:=@List.take_append_drop
def eA:=@List.length_filter_le
def eD:=@Bool.true_and
def eE:=@Bool.eq_false_iff
def eF:=@Array.getD_eq_getD_getElem?
def eG:=@List.prefix_rfl
def eI:=@Bool.eq_iff_iff
def eJ:=@Bool.not_eq_true'
def eM:=@List.filter_cons
def eN:=@Array.toList_inj
def eO:=@List.flatMap_append
def eP:=@List.getElem?_map
def eQ:=@List.getElem?_cons_succ
def eR:=@List.getElem?_drop
def eS:=@Option.bind_some
def eT:=@List.length_pos_iff
def eV:=@List.map_cons
def eW:=@Nat.le_of_ble_eq_true
def eX:=@List.prefix_append_right_inj
def eY:=@List.filter_nil
def eZ:=@List.filter_append
def fc:=@Option.getD_some
def fe:=@List.cons_append
def ff:=@List.mem_range
def fg:=@List.getElem_take
def fh:=@List.length_range
def fi:=@List.map_congr_left
def fj:=@List.map_append
def fk:=@Bool.not_eq_false'
def fm:=@Nat.one_mul
def fo:=@Array.ext'
def fp:=@List.getElem?_append
def fq:=@List.nodup_cons
def ft:=@List.range_succ
def fu:=@List.map_nil
def fw:=@List.length_pos_of_mem
def fA:=@Array.getElem?_eq_some_iff
def fB:=@List.take_length
def fC:=@List.getElem_mem
def fD:=@Nat.eq_zero_or_pos
def fE:=@List.getElem?_toArray
def fF:=@Bool.not_false
def fG:=@Int.mul_le_mul
def fH:=@List.length_replicate
def fI:=@Nat.mul_le_mul
def fJ:=@List.mem_of_find?_eq_some
def fK:=@List.find?_some
def fL:=@Bool.or_eq_false_iff
def fM:=@List.mem_of_mem_take
def fN:=@Int.mul_le_mul_of_nonneg_right
def fO:=@List.Nodup.length_le_of_subset
def fP:=@List.size_toArray
def fQ:=@List.all_cons
def fR:=@List.take_append_of_le_length
def fS:=@List.filter_cons_of_neg
def fT:=@List.getElem?_cons_zero
def fU:=@Array.getElem?_push
def fV:=@Array.getElem?_setIfInBounds
def fW:=@Int.mul_nonneg
def fX:=@Int.natCast_succ
def fY:=@Int.natAbs_mul
def fZ:=@Int.add_mul
def f0:=@Int.natAbs_natCast
def f6:=@Nat.add_zero
def f7:=@Int.mul_comm
def f8:=@Array.getElem?_append
def f9:=@List.find?_cons
def gb:=@List.getElem?_append_right
def gd:=@Int.one_mul
def gg:=@List.drop_drop
def gh:=@Array.toList_map
def gi:=@List.Perm.eq_of_pairwise
def gj:=@List.flatMap_nil
def gk:=@List.replicate_succ
def gn:=@Array.length_toList
def gq:=@List.take_succ_cons
def gu:=@List.getElem?_range
def gw:=@Nat.le_mul_of_pos_right
def gy:=@List.all_eq_not_any_not
def gz:=@List.filter_cons_of_pos
def gA:=@List.foldl_cons
def gB:=@Nat.lt_or_eq_of_le
def gC:=@Int.ediv_eq_iff_of_pos
def gD:=@List.drop_of_length_le
def gE:=@Nat.ne_of_lt
def gF:=@List.set_append_right
def gG:=@List.nodup_nil
def gH:=@Int.add_zero
def gI:=@Array.getElem?_toList
def gJ:=@List.pairwise_append
def gK:=@BitVec.ofInt_natCast
def gL:=@List.append_toArray
def gM:=@List.filter_sublist
def gN:=@Int.mul_tdiv_cancel
def gO:=@List.filter_eq_self
def gP:=@List.findSome?_cons
def gQ:=@List.flatten_append
def gR:=@List.length_set
def gS:=@Option.isSome_iff_exists
def gT:=@Nat.le_of_eq
def gW:=@Int.lt_or_le
def gX:=@Nat.succ_pos
def gY:=@Nat.lt_succ_iff_lt_or_eq
def gZ:=@Bool.false_and
def g8:=@List.drop_zero
def g9:=@Nat.mod_lt
def hZ:=@Int.eq_ofNat_of_zero_le
def ic:=@List.getElem?_replicate
def ig:=@List.flatten_cons
def ii:=@List.getElem?_set
def ij:=@List.filter_eq_nil_iff
def ik:=@List.length_drop
def il:=@Option.getD_none
def ip:=@List.drop_length
def iq:=@List.ext_getElem
def ir:=@List.flatten_nil
def iu:=@List.not_mem_nil
def iv:=@Nat.gcd_comm
def iw:=@Bool.or_eq_true
def ix:=@List.mem_mapIdx
def iy:=@Int.natCast_mul
def iz:=@Int.natAbs_tmod
def iA:=@Int.le_antisymm
noncomputable section
namespace Go.Am
inductive Ty where
 |unit
 |bool
 |int (k:IntKind)
 |str
 |slice (t:Ty)
 |map (k v:Ty)
 |ptr (t:Ty)
 |pair (a b:Ty)
 deriving DecidableEq
@[reducible] def Val:Ty->Type
 |.unit=>Unit
 |.bool=>Bool
 |.int _=>Int
 |.str=>ByteArray
 |.slice t=>CK (Val t)
 |.map k v=>CK (Val k×Val v)
 |.ptr t=>Val t
 |.pair a b=>Val a×Val b
inductive AV where
 |any
 |und
 |bool (b:Bool)
 |int (k:IntKind) (n:Int)
 |str (s:ByteArray)
 |nils
 |slc (t:Ty) (xs:List (Val t))
 |own (id g:Nat)
 |sub (id g lo n:Nat)
 |nilm
 |mp (k v:Ty) (es:List (Val k×Val v))
 |omp (id:Nat)
 |nilp
 |box (id off:Nat)
 |eptr (t:Ty) (x:Val t) (off:Nat)
 |optr (id g i off:Nat)
 |nilfn
 |yld
 |fn (f:Fn) (first caps:List AV)
 |agg (cs:List AV)
 |tup (vs:List AV)
inductive Blk where
 |dead
 |cells (cs:List AV)
 |row (t:Ty) (g:Nat) (fz:Bool) (xs:List (Val t))
 |map (k v:Ty) (es:List (Val k×Val v))
 |acc (t:Ty) (xs:List (Val t))
structure St where
 t:CK AV
 h:CK Blk
def Ty.size:Ty->Nat
 |.unit=>0
 |.pair a b=>a.size+b.size
 |_=>1
def Ty.isAgg:Ty->Bool
 |.unit=>true
 |.pair _ _=>true
 |_=>false
def flat:(t:Ty)->Val t->CK AV
 |.unit,_=>[]
 |.bool,b=>[.bool b]
 |.int k,n=>[.int k n]
 |.str,s=>[.str s]
 |.slice t,xs=>[.slc t xs]
 |.map k v,es=>[.mp k v es]
 |.ptr t,x=>[.eptr t x 0]
 |.pair a b,v=>flat a v.1++flat b v.2
def BH {F:Ty->Type} {a b:Ty} (h:a=b) (x:F a):F b:=h▸x
def Β:(t:Ty)->CK AV->BY (Val t×CK AV)
 |.unit,l=>some ((),l)
 |.bool,.bool b::l=>some (b,l)
 |.int k,.int d n::l=>match decEq d k with
  |isTrue _=>some (n,l)
  |isFalse _=>none
 |.str,.str s::l=>some (s,l)
 |.slice _,.nils::l=>some ([],l)
 |.slice t,.slc c xs::l=>match decEq c t with
  |isTrue h=>some (BH (F:=fun t=>CK (Val t)) h xs,l)
  |isFalse _=>none
 |.map _ _,.nilm::l=>some ([],l)
 |.map k v,.mp d e es::l=>match decEq (Ty.map d e) (Ty.map k v) with
  |isTrue h=>some (BH (F:=Val) h es,l)
  |isFalse _=>none
 |.ptr t,.eptr c x 0::l=>match decEq c t with
  |isTrue h=>some ((BH (F:=Val) h x:Val t),l)
  |isFalse _=>none
 |.pair a b,l=>match Β a l with
  |some (x,l)=>match Β b l with
   |some (y,l)=>some ((x,y),l)
   |none=>none
  |none=>none
 |_,_=>none
def Ü (t:Ty) (l:CK AV):BY (Val t) :=
 match Β t l with
 |some (x,[])=>some x
 |_=>none
def enc:(t:Ty)->Val t->AV
 |.unit,_=>.agg []
 |.pair a b,v=>.agg (flat (.pair a b) v)
 |.bool,b=>.bool b
 |.int k,n=>.int k n
 |.str,s=>.str s
 |.slice t,xs=>.slc t xs
 |.map k v,es=>.mp k v es
 |.ptr t,x=>.eptr t x 0
def š:AV->BY (CK AV)
 |.agg cs=>some cs
 |.any=>none
 |.und=>none
 |.tup _=>none
 |v=>some [v]
def lk:CK AV->Nat->AV
 |[],_=>.any
 |x::_,0=>x
 |_::xs,n+1=>lk xs n
def upd:CK AV->Nat->AV->CK AV
 |[],_,_=>[]
 |_::xs,0,v=>v::xs
 |x::xs,n+1,v=>x::upd xs n v
def lkB:CK Blk->Nat->Blk
 |[],_=>.dead
 |x::_,0=>x
 |_::xs,n+1=>lkB xs n
def Đ:CK Blk->Nat->Blk->CK Blk
 |[],_,_=>[]
 |_::xs,0,v=>v::xs
 |x::xs,n+1,v=>x::Đ xs n v
def Ri:CK AV->Nat->Nat->BY (CK AV)
 |_,0,0=>some []
 |c::cs,0,n+1=>match Ri cs 0 n with
  |some l=>some (c::l)
  |none=>none
 |_::cs,o+1,n=>Ri cs o n
 |[],_,_=>none
def ae9:CK AV->Nat->CK AV->BY (CK AV)
 |cs,0,[]=>some cs
 |_::cs,0,v::vs=>match ae9 cs 0 vs with
  |some l=>some (v::l)
  |none=>none
 |c::cs,o+1,vs=>match ae9 cs o vs with
  |some l=>some (c::l)
  |none=>none
 |[],_,_=>none
def cv1:Value->AV
 |.bool b=>.bool b
 |.int k n=>.int k n
 |.string s=>.str s
 |.slice none 0 0=>.nils
 |.map none=>.nilm
 |.pointer none=>.nilp
 |.nilFunc=>.nilfn
 |_=>.any
def cv:Value->AV
 |.agg cs=>match cs.toList.all Value.oneCell' with
  |true=>.agg (cs.toList.map cv1)
  |false=>.any
 |v=>cv1 v
def ev (t:CK AV):Operand->AV
 |.tmp i=>lk t i
 |.const v=>cv v
 |.func f=>.fn (.func f) [] []
 |.global _=>.any
def Rj:TypeDesc->Bool
 |.struct _=>true
 |.array _ _=>true
 |_=>false
def szP (P:Program) (t:TypeId):BY Nat :=
 match P.info? t with
 |some i=>some i.size
 |none=>none
def ldP (P:Program) (t:TypeId):BY (Bool×Nat) :=
 match P.underlying t with
 |some d=>match szP P t with
  |some n=>some (Rj d,n)
  |none=>none
 |none=>none
def mkv (agg:Bool) (cs:CK AV):BY AV :=
 match agg with
 |true=>some (.agg cs)
 |false=>match cs with
  |[v]=>some v
  |_=>none
def amH:CK Ty->Ty
 |[]=>.unit
 |[t]=>t
 |t::ts=>.pair t (amH ts)
def abb (P:Program):Nat->TypeId->BY Ty
 |0,_=>none
 |n+1,t=>match P.underlying t with
  |some .bool=>some .bool
  |some (.int k)=>some (.int k)
  |some .string=>some .str
  |some (.slice e)=>(abb P n e).map .slice
  |some (.map k e)=>match abb P n k,abb P n e with
   |some a,some b=>some (.map a b)
   |_,_=>none
  |some (.pointer e)=>(abb P n e).map .ptr
  |some (.struct fs)=>(fs.toList.mapM fun f=>abb P n f.type).map amH
  |_=>none
def SS (P:Program) (t:TypeId):BY TypeId :=
 match P.underlying t with
 |some (.slice e)=>some e
 |_=>none
def Vn (P:Program) (e:TypeId) (n:Nat):Bool :=
 match P.info? e with
 |some i=>i.size==n&&(decide (0<n)&&(decide (i.bytes<=32768)&&match i.zero with
  |some z=>z.cells.size==n
  |none=>false))
 |none=>false
def ă (h:CK Blk):AV->AV
 |.own id g=>match lkB h id with
  |.row t g' _ xs=>match g==g' with
   |true=>.slc t xs
   |false=>.any
  |_=>.any
 |.sub id g lo n=>match lkB h id with
  |.row t g' _ xs=>match g==g' with
   |true=>.slc t ((xs.drop lo).take n)
   |false=>.any
  |_=>.any
 |.omp id=>match lkB h id with
  |.map k v es=>.mp k v es
  |_=>.any
 |v=>v
def acY (h:CK Blk):AV->AV
 |.agg cs=>.agg (cs.map (ă h))
 |v=>ă h v
def sS (h:CK Blk):AV->CK Blk
 |.own id _=>match lkB h id with
  |.row t g _ xs=>Đ h id (.row t g true xs)
  |_=>h
 |.sub id _ _ _=>match lkB h id with
  |.row t g _ xs=>Đ h id (.row t g true xs)
  |_=>h
 |_=>h
def C8 (h:CK Blk):CK AV->CK Blk
 |[]=>h
 |v::vs=>C8 (sS h v) vs
def frz (h:CK Blk):AV->CK Blk
 |.agg cs=>C8 h cs
 |v=>sS h v
def NT:AV->Bool
 |.omp _=>false
 |_=>true
def ahX:AV->Bool
 |.agg cs=>cs.all NT
 |v=>NT v
def Di:AV->Bool
 |.bool _=>true
 |.int _ _=>true
 |.str _=>true
 |.nils=>true
 |.nilm=>true
 |.nilp=>true
 |.nilfn=>true
 |_=>false
def plain:AV->Bool
 |.agg cs=>cs.all Di
 |v=>Di v
def Ny:AV->Bool
 |.tup vs=>vs.all plain
 |v=>plain v
def wr64 (n:Int):Int:=IntKind.i64.wrap n
def res:IntKind->Int->Int
 |.i64,n=>wr64 n
 |k,n=>k.wrap n
def ä (n:Nat):Bool:=decide (n<=4294967296)
def kP:(t:Ty)->Val t->Val t->Bool
 |.bool,a,b=>a==b
 |.int _,a,b=>decide (a=b)
 |.str,a,b=>a==b
 |_,_,_=>false
def JY (P:Program) (t:TypeId) (k:Ty):Bool :=
 match P.underlying t with
 |some .bool=>match k with
  |.bool=>true
  |_=>false
 |some (.int i)=>match k with
  |.int j=>i==j
  |_=>false
 |_=>false
def UC:AV->Bool
 |.agg _=>true
 |_=>false
def tv {k v:Ty} (x:Val k):CK (Val k×Val v)->BY (Val v)
 |[]=>none
 |e::es=>match kP k x e.1 with
  |true=>some e.2
  |false=>tv x es
def TM {k v:Ty} (x:Val k) (y:Val v):CK (Val k×Val v)->CK (Val k×Val v)
 |[]=>[(x,y)]
 |e::es=>match kP k x e.1 with
  |true=>(x,y)::es
  |false=>e::TM x y es
section
variable {ρ:Type}
def cmpI:BinOp->Int->Int->BY Bool
 |.eql,a,b=>some (a==b)
 |.neq,a,b=>some (a != b)
 |.lss,a,b=>some (decide (a<b))
 |.leq,a,b=>some (decide (a<=b))
 |.gtr,a,b=>some (decide (a>b))
 |.geq,a,b=>some (decide (a>=b))
 |_,_,_=>none
def arI:BinOp->Int->Int->BY Int
 |.add,a,b=>some (a+b)
 |.sub,a,b=>some (a-b)
 |.mul,a,b=>some (a*b)
 |_,_,_=>none
def arK (k:IntKind) (n:Int) (K:AV->BY ρ):BY ρ :=
 K (.int k (res k n))
def eqFs (P:Program) (a:TypeId->CK AV->CK AV->BY Bool->BY Bool) (cs b:CK AV):CK Field->BY Bool->BY Bool
 |[],rest=>rest
 | f :: fs, rest => match f.name != "_" with
  |false=>eqFs P a cs b fs rest
  |true=>match szP P f.type with
   |some n=>match Ri cs f.offset n,Ri b f.offset n with
    |some x,some y=>a f.type x y (eqFs P a cs b fs rest)
    |_,_=>none
   |none=>none
def eqIs (P:Program) (a:TypeId->CK AV->CK AV->BY Bool->BY Bool) (e:TypeId) (n:Nat) (cs b:CK AV):CK Nat->BY Bool->BY Bool
 |[],rest=>rest
 |i::is,rest=>match Ri cs (i*n) n,Ri b (i*n) n with
  |some x,some y=>a e x y (eqIs P a e n cs b is rest)
  |_,_=>none
def an1 (P:Program):Nat->TypeId->CK AV->CK AV->BY Bool->BY Bool
 |0,_,_,_,_=>none
 |n+1,t,cs,ds,rest=>match P.underlying t with
  |some .bool=>match cs,ds with
   |[.bool a],[.bool b]=>match rest with
    |some r=>some ((a==b)&&r)
    |none=>none
   |_,_=>none
  |some (.int _)=>match cs,ds with
   |[.int k a],[.int c b]=>match decEq k c with
    |isTrue _=>match rest with
     |some r=>some (decide (a=b)&&r)
     |none=>none
    |isFalse _=>none
   |_,_=>none
  |some (.struct fs)=>match P.stoodInHeld t with
   |false=>eqFs P (an1 P n) cs ds fs.toList rest
   |true=>none
  |some (.array len el)=>match szP P el with
   |some m=>eqIs P (an1 P n) el m cs ds (List.range len) rest
   |none=>none
  |_=>none
def shlI (k:IntKind) (a b:Int):Int:=k.wrap (a*2 ^ (min b.toNat k.bits))
def jd (k:IntKind) (a b:Int):Int:=a.fdiv (2 ^ (min b.toNat k.bits))
def abV:BinOp->BY Bool
 |.shl=>some true
 |.shr=>some false
 |_=>none
def shK (left:Bool) (k:IntKind) (a b:Int) (K:AV->BY ρ):BY ρ :=
 match decide (0<=b) with
 |true=>match left with
  |true=>K (.int k (shlI k a b))
  |false=>K (.int k (jd k a b))
 |false=>none
def akJ (k:IntKind) (f:BitVec k.bits->BitVec k.bits->BitVec k.bits) (a b:Int):Int:=k.wrap (f (BitVec.ofInt k.bits a) (BitVec.ofInt k.bits b)).toNat
def andI (k:IntKind) (a b:Int):Int:=akJ k (fun a b=>a &&& b) a b
def orI (k:IntKind) (a b:Int):Int:=akJ k (fun a b=>a ||| b) a b
def xorI (k:IntKind) (a b:Int):Int:=akJ k (fun a b=>a ^^^ b) a b
def Ko (k:IntKind) (a b:Int):Int:=akJ k (fun a b=>a &&& ~~~b) a b
def aggT:BY TypeDesc->Bool
 |some (.struct _)=>true
 |some (.array _ _)=>true
 |_=>false
def binK (P:Program) (op:BinOp) (t:TypeId) (x y:AV) (K:AV->BY ρ):BY ρ :=
 match x,y with
 |.int k a,.int c b=>match abV op with
  |some l=>shK l k a b K
  |none=>match decEq k c with
   |isFalse _=>none
   |isTrue _=>match cmpI op a b with
    |some r=>K (.bool r)
    |none=>match arI op a b with
     |some r=>arK k r K
     |none=>match op with
      |.quo=>match decide (b=0) with
       |true=>none
       |false=>arK k (a.tdiv b) K
      |.rem=>match decide (b=0) with
       |true=>none
       |false=>K (.int k (a.tmod b))
      |.and=>K (.int k (andI k a b))
      |.or=>K (.int k (orI k a b))
      |.xor=>K (.int k (xorI k a b))
      |.andNot=>K (.int k (Ko k a b))
      |_=>none
 |.bool a,.bool b=>match P.underlying t with
  |some .bool=>match op with
   |.eql=>K (.bool (a==b))
   |.neq=>K (.bool (!(a==b)))
   |_=>none
  |_=>none
 |.str a,.str b=>match op with
  |.eql=>K (.bool (a.toList==b.toList))
  |.neq=>K (.bool (!(a.toList==b.toList)))
  |_=>none
 |.agg cs,.agg ds=>match aggT (P.underlying t) with
  |true=>match P.eqGuardType P.depth t with
   |false=>match an1 P 8 t cs ds (some true) with
    |some r=>match op with
     |.eql=>K (.bool r)
     |.neq=>K (.bool (!r))
     |_=>none
    |none=>none
   |true=>none
  |false=>none
 |_,_=>none
def ah2 (n:Nat):Int:=Classical.choose (⟨(n:Int),rfl⟩:∃z:Int,z=n)
def NX (n:Nat):ah2 n=n:=Classical.choose_spec (⟨(n:Int),rfl⟩:∃z:Int,z=n)
def aln (d:BY TypeDesc) (h:CK Blk) (x:AV) (K:AV->BY ρ):BY ρ :=
 match d with
 |some (.slice _)=>match x with
  |.slc _ xs=>K (.int .i64 (ah2 xs.length))
  |.nils=>K (.int .i64 0)
  |.own id g=>match lkB h id with
   |.row _ g' _ xs=>match g==g' with
    |true=>K (.int .i64 (ah2 xs.length))
    |false=>none
   |_=>none
  |.sub id g _ n=>match lkB h id with
   |.row _ g' _ _=>match g==g' with
    |true=>K (.int .i64 (ah2 n))
    |false=>none
   |_=>none
  |_=>none
 |some .string=>match x with
  |.str s=>K (.int .i64 (ah2 s.size))
  |_=>none
 |some (.map _ _)=>match x with
  |.mp _ _ es=>K (.int .i64 (ah2 es.length))
  |.nilm=>K (.int .i64 0)
  |.omp id=>match lkB h id with
   |.map _ _ es=>K (.int .i64 (ah2 es.length))
   |_=>none
  |_=>none
 |_=>none
def Yg:Nat->Nat->Int->(Nat->BY ρ)->BY ρ
 |0,_,_,_=>none
 |n+1,q,j,K=>match decide (j=(q:Int)) with
  |true=>K q
  |false=>Yg n (q+1) j K
def Ip (sz:Nat) (h:CK Blk) (x i:AV) (K:AV->BY ρ):BY ρ :=
 match i with
 |.int _ n=>match x with
  |.slc t xs=>match t.size==sz&&decide (0<=n) with
   |true=>match xs[n.toNat]? with
    |some e=>K (.eptr t e 0)
    |none=>none
   |false=>none
  |.own id g=>match lkB h id with
   |.row t g' _ xs=>match g==g'&&t.size==sz with
    |true=>match decide (0<=n)&&decide (n<xs.length) with
     |true=>K (.optr id g n.toNat 0)
     |false=>none
    |false=>none
   |_=>none
  |.sub id g lo m=>match lkB h id with
   |.row t g' _ _=>match g==g'&&t.size==sz with
    |true=>match decide (0<=n)&&decide (n<m) with
     |true=>K (.optr id g (lo+n.toNat) 0)
     |false=>none
    |false=>none
   |_=>none
  |_=>none
 |_=>none
def Df (h:CK Blk) (x:AV) (o:Nat) (K:AV->BY ρ):BY ρ :=
 match x with
 |.box id off=>K (.box id (off+o))
 |.eptr t e off=>K (.eptr t e (off+o))
 |.optr id g i off=>match lkB h id with
  |.row _ g' _ _=>match g==g' with
   |true=>K (.optr id g i (off+o))
   |false=>none
  |_=>none
 |_=>none
def SO (P:Program) (h:CK Blk) (t:TypeId) (a:AV) (K:AV->BY ρ):BY ρ :=
 match ldP P t with
 |some (agg,n)=>match a with
  |.box id off=>match lkB h id with
   |.cells c=>match Ri c off n with
    |some cs=>match mkv agg cs with
     |some v=>K v
     |none=>none
    |none=>none
   |_=>none
  |.eptr ty e off=>match Ri (flat ty e) off n with
   |some cs=>match mkv agg cs with
    |some v=>K v
    |none=>none
   |none=>none
  |.optr id g i off=>match lkB h id with
   |.row ty g' _ xs=>match g==g' with
    |true=>match xs[i]? with
     |some e=>match Ri (flat ty e) off n with
      |some cs=>match mkv agg cs with
       |some v=>K v
       |none=>none
      |none=>none
     |none=>none
    |false=>none
   |_=>none
  |_=>none
 |none=>none
def yQ (P:Program) (h:CK Blk) (t:TypeId) (a v:AV) (K:CK Blk->BY ρ):BY ρ :=
 match š v with
 |some vs=>match szP P t==some vs.length with
  |true=>match a with
   |.box id off=>match lkB h id with
    |.cells c=>match ae9 c off vs with
     |some c'=>K (Đ h id (.cells c'))
     |none=>none
    |_=>none
   |.optr id g i off=>match ahX v with
    |true=>match lkB (frz h v) id with
     |.row ty g' false xs=>match g==g' with
      |true=>match xs[i]? with
       |some e=>match ae9 (flat ty e) off (vs.map (ă h)) with
        |some b=>match Ü ty b with
         |some d=>K (Đ (frz h v) id (.row ty g' false (xs.set i d)))
         |none=>none
        |none=>none
       |none=>none
      |false=>none
     |_=>none
    |false=>none
   |_=>none
  |false=>none
 |none=>none
def ti (sz:Nat) (h:CK Blk) (x:AV) (lo hi:BY AV) (eat:Bool) (K:AV->CK Blk->BY ρ):BY ρ :=
 match x with
 |.slc t xs=>match t.size==sz with
  |true=>match lo,hi with
   |some (.int _ l),some (.int _ m)=>match decide (0<=l)&&(decide (l<=m)&&decide (m<=xs.length)) with
    |true=>K (.slc t ((xs.drop l.toNat).take (m-l).toNat)) h
    |false=>none
   |some (.int _ l),none=>match decide (0<=l)&&decide (l<=xs.length) with
    |true=>K (.slc t (xs.drop l.toNat)) h
    |false=>none
   |none,some (.int _ m)=>match decide (0<=m)&&decide (m<=xs.length) with
    |true=>K (.slc t (xs.take m.toNat)) h
    |false=>none
   |none,none=>K (.slc t xs) h
   |_,_=>none
  |false=>none
 |.nils=>match lo,hi with
  |none,some (.int _ m)=>match decide (m=0) with
   |true=>K .nils h
   |false=>none
  |none,none=>K .nils h
  |_,_=>none
 |.own id g=>match lkB h id with
  |.row t g' fz xs=>match g==g'&&t.size==sz with
   |true=>match eat with
    |true=>match fz with
     |true=>none
     |false=>match lo,hi with
      |some (.int _ l),none=>match decide (0<=l)&&decide (l<=xs.length) with
       |true=>K (.own id (g+1)) (Đ h id (.row t (g+1) false (xs.drop l.toNat)))
       |false=>none
      |none,some (.int _ m)=>match decide (0<=m)&&decide (m<=xs.length) with
       |true=>K (.own id (g+1)) (Đ h id (.row t (g+1) false (xs.take m.toNat)))
       |false=>none
      |_,_=>none
    |false=>match lo,hi with
     |some (.int _ l),some (.int _ m)=>match decide (0<=l)&&(decide (l<=m)&&decide (m<=xs.length)) with
      |true=>K (.sub id g l.toNat (m-l).toNat) h
      |false=>none
     |some (.int _ l),none=>match decide (0<=l)&&decide (l<=xs.length) with
      |true=>K (.sub id g l.toNat (xs.length-l.toNat)) h
      |false=>none
     |none,some (.int _ m)=>match decide (0<=m)&&decide (m<=xs.length) with
      |true=>K (.sub id g 0 m.toNat) h
      |false=>none
     |_,_=>none
   |false=>none
  |_=>none
 |_=>none
def BS (P:Program) (h:CK Blk) (nid:Nat) (t:TypeId) (s x:AV) (K:AV->CK Blk->BY ρ):BY ρ :=
 match SS P t with
 |some e=>match abb P 8 e with
  |some ty=>match Vn P e ty.size with
   |true=>match Ü (.slice ty) [ă h x] with
    |some ys=>match s with
     |.nils=>match ä ys.length with
      |true=>K (.own nid 0) (Đ h nid (.row ty 0 false ys))
      |false=>none
     |.own id g=>match lkB h id with
      |.row ty' g' false xs=>match g==g' with
       |true=>match decEq ty ty' with
        |isTrue eq=>match ä (xs.length+ys.length) with
         |true=>K (.own id (g+1)) (Đ h id (.row ty' (g+1) false (xs++BH (F:=fun t=>CK (Val t)) eq ys)))
         |false=>none
        |isFalse _=>none
       |false=>none
      |_=>none
     |_=>none
    |none=>none
   |false=>none
  |none=>none
 |none=>none
def Ku (P:Program) (h:CK Blk) (nid:Nat) (t:TypeId) (s x:AV) (K:AV->CK Blk->BY ρ):BY ρ :=
 match s,x,SS P t with
 |.nils,.int .i64 n,some e=>match abb P 8 e with
  |some ty=>match Vn P e ty.size with
   |true=>match (((P.info? e).bind (·.zero)).map cv).bind š with
    |some a=>match Ü ty a with
     |some z=>match decide (0<n)&&ä n.toNat with
      |true=>K (.own nid 0) (Đ h nid (.row ty 0 false (List.replicate n.toNat z)))
      |false=>none
     |none=>none
    |none=>none
   |false=>none
  |none=>none
 |_,_,_=>none
def Lf (P:Program) (h:CK Blk) (t:TypeId) (x:AV) (K:CK Blk->BY ρ):BY ρ :=
 match x,SS P t with
 |.nils,_=>K h
 |.sub id g lo n,some e=>match (((P.info? e).bind (·.zero)).map cv).bind š with
  |some a=>match lkB h id with
   |.row ty g' false xs=>match g==g' with
    |true=>match Ü ty a with
     |some z=>K (Đ h id (.row ty g' false (xs.take lo++List.replicate n z++xs.drop (lo+n))))
     |none=>none
    |false=>none
   |_=>none
  |none=>none
 |_,_=>none
def vm (P:Program) (h:CK Blk) (t:TypeId) (m i:AV) (ok:Bool) (K:AV->BY ρ):BY ρ :=
 match P.underlying t with
 |some (.map kt et)=>match abb P 8 kt,abb P 8 et,((P.info? et).bind (·.zero)).map cv with
  |some k,some v,some z=>match JY P kt k,ă h m with
   |true,.mp b a es=>match decEq (Ty.map b a) (Ty.map k v) with
    |isTrue eq=>match Ü k [i] with
     |some x=>match tv x (BH (F:=Val) eq es) with
      |some y=>match ok with
       |true=>K (.tup [enc v y,.bool true])
       |false=>K (enc v y)
      |none=>match ok with
       |true=>K (.tup [z,.bool false])
       |false=>K z
     |none=>none
    |isFalse _=>none
   |true,.nilm=>match Ü k [i] with
    |some _=>match ok with
     |true=>K (.tup [z,.bool false])
     |false=>K z
    |none=>none
   |_,_=>none
  |_,_,_=>none
 |_=>none
def mn (P:Program) (h:CK Blk) (t:TypeId) (m i x:AV) (K:CK Blk->BY ρ):BY ρ :=
 match P.underlying t with
 |some (.map kt _)=>match m with
  |.omp id=>match lkB h id with
   |.map k v es=>match JY P kt k&&(ahX x&&UC x==v.isAgg) with
    |true=>match Ü k [i],š (acY h x) with
     |some a,some cs=>match Ü v cs with
      |some b=>K (Đ (frz h x) id (.map k v (TM a b es)))
      |none=>none
     |_,_=>none
    |false=>none
   |_=>none
  |_=>none
 |_=>none
def ai8 (P:Program) (fs:Array Field):CK (Nat×AV)->CK AV->BY (CK AV)
 |[],cs=>some cs
 |(i,v)::ps,cs=>match fs[i]? with
  |some f=>match š v with
   |some vs=>match szP P f.type==some vs.length with
    |true=>match ae9 cs f.offset vs with
     |some cs=>ai8 P fs ps cs
     |none=>none
    |false=>none
   |none=>none
  |none=>none
def Qx (sz:Nat):CK (Nat×AV)->CK AV->BY (CK AV)
 |[],cs=>some cs
 |(i,v)::ps,cs=>match š v with
  |some vs=>match vs.length==sz with
   |true=>match ae9 cs (i*sz) vs with
    |some cs=>Qx sz ps cs
    |none=>none
   |false=>none
  |none=>none
def Rl (h:CK Blk) (ty:Ty):Nat->CK (Nat×AV)->BY (CK (Val ty))
 |_,[]=>some []
 |n,(i,v)::ps=>match i==n&&ahX v with
  |true=>match š (acY h v) with
   |some cs=>match Ü ty cs with
    |some x=>match Rl h ty (n+1) ps with
     |some xs=>some (x::xs)
     |none=>none
    |none=>none
   |none=>none
  |false=>none
def frzA (h:CK Blk):CK (Nat×AV)->CK Blk
 |[]=>h
 |(_,v)::ps=>frzA (frz h v) ps
def SP (a b:Int):Int:=if b>a then b else a
def abZ (a b:Int):Int:=if b<a then b else a
def mK (gt:Bool):AV->CK AV->(AV->BY ρ)->BY ρ
 |x,[],K=>K x
 |.int k a,.int c b::l,K=>match decEq k c with
  |isTrue _=>match gt with
   |true=>mK true (.int k (SP a b)) l K
   |false=>mK false (.int k (abZ a b)) l K
  |isFalse _=>none
 |_,_,_=>none
def isV0:AV->Bool
 |.fn _ _ _=>false
 |.agg _=>false
 |.tup _=>false
 |_=>true
def EJ:Operand->Operand->Bool
 |.tmp i,.tmp j=>i==j
 |.const (.int .i64 a),.const (.int .i64 b)=>decide (a=b)
 |_,_=>false
def opK (P:Program) (S:St) (nid:Nat) (eat:Bool) (o:Op) (K:AV->St->BY ρ):BY ρ :=
 let h (h:CK Blk):St:={t:=S.t,h:=h}
 match o with
 |.move x=>K (ev S.t x) S
 |.assign x=>K (ev S.t x) S
 |.pick c a b=>match ev S.t c with
  |.bool x=>match x with
   |true=>K (ev S.t a) S
   |false=>K (ev S.t b) S
  |_=>none
 |.box el x=>match š (ev S.t x) with
  |some cs=>match eat with
   |true=>match abb P 8 el with
    |some ty=>match Ü ty cs with
     |some y=>K (.eptr ty y 0) S
     |none=>none
    |none=>none
   |false=>K (.box nid 0) (h (Đ S.h nid (.cells cs)))
  |none=>none
 |.alloc e=>match ((P.info? e).bind (·.zero)).map cv with
  |some z=>match š z with
   |some cs=>K (.box nid 0) (h (Đ S.h nid (.cells cs)))
   |none=>none
  |none=>none
 |.build t ps=>match P.underlying t with
  |some (.struct fs)=>match fs.toList.all (fun f=>(P.info? f.type).isSome) with
   |true=>match ((P.info? t).bind (·.zero)).map cv with
    |some z=>match š z with
     |some d=>match ai8 P fs (ps.toList.map fun p=>(p.1,ev S.t p.2)) d with
      |some cs=>K (.agg cs) S
      |none=>none
     |none=>none
    |none=>none
   |false=>none
  |some (.array _ e)=>match szP P e,((P.info? t).bind (·.zero)).map cv with
   |some sz,some z=>match š z with
    |some d=>match Qx sz (ps.toList.map fun p=>(p.1,ev S.t p.2)) d with
     |some cs=>K (.agg cs) S
     |none=>none
    |none=>none
   |_,_=>none
  |_=>none
 |.buildSlice t n ps=>match SS P t with
  |some e=>match abb P 8 e with
   |some ty=>match Vn P e ty.size&&(ps.toList.length==n&&decide (n*ty.size<=65536)) with
    |true=>match Rl S.h ty 0 (ps.toList.map fun p=>(p.1,ev S.t p.2)) with
     |some xs=>K (.own nid 0) (h (Đ (frzA S.h (ps.toList.map fun p=>(p.1,ev S.t p.2))) nid (.row ty 0 false xs)))
     |none=>none
    |false=>none
   |none=>none
  |none=>none
 |.load t a=>SO P S.h t (ev S.t a) fun v=>K v S
 |.store t a v=>match eat with
  |true=>match ev S.t v with
   |.sub id g lo n=>match lkB S.h id with
    |.row ty g' false xs=>match g==g'&&decide (lo+n=xs.length) with
     |true=>yQ P (Đ S.h id (.row ty (g+1) false (xs.drop lo))) t (ev S.t a) (.own id (g+1)) fun h'=>K .any (h h')
     |false=>none
    |_=>none
   |_=>none
  |false=>yQ P S.h t (ev S.t a) (ev S.t v) fun h'=>K .any (h h')
 |.nilCheck x=>match ev S.t x with
  |.box id off=>K (.box id off) S
  |.eptr t e off=>K (.eptr t e off) S
  |.optr id g i off=>match lkB S.h id with
   |.row _ g' _ _=>match g==g' with
    |true=>K (.optr id g i off) S
    |false=>none
   |_=>none
  |_=>none
 |.binOp op t x y _=>binK P op t (ev S.t x) (ev S.t y) fun v=>K v S
 |.unOp op _ x=>match op,ev S.t x with
  |.not,.bool b=>K (.bool (!b)) S
  |.neg,.int k n=>arK k (0-n) fun v=>K v S
  |_,_=>none
 |.convert src dst x=>match P.underlying src,P.underlying dst,ev S.t x with
  |some _,some (.int k),.int _ n=>K (.int k (k.wrap n)) S
  |_,_,_=>none
 |.makeFunc fn first captured=>match (first.toList.map (ev S.t)).all isV0&&(captured.toList.map (ev S.t)).all isV0 with
  |true=>K (.fn fn (first.toList.map (ev S.t)) (captured.toList.map (ev S.t))) S
  |false=>none
 |.makeMap t r=>match r,P.underlying t with
  |none,some (.map kt et)=>match abb P 8 kt,abb P 8 et with
   |some k,some v=>match (k.size==P.cellsOf kt)&&(v.size==P.cellsOf et) with
    |true=>K (.omp nid) (h (Đ S.h nid (.map k v [])))
    |false=>none
   |_,_=>none
  |_,_=>none
 |.makeSlice t l c=>match EJ l c,ev S.t l,SS P t with
  |true,.int _ n,some e=>match abb P 8 e with
   |some ty=>match Vn P e ty.size with
    |true=>match (((P.info? e).bind (·.zero)).map cv).bind š with
     |some d=>match Ü ty d with
      |some z=>match decide (0<=n)&&ä n.toNat with
       |true=>K (.own nid 0) (h (Đ S.h nid (.row ty 0 false (List.replicate n.toNat z))))
       |false=>none
      |none=>none
     |none=>none
    |false=>none
   |none=>none
  |_,_,_=>none
 |.slice t x lo hi mx=>match mx,P.underlying t with
  |none,some (.slice e)=>match szP P e with
   |some sz=>ti sz S.h (ev S.t x) (lo.map (ev S.t)) (hi.map (ev S.t)) eat fun v h'=>K v (h h')
   |none=>none
  |_,_=>none
 |.fieldAddr t x f=>match P.underlying t with
  |some (.struct fs)=>match fs[f]? with
   |some u=>match szP P u.type with
    |some (_+1)=>Df S.h (ev S.t x) u.offset fun v=>K v S
    |_=>none
   |none=>none
  |_=>none
 |.field t x f=>match P.underlying t,ev S.t x with
  |some (.struct fs),.agg cs=>match fs[f]? with
   |some u=>match ldP P u.type with
    |some (agg,n)=>match Ri cs u.offset n with
     |some A=>match mkv agg A with
      |some v=>K v S
      |none=>none
     |none=>none
    |none=>none
   |none=>none
  |_,_=>none
 |.indexAddr t x i=>match P.underlying t with
  |some (.slice e)=>match szP P e with
   |some sz=>Ip sz S.h (ev S.t x) (ev S.t i) fun v=>K v S
   |none=>none
  |some (.array n e)=>match ev S.t x,ev S.t i with
   |.box id off,.int _ j=>match szP P e with
    |some sz=>Yg n 0 j fun q=>K (.box id (off+q*sz)) S
    |none=>none
   |_,_=>none
  |_=>none
 |.index t x i=>match P.underlying t,ev S.t x,ev S.t i with
  |some (.array n e),.agg cs,.int _ j=>Yg n 0 j fun q=>match ldP P e with
   |some (agg,m)=>match Ri cs (q*m) m with
    |some A=>match mkv agg A with
     |some v=>K v S
     |none=>none
    |none=>none
   |none=>none
  |_,_,_=>none
 |.lookup t m i ok=>vm P S.h t (ev S.t m) (ev S.t i) ok fun v=>K v S
 |.mapUpdate t m i x=>mn P S.h t (ev S.t m) (ev S.t i) (ev S.t x) fun h'=>K .any (h h')
 |.extract x i=>match ev S.t x with
  |.tup vs=>match vs[i]? with
   |some v=>K v S
   |none=>none
  |_=>none
 |.call ⟨.builtin b,args,tys⟩=>match b,args.toList,tys.toList with
  |.len,[x],t::_=>aln (P.underlying t) S.h (ev S.t x) fun v=>K v S
  |.append,[s,x],[t,B]=>match t==B with
   |true=>BS P S.h nid t (ev S.t s) (ev S.t x) fun v h'=>K v (h h')
   |false=>match P.underlying B with
    |some (.int .i64)=>Ku P S.h nid t (ev S.t s) (ev S.t x) fun v h'=>K v (h h')
    |_=>none
  |.clear,[x],[t]=>match P.underlying t with
   |some _=>Lf P S.h t (ev S.t x) fun h'=>K (.tup []) (h h')
   |none=>none
  |.cap,[x],t::_=>match P.underlying t,ev S.t x with
   |some (.slice _),.nils=>K (.int .i64 0) S
   |_,_=>none
  |.min,x::xs,_=>mK false (ev S.t x) (xs.map (ev S.t)) fun v=>K v S
  |.max,x::xs,_=>mK true (ev S.t x) (xs.map (ev S.t)) fun v=>K v S
  |_,_,_=>none
 |_=>none
end
end Go.Am
end

noncomputable section
namespace Go.Am
def Ę (clone:Nat->Bool):Op->Bool
 |.box _ _=>true
 |.alloc _=>true
 |.buildSlice _ _ _=>true
 |.makeMap _ _=>true
 |.makeSlice _ _ _=>true
 |.call ⟨.builtin .append,_,_⟩=>true
 |.call ⟨.value (.func f),_,_⟩=>clone f
 |_=>false
def tys:Ty->CK Ty->Ty
 |t,[]=>t
 |t,u::l=>.pair t (tys u l)
def tyL:CK Ty->Ty
 |[]=>.unit
 |t::l=>tys t l
structure ú where
 ts:CK Ty
 rs:CK Ty
 F:Val (tyL ts)->BY (Val (tyL rs))
structure YFun where
 ty:Ty
 all:CK (Val ty)
structure Env (ρ:Type) where
 P:Program
 eat:Nat->Nat->Bool
 clone:Nat->Bool
 sort:Nat->Bool
 compact:Nat->Bool
 inl:Nat->Bool
 fz:Nat->Bool
 pure:Nat->BY ú
 loops:CK Nat->Nat->Nat->Nat->St->(Exit->St->BY ρ)->BY ρ
 joins:CK Nat->Nat->Nat->Nat->BY (((St->BY ρ)->BY ρ)->(St->BY ρ)->BY ρ):=fun _ _ _ _=>none
 hint:Nat->BY Nat:=fun _=>none
 stop:CK Nat->Nat->Bool:=fun _ _=>false
 yld:BY YFun:=none
 ranges:CK Nat->Nat->Nat->Nat->AV->St->(Exit->St->BY ρ)->BY ρ:=fun _ _ _ _ _ _ _=>none
 ext:Nat->BY (CK Blk->CK AV->(AV->CK Blk->BY ρ)->BY ρ):=fun _=>none
section
variable {ρ:Type}
def cls (E:Env ρ):Op->Nat
 |.load _ _=>1
 |.indexAddr _ _ _=>1
 |.slice _ _ _ _ _=>1
 |.lookup _ _ _ _=>1
 |.buildSlice _ _ _=>2
 |.nilCheck _=>1
 |.fieldAddr _ _ _=>1
 |.box _ _=>1
 |.alloc _=>1
 |.makeMap _ _=>1
 |.makeSlice _ _ _=>1
 |.store _ _ _=>2
 |.mapUpdate _ _ _ _=>2
 |.call ⟨.builtin .append,_,_⟩=>2
 |.call ⟨.builtin .clear,_,_⟩=>2
 |.call ⟨.builtin _,_,_⟩=>1
 |.call ⟨.value (.func f),_,_⟩=>if E.clone f then 1 else if (E.pure f).isSome then(if E.fz f then 2 else 1) else if E.sort f||E.compact f then 2 else 3
 |.call ⟨.value (.tmp t),_,_⟩=>match E.hint t with
  |some g=>if (E.pure g).isSome&&!E.fz g then 1 else 3
  |none=>3
 |.call _=>3
 |_=>0
def S9:CK Operand->CK Nat
 |[]=>[]
 |.tmp t::l=>t::S9 l
 |_::l=>S9 l
def qL (os:CK Oper) (j:Nat):Nat :=
 match os[j]? with
 |some o=>match o.dst with
  |some d=>d
  |none=>0
 |none=>0
def je (os:CK Oper) (o:Oper):CK Nat :=
 (match o.guard with|some (j,_)=>[qL os j]|none=>[])++S9 o.op.operands.toList
def alh:CK Nat->BY Nat->Bool
 |l,some d=>l.contains d
 |_,none=>false
def UB:Op->Bool
 |.call ⟨.value _,_,_⟩=>true
 |_=>false
def alS (E:Env ρ) (os:CK Oper) (a b:Oper):Bool :=
 (UB a.op&&UB b.op)||(cls E a.op==3||(cls E b.op==3&&Nat.ble 1 (cls E a.op))) ||
 alh (je os b) a.dst||alh (je os a) b.dst||(match a.dst,b.dst with|some x,some y=>x==y|_,_=>false)
def EC (E:Env ρ) (a b:Op):Bool:=(cls E a==2&&Nat.ble 1 (cls E b))||(Nat.ble 1 (cls E a)&&cls E b==2)
def Γ:CK Oper->CK Nat->CK Nat
 |[],acc=>acc
 |o::os,acc=>Γ os (acc++[o.after.toList.foldl (fun s e=>if Region.binds .any e then s ||| 2 ^ e.on ||| acc.getD e.on 0 else s) 0])
def CD (E:Env ρ) (all:CK Oper) (c:CK Nat):CK Oper->Nat->Bool
 |[],_=>true
 |b::bs,j=>((List.range j).all fun i=>match all[i]? with
    |some a=>!alS E all a b||(c.getD j 0).testBit i
    |none=>false)&&CD E all c bs (j+1)
def aaN:CK Oper->Nat->Bool
 |[],_=>true
 |o::os,j=>o.after.toList.all (fun e=>!Region.binds .any e||decide (e.on<j))&&aaN os (j+1)
def ajg (E:Env ρ) (a:CK Oper):Bool:=aaN a 0&&CD E a (Γ a []) a 0
def Ă (t:CK AV) (d:BY Nat) (v:AV):CK AV :=
 match d with
 |none=>t
 |some d=>upd t d v
def BF (P:Program) (fn:Nat) (fz:Bool) (S:St) (nid:Nat) (x:AV) (K:AV->St->BY ρ):BY ρ :=
 match P.funcs[fn]? with
 |some f=>match (f.params[0]?).bind (SS P) with
  |some e=>match abb P 8 e with
   |some ty=>match Vn P e ty.size with
    |true=>match Ü (.slice ty) [ă S.h x] with
     |some ys=>match ä ys.length with
      |true=>match fz with
       |true=>K (.slc ty ys) S
       |false=>K (.own nid 0) {t:=S.t,h:=Đ S.h nid (.row ty 0 false ys)}
      |false=>none
     |none=>none
    |false=>none
   |none=>none
  |none=>none
 |none=>none
def FQ:AV->Bool
 |.own _ _=>true
 |.sub _ _ _ _=>true
 |.omp _=>true
 |.box _ _=>true
 |.optr _ _ _ _=>true
 |_=>false
def Ra:AV->Bool
 |.agg cs=>cs.any FQ
 |v=>FQ v
def ahV:AV->Bool
 |.omp _=>false
 |.box _ _=>false
 |.optr _ _ _ _=>false
 |_=>true
def ahW:AV->Bool
 |.agg cs=>cs.all ahV
 |v=>ahV v
def aml (h:CK Blk) (t:Ty) (a:AV):BY (Val t) :=
 match t with
 |.ptr u=>match a with
  |.box id 0=>match lkB h id with
   |.cells cs=>Ü u (cs.map (ă h))
   |_=>none
  |.eptr b x 0=>match decEq b u with
   |isTrue e=>some ((BH (F:=Val) e x:Val u))
   |isFalse _=>none
  |_=>none
 |t=>match UC a==t.isAgg with
  |true=>match š (acY h a) with
   |some cs=>Ü t cs
   |none=>none
  |false=>none
def ajb:(l:CK Ty)->(t:Ty)->Val (tys t l)->CK AV
 |[],t,x=>[enc t x]
 |u::l,t,x=>enc t (x:Val t×Val (tys u l)).1::ajb l u (x:Val t×Val (tys u l)).2
def aca:(l:CK Ty)->Val (tyL l)->CK AV
 |[],_=>[]
 |t::l,x=>ajb l t x
def Xt (h:CK Blk):(l:CK Ty)->(t:Ty)->CK AV->BY (Val (tys t l))
 |[],t,as=>match as with
  |[]=>none
  |a::as=>match as with
   |[]=>aml h t a
   |_::_=>none
 |u::l,t,as=>match as with
  |[]=>none
  |a::as=>match aml h t a with
   |some x=>match Xt h l u as with
    |some y=>some ((x,y):Val t×Val (tys u l))
    |none=>none
   |none=>none
def FO (h:CK Blk) (l:CK Ty) (as:CK AV):BY (Val (tyL l)) :=
 match l with
 |[]=>match as with
  |[]=>some ()
  |_::_=>none
 |t::l=>Xt h l t as
def anv (l:CK Ty) (h:CK Blk) (a:AV):BY (Val (tyL l)) :=
 match l with
 |[]=>none
 |[t]=>aml h t a
 |t::u::l=>match a with
  |.tup as=>Xt h (u::l) t as
  |_=>none
def aa8:(l:CK Ty)->Val (tyL l)->AV
 |[],_=>.tup []
 |[t],x=>enc t x
 |t::u::l,x=>.tup (ajb (u::l) t x)
def Å {α:Type} (x:BY α) (f:α->BY ρ):BY ρ :=
 match x with
 |some y=>f y
 |none=>none
def nt:AV->CK AV
 |.agg cs=>cs
 |v=>[v]
def Vq (c:Bool) (p:ú) (h:CK Blk) (b:CK AV) (K:AV->CK Blk->BY ρ):BY ρ :=
 match FO h p.ts b with
 |some x=>Å (p.F x) fun y=>match Ny (aa8 p.rs y) with
  |true=>K (aa8 p.rs y) h
  |false=>match b.all (fun a=>!Ra a) with
   |true=>K (aa8 p.rs y) h
   |false=>match c||!b.all ahW with
    |true=>none
    |false=>K (aa8 p.rs y) (C8 h (b.flatMap nt))
 |none=>none
def alf:AV->BY AV
 |.tup _=>none
 |v=>some v
def abk (P:Program) (h:CK Blk) (t:CK AV):ResultVar->BY AV
 |.tmp i=>alf (lk t i)
 |.cell a ty=>match SO P h ty (lk t a) some with
  |some v=>alf v
  |none=>none
def Nr (P:Program) (h:CK Blk) (t:CK AV):CK ResultVar->BY (CK AV)
 |[]=>some []
 |r::rs=>match abk P h t r with
  |some v=>match Nr P h t rs with
   |some vs=>some (v::vs)
   |none=>none
  |none=>none
def vz (P:Program) (fn:Func) (S:St):BY AV :=
 match Nr P S.h S.t fn.results.toList with
 |some [v]=>some v
 |some vs=>some (.tup vs)
 |none=>none
def zB (l:CK Int):CK Int:=l.mergeSort (fun a b=>decide (a<=b))
def Vg (h:CK Blk) (x:AV) (K:AV->CK Blk->BY ρ):BY ρ :=
 match x with
 |.own id g=>match lkB h id with
  |.row t g' false xs=>match g==g' with
   |true=>match decEq t (.int .i64) with
    |isTrue e=>match ä xs.length with
     |true=>K (.tup []) (Đ h id (.row (.int .i64) g' false (zB (BH (F:=fun t=>CK (Val t)) e xs))))
     |false=>none
    |isFalse _=>none
   |false=>none
  |_=>none
 |.nils=>K (.tup []) h
 |_=>none
def CF (l:CK Int):CK Int:=Go.Lib.compact l
def qR (h:CK Blk) (x:AV) (K:AV->CK Blk->BY ρ):BY ρ :=
 match x with
 |.own id g=>match lkB h id with
  |.row t g' false xs=>match g==g' with
   |true=>match decEq t (.int .i64) with
    |isTrue e=>match ä xs.length with
     |true=>K (.own id (g+1)) (Đ h id (.row (.int .i64) (g+1) false (CF (BH (F:=fun t=>CK (Val t)) e xs))))
     |false=>none
    |isFalse _=>none
   |false=>none
  |_=>none
 |.nils=>K .nils h
 |_=>none
def afN:Operand->Bool
 |.func _=>true
 |_=>false
def Ŏ:AV->CK Nat
 |.own id _=>[id]
 |.sub id _ _ _=>[id]
 |.omp id=>[id]
 |.box id _=>[id]
 |.optr id _ _ _=>[id]
 |_=>[]
def ahq:AV->CK Nat
 |.agg cs=>cs.flatMap Ŏ
 |v=>Ŏ v
def refs1:AV->CK Nat
 |.agg cs=>cs.flatMap Ŏ
 |.fn _ a b=>a.flatMap ahq++b.flatMap ahq
 |v=>Ŏ v
def anF:AV->Bool
 |.fn _ _ _=>false
 |_=>true
def QP:Blk->CK AV
 |.cells cs=>cs
 |_=>[]
def refs2 (h:CK Blk) (v:AV):CK Nat:=refs1 v++(refs1 v).flatMap fun id=>(QP (lkB h id)).flatMap Ŏ
def aiQ:Blk->Bool
 |.dead=>true
 |_=>false
def UR (E:Env ρ) (t:CK AV) (o:Op):Bool :=
 match o with
 |.call ⟨.value (.tmp s),_,_⟩=>match E.hint s with
  |none=>true
  |some g=>match ev t (.tmp s) with
   |.fn (.func g') a b=>Nat.beq g' g&&(a.all anF&&b.all anF)
   |_=>false
 |_=>true
def nO (E:Env ρ) (S:St) (o:Op):Bool :=
 match Nat.ble 1 (cls E o) with
 |true=>(o.operands.toList.all fun x=>(refs2 S.h (ev S.t x)).all fun id=>!aiQ (lkB S.h id))&&UR E S.t o
 |false=>true
def SU (E:Env ρ) (a:Bool) (fid:Nat) (o:Oper):Bool :=
 match o.op with
 |.store _ _ _=>E.eat fid 0
 |_=>!a&&E.eat fid (o.dst.getD 0)
def yg {α:Type} {ρ:Type} (all l:CK α) (k:BY ρ):BY ρ:=open Classical in if l <+: all then k else none
def yldK (E:Env ρ) (h:CK Blk) (x:AV) (K:AV->CK Blk->BY ρ):BY ρ :=
 match E.yld with
 |some y=>match y.ty.isAgg with
  |true=>none
  |false=>match NT x with
   |true=>match Ü y.ty [ă h x] with
    |some v=>match lkB (sS h x) 0 with
     |.acc t xs=>match decEq t y.ty with
      |isTrue e=>yg y.all (BH (F:=fun t=>CK (Val t)) e xs++[v]) (K (.bool true) (Đ (sS h x) 0 (.acc y.ty (BH (F:=fun t=>CK (Val t)) e xs++[v]))))
      |isFalse _=>none
     |_=>none
    |none=>none
   |false=>none
 |none=>none
def iE (E:Env ρ) (call:CK Nat->Bool->Nat->CK AV->CK Blk->(AV->CK Blk->BY ρ)->BY ρ) (fid:Nat) (path:CK Nat) (a:Bool) (S:St) (nid:Nat) (o:Oper) (K:AV->St->BY ρ):BY ρ :=
 match a&&!nO E S o.op with
 |true=>none
 |false=>match o.op with
  |.call ⟨.value f,args,_⟩=>match ev S.t f with
   |.fn (.func g) first caps=>match E.clone g&&afN f with
    |true=>match args.toList with
     |[x]=>BF E.P g (E.eat fid (o.dst.getD 0)) S nid (ev S.t x) K
     |_=>none
    |false=>call path a g (first++(args.toList.map (ev S.t)++caps)) S.h fun v h=>K v {t:=S.t,h:=h}
   |.yld=>match args.toList with
    |[x]=>yldK E S.h (ev S.t x) fun v h=>K v {t:=S.t,h:=h}
    |_=>none
   |_=>none
  |op=>opK E.P S nid (SU E a fid o) op K
def afl (E:Env ρ) (call:CK Nat->Bool->Nat->CK AV->CK Blk->(AV->CK Blk->BY ρ)->BY ρ) (fid:Nat) (path:CK Nat) (a:Bool) (all:CK Oper):CK Oper->Nat->Nat->St->(St->BY ρ)->BY ρ
 |[],_,_,S,K=>K S
 |o::os,i,nid,S,K =>
  let nid':=bif Ę E.clone o.op then nid+1 else nid
  match o.guard with
  |none=>iE E call fid (path++[i]) a S nid o fun v S=>afl E call fid path a all os (i+1) nid' {t:=Ă S.t o.dst v,h:=S.h} K
  |some (j,want)=>match lk S.t (qL all j) with
   |.bool b=>match b with
    |true=>match want with
     |true=>iE E call fid (path++[i]) a {t:=upd S.t (qL all j) (.bool true),h:=S.h} nid o fun v S=>afl E call fid path a all os (i+1) nid' {t:=Ă S.t o.dst v,h:=S.h} K
     |false=>afl E call fid path a all os (i+1) nid' {t:=Ă (upd S.t (qL all j) (.bool true)) o.dst .und,h:=S.h} K
    |false=>match want with
     |false=>iE E call fid (path++[i]) a {t:=upd S.t (qL all j) (.bool false),h:=S.h} nid o fun v S=>afl E call fid path a all os (i+1) nid' {t:=Ă S.t o.dst v,h:=S.h} K
     |true=>afl E call fid path a all os (i+1) nid' {t:=Ă (upd S.t (qL all j) (.bool false)) o.dst .und,h:=S.h} K
   |.und=>afl E call fid path a all os (i+1) nid' {t:=Ă S.t o.dst .und,h:=S.h} K
   |_=>none
def C9 (E:Env ρ) (S:St) (o:Op):CK Nat :=
 match Nat.ble 1 (cls E o) with
 |true=>o.operands.toList.flatMap fun x=>refs2 S.h (ev S.t x)
 |false=>[]
def disj:CK Nat->CK Nat->Bool
 |[],_=>true
 |x::l,m=>!m.any (fun y=>Nat.beq y x)&&disj l m
def F9 (E:Env ρ) (all:CK Oper) (c:CK Nat) (j i:Nat) (d e:CK Nat):Bool :=
 match all[j]?,all[i]? with
 |some a,some b=>!EC E a.op b.op||((c.getD j 0).testBit i||((c.getD i 0).testBit j||disj d e))
 |_,_=>false
def chk (E:Env ρ) (all:CK Oper) (a:CK Nat) (acc:CK (Nat×CK Nat)) (i:Nat) (F:CK Nat):Bool :=
 acc.all fun p=>F9 E all a p.1 i p.2 F
def ahN (E:Env ρ) (call:CK Nat->Bool->Nat->CK AV->CK Blk->(AV->CK Blk->BY ρ)->BY ρ) (fid:Nat) (path:CK Nat) (all:CK Oper) (a:CK Nat):CK Oper->Nat->Nat->CK (Nat×CK Nat)->St->(St->BY ρ)->BY ρ
 |[],_,_,_,S,K=>K S
 |o::os,i,nid,acc,S,K =>
  let nid':=bif Ę E.clone o.op then nid+1 else nid
  match o.guard with
  |none=>match chk E all a acc i (C9 E S o.op) with
   |true=>iE E call fid (path++[i]) true S nid o fun v c=>ahN E call fid path all a os (i+1) nid' ((i,C9 E S o.op)::acc) {t:=Ă c.t o.dst v,h:=c.h} K
   |false=>none
  |some (j,want)=>match lk S.t (qL all j) with
   |.bool b=>match b with
    |true=>match want with
     |true=>match chk E all a acc i (C9 E S o.op) with
      |true=>iE E call fid (path++[i]) true {t:=upd S.t (qL all j) (.bool true),h:=S.h} nid o fun v c=>ahN E call fid path all a os (i+1) nid' ((i,C9 E S o.op)::acc) {t:=Ă c.t o.dst v,h:=c.h} K
      |false=>none
     |false=>ahN E call fid path all a os (i+1) nid' ((i,[])::acc) {t:=Ă (upd S.t (qL all j) (.bool true)) o.dst .und,h:=S.h} K
    |false=>match want with
     |false=>match chk E all a acc i (C9 E S o.op) with
      |true=>iE E call fid (path++[i]) true {t:=upd S.t (qL all j) (.bool false),h:=S.h} nid o fun v c=>ahN E call fid path all a os (i+1) nid' ((i,C9 E S o.op)::acc) {t:=Ă c.t o.dst v,h:=c.h} K
      |false=>none
     |true=>ahN E call fid path all a os (i+1) nid' ((i,[])::acc) {t:=Ă (upd S.t (qL all j) (.bool false)) o.dst .und,h:=S.h} K
   |.und=>ahN E call fid path all a os (i+1) nid' ((i,[])::acc) {t:=Ă S.t o.dst .und,h:=S.h} K
   |_=>none
def jg (clone:Nat->Bool):CK Oper->Nat
 |[]=>0
 |o::os=>bif Ę clone o.op then jg clone os+1 else jg clone os
def uQ (all:CK Oper):CK Oper->Bool
 |[]=>true
 |o::os=>(match o.guard with
  |none=>true
  |some (j,_)=>match all[j]? with
   |some p=>p.dst.isSome
   |none=>false)&&uQ all os
def Nt (E:Env ρ) (call:CK Nat->Bool->Nat->CK AV->CK Blk->(AV->CK Blk->BY ρ)->BY ρ) (fid:Nat) (path:CK Nat) (b:Bool) (a:CK Oper) (S:St) (K:St->BY ρ):BY ρ :=
 match (b&&!ajg E a)||!uQ a a with
 |true=>none
 |false=>match b with
  |true=>ahN E call fid path a (Γ a []) a 0 S.h.length [] {t:=S.t,h:=S.h++List.replicate (jg E.clone a) .dead} K
  |false=>afl E call fid path false a a 0 S.h.length {t:=S.t,h:=S.h++List.replicate (jg E.clone a) .dead} K
def amV (v:AV) (k:AV->BY ρ):BY ρ :=
 match v with
 |.any=>k .any
 |.und=>k .und
 |.bool b=>k (.bool b)
 |.int i n=>k (.int i n)
 |.str s=>k (.str s)
 |.nils=>k .nils
 |.slc t xs=>k (.slc t xs)
 |.own id g=>k (.own id g)
 |.sub id g lo n=>k (.sub id g lo n)
 |.nilm=>k .nilm
 |.mp a b es=>k (.mp a b es)
 |.omp id=>k (.omp id)
 |.nilp=>k .nilp
 |.box id off=>k (.box id off)
 |.eptr t x off=>k (.eptr t x off)
 |.optr id g i off=>k (.optr id g i off)
 |.nilfn=>k .nilfn
 |.yld=>k .yld
 |.fn f a b=>k (.fn f a b)
 |.agg cs=>k (.agg cs)
 |.tup vs=>k (.tup vs)
def aah:CK AV->(CK AV->BY ρ)->BY ρ
 |[],k=>k []
 |x::xs,k=>amV x fun y=>aah xs fun ys=>k (y::ys)
def K9:CK Blk->(CK Blk->BY ρ)->BY ρ
 |[],k=>k []
 |x::xs,k=>match x with
  |.dead=>K9 xs fun ys=>k (.dead::ys)
  |.cells cs=>aah cs fun cs=>K9 xs fun ys=>k (.cells cs::ys)
  |.row t g fz es=>K9 xs fun ys=>k (.row t g fz es::ys)
  |.map a b es=>K9 xs fun ys=>k (.map a b es::ys)
  |.acc t es=>K9 xs fun ys=>k (.acc t es::ys)
def ai0 (S:St) (k:St->BY ρ):BY ρ:=aah S.t fun t=>K9 S.h fun h=>k {t:=t,h:=h}
def aiY (v:AV) (k:AV->BY ρ):amV v k=k v:=by cases v<;>rfl
def Qm:∀(l:CK AV) (k:CK AV->BY ρ),aah l k=k l
 |[],_=>rfl
 |x::xs,k=>by simp only[aah]; rw[aiY,Qm xs]
def aai:∀(l:CK Blk) (k:CK Blk->BY ρ),K9 l k=k l
 |[],_=>rfl
 |x::xs,k=>by cases x<;>simp only[K9,Qm]<;>rw[aai xs]
def aiZ (S:St) (k:St->BY ρ):ai0 S k=k S:=by
 unfold ai0; rw[Qm,aai]
def Qf:Code->Nat
 |.region rid _ _=>rid+1
 |.seq a _=>Qf a
 |.block _ b=>Qf b
 |.loop b=>Qf b
 |_=>0
def goC (E:Env ρ) (call:CK Nat->Bool->Nat->CK AV->CK Blk->(AV->CK Blk->BY ρ)->BY ρ) (fid:Nat) (path:CK Nat) (m:Nat):Nat->Code->St->(Exit->St->BY ρ)->BY ρ
 |_,.skip,S,K=>K .normal S
 |_,.region rid ops draw,S,K=>Nt E call fid (path++[rid]) draw ops.toList S fun S=>ai0 S (K .normal)
 |bid,.seq a b,S,K=>match E.joins path fid (Qf b) m with
  |none=>goC E call fid path m bid a S fun e S=>match e with
   |.normal=>goC E call fid path m bid b S K
   |e=>K e S
  |some J=>J (fun k=>goC E call fid path m bid a S fun e S=>match e with
   |.normal=>k S
   |e=>K e S) (fun S=>goC E call fid path m bid b S K)
 |bid,.cond c a b,S,K=>match ev S.t c with
  |.bool x=>match x with
   |true=>goC E call fid path m bid a S K
   |false=>goC E call fid path m bid b S K
  |_=>none
 |_,.block id b,S,K=>goC E call fid path m id b S fun e S=>match e with
  |.exit j=>match j==id with
   |true=>K .normal S
   |false=>K (.exit j) S
  |e=>K e S
 |bid,.loop _,S,K=>E.loops path fid bid m S K
 |bid,.rangeFunc g _ _ _,S,K=>E.ranges path fid bid m (ev S.t g) S K
 |bid,.scope c,S,K=>goC E call fid path m bid c S fun e S=>match e with
  |.goto _=>none
  |e=>K e S
 |_,.exit id,S,K=>K (.exit id) S
 |_,.ret,S,K=>K .ret S
 |_,.label _,S,K=>K .normal S
 |_,_,_,_=>none
def xc (E:Env ρ) (call:CK Nat->Bool->Nat->CK AV->CK Blk->(AV->CK Blk->BY ρ)->BY ρ) (path:CK Nat) (f:Nat) (a:CK AV) (h:CK Blk) (K:AV->CK Blk->BY ρ):BY ρ :=
 match E.P.funcs[f]? with
 |some fn=>match fn.body with
  |some c=>goC E call f path h.length 0 c {t:=a++List.replicate (fn.ntmps-a.length) .any,h:=h} fun e S=>match e with
   |.normal=>match vz E.P fn S with
    |some v=>K v S.h
    |none=>none
   |.ret=>match vz E.P fn S with
    |some v=>K v S.h
    |none=>none
   |_=>none
  |none=>none
 |none=>none
def ŧ (E:Env ρ):Nat->CK Nat->Bool->Nat->CK AV->CK Blk->(AV->CK Blk->BY ρ)->BY ρ
 |0,_,_,_,_,_,_=>none
 |n+1,path,draw,f,args,h,K=>match E.pure f with
  |some g=>Vq (draw&&!E.fz f) g h args K
  |none=>match E.sort f with
   |true=>match args with
    |[x]=>Vg h x K
    |_=>none
   |false=>match E.compact f with
   |true=>match args with
    |[x]=>qR h x K
    |_=>none
   |false=>match E.ext f with
    |some X=>X h args K
    |none=>match E.inl f with
     |true=>match E.stop path f with
      |true=>none
      |false=>xc E (ŧ E n) path f args h K
     |false=>none
def topK (E:Env ρ) (f:Nat) (a:CK AV) (K:CK Blk->AV->BY ρ):BY ρ :=
 xc E (ŧ E 10) [] f a [] fun v h=>K h v
def Nv (p:ú) (E:Env (Val (tyL p.rs))) (f:Nat):Prop :=
 ∀x:Val (tyL p.ts),topK E f (aca p.ts x) (anv p.rs)=p.F x
def aiM {α:Type} (f:(α->BY ρ)->BY ρ) (k:α->BY ρ):BY ρ:=f k
def akI {τ:Type} (f:τ->(τ->BY ρ)->BY ρ):Nat->τ->BY ρ
 |0,_=>none
 |n+1,x=>f x (akI f n)
open Classical in
def Ë {τ:Type} (f:τ->(τ->BY ρ)->BY ρ) (x:τ):BY ρ :=
 if h:∃r:BY ρ,∃N,∀n,N<=n->akI f n x=r then Classical.choose h else none
def alj {τ:Type} {f:τ->(τ->BY ρ)->BY ρ} {x:τ} {r:BY ρ} (N:Nat) (h:∀n,N<=n->akI f n x=r):Ë f x=r:=by
 have a:∃r:BY ρ,∃N,∀n,N<=n->akI f n x=r:=⟨r,N,h⟩;unfold Ë;rw[dif_pos a];obtain⟨M,b⟩:=Classical.choose_spec a;rw[<-b (max M N) (Nat.le_max_left _ _),h _ (Nat.le_max_right _ _)]
def afJ {τ:Type} {f:τ->(τ->BY ρ)->BY ρ} {x:τ} {r:ρ} (h:Ë f x=some r):∃n,akI f n x=some r:=by
 unfold Ë at h
 split at h
 ·rename_i a;obtain⟨M,b⟩:=Classical.choose_spec a;exact⟨M,by rw[b M (cX _),h]⟩
 ·cases h
def Ve (a:St->(Exit->St->BY ρ)->BY ρ):Nat->St->(Exit->St->BY ρ)->BY ρ
 |0,_,_=>none
 |n+1,S,K=>a S fun e S=>match e with
  |.normal=>Ve a n S K
  |e=>K e S
def Bu {α β:Type} (f:α->β->(α->BY ρ)->BY ρ):CK β->α->(α->BY ρ)->BY ρ
 |[],v,k=>k v
 |x::xs,v,k=>f v x fun a=>Bu f xs a k
inductive LI where
 |lp (b:Code)
 |rf (g:Operand) (ps:Array Tmp) (a b:Code)
def ß:Nat->Code->CK (Nat×LI)
 |bid,.seq a b=>ß bid a++ß bid b
 |bid,.cond _ a b=>ß bid a++ß bid b
 |_,.block id b=>ß id b
 |bid,.loop b=>(bid,.lp b)::ß bid b
 |bid,.scope b=>ß bid b
 |bid,.rangeFunc g ps a b=>(bid,.rf g ps a b)::(ß bid a++ß bid b)
 |_,_=>[]
def LI.loops (bid:Nat):LI->CK (Nat×LI)
 |.lp b=>ß bid b
 |.rf _ _ a b=>ß bid a++ß bid b
def nM (c:BY Code) (bid:Nat):LI :=
 match c with
 |some c=>match (ß 0 c).find? (fun x=>x.1==bid) with
  |some x=>x.2
  |none=>.lp .skip
 |none=>.lp .skip
def sl (c:BY Code) (bid:Nat):Code :=
 match nM c bid with
 |.lp b=>b
 |.rf _ _ a b=>.seq a b
structure DV where
 ty:Ty
 val:Val ty
def QQ (t:Ty) (d:DV):BY (Val t) :=
 match decEq d.ty t with
 |isTrue h=>some (BH (F:=Val) h d.val)
 |isFalse _=>none
def ae3:(l:CK Ty)->(t:Ty)->CK DV->BY (Val (tys t l))
 |[],t,ds=>match ds with
  |[]=>none
  |d::ds=>match ds with
   |[]=>QQ t d
   |_::_=>none
 |u::l,t,ds=>match ds with
  |[]=>none
  |d::ds=>match QQ t d with
   |some x=>match ae3 l u ds with
    |some y=>some ((x,y):Val t×Val (tys u l))
    |none=>none
   |none=>none
def anb (l:CK Ty) (a:CK DV):BY (Val (tyL l)) :=
 match l with
 |[]=>match a with
  |[]=>some ()
  |_::_=>none
 |t::l=>ae3 l t a
def afo:(t:Ty)->(l:CK Ty)->Val (tys t l)->CK DV
 |t,[],x=>[⟨t,x⟩]
 |t,u::l,x=>⟨t,(x:Val t×Val (tys u l)).1⟩::afo u l (x:Val t×Val (tys u l)).2
def abw:(l:CK Ty)->Val (tyL l)->CK DV
 |[],_=>[]
 |t::l,x=>afo t l x
inductive Pat where
 |any
 |con (t:Ty)
 |var (t:Ty)
 |own (i:Nat)
 |omp (i:Nat)
 |box (i off:Nat)
 |nils
 |nilp
 |nilfn
 |yld
 |fn (f:Nat) (caps:List (Nat×Nat))
 |fnd (f:Nat) (ts:List Ty)
inductive jB where
 |dead
 |cells (ps:List Pat)
 |rowc (t:Ty)
 |rowf (t:Ty) (g:Nat)
 |rowv (t:Ty)
 |mapc (k v:Ty)
 |mapv (k v:Ty)
 |acc (t:Ty)
def aN:Nat->CK Pat->CK Pat
 |0,l=>l
 |n+1,l=>.any::aN n l
structure Tpl where
 n:Nat
 slots:CK Pat
 heap:CK jB
inductive Bd where
 |open_
 |new
 |at_ (id:Nat)
structure Mt where
 bd:CK Bd
 cons:CK DV
 vars:CK DV
 freed:CK Nat
def mE:CK Bd->Nat->BY Bd
 |[],_=>none
 |x::_,0=>some x
 |_::xs,n+1=>mE xs n
def Nc:CK Bd->Nat->Bd->CK Bd
 |[],_,_=>[]
 |_::xs,0,v=>v::xs
 |x::xs,n+1,v=>x::Nc xs n v
def U4 (M:Mt) (i id:Nat):BY Mt :=
 match mE M.bd i with
 |some .open_=>some {M with bd:=Nc M.bd i (.at_ id)}
 |some (.at_ id')=>match id'==id with
  |true=>some M
  |false=>none
 |_=>none
def acz (M:Mt) (i:Nat):BY Mt :=
 match mE M.bd i with
 |some .open_=>some {M with bd:=Nc M.bd i .new}
 |_=>none
def UI (h:CK Blk):AV->CK Nat
 |.own id _=>match lkB h id with
  |.row _ _ false _=>[id]
  |_=>[]
 |.sub id _ _ _=>match lkB h id with
  |.row _ _ false _=>[id]
  |_=>[]
 |.omp id=>[id]
 |_=>[]
def zT (h:CK Blk):CK (Nat×Nat)->CK AV->Mt->BY Mt
 |[],[],M=>some M
 |(i,o)::ps,.box id off::vs,M=>match o==off with
  |true=>match lkB h id with
   |.cells _=>match U4 M i id with
    |some M=>zT h ps vs M
    |none=>none
   |_=>none
  |false=>none
 |_,_,_=>none
def zS:CK Ty->CK AV->Mt->BY Mt
 |[],[],M=>some M
 |t::ts,.eptr a x o::vs,M=>match Nat.beq o 0 with
  |true=>match decEq a t with
   |isTrue _=>zS ts vs {M with cons:=M.cons++[⟨.ptr a,x⟩]}
   |isFalse _=>none
  |false=>none
 |_,_,_=>none
def i8 (h:CK Blk) (p:Pat) (v:AV) (M:Mt):BY Mt :=
 match p with
 |.any=>some M
 |.con t=>match Ü t [ă h v] with
  |some x=>some {M with cons:=M.cons++[⟨t,x⟩],freed:=UI h v++M.freed}
  |none=>none
 |.var t=>match Ü t [ă h v] with
  |some x=>some {M with vars:=M.vars++[⟨t,x⟩],freed:=UI h v++M.freed}
  |none=>none
 |.own i=>match v with
  |.own id g=>match lkB h id with
   |.row _ g' false _=>match g==g' with
    |true=>U4 M i id
    |false=>none
   |_=>none
  |.nils=>acz M i
  |_=>none
 |.omp i=>match v with
  |.omp id=>match lkB h id with
   |.map _ _ _=>U4 M i id
   |_=>none
  |_=>none
 |.box i off=>match v with
  |.box id off'=>match off==off' with
   |true=>match lkB h id with
    |.cells _=>U4 M i id
    |_=>none
   |false=>none
  |_=>none
 |.nils=>match v with
  |.nils=>some M
  |_=>none
 |.nilp=>match v with
  |.nilp=>some M
  |_=>none
 |.nilfn=>match v with
  |.nilfn=>some M
  |_=>none
 |.yld=>match v with
  |.yld=>some M
  |_=>none
 |.fn f caps=>match v with
  |.fn (.func a) [] vs=>match f==a with
   |true=>zT h caps vs M
   |false=>none
  |_=>none
 |.fnd f ts=>match v with
  |.fn (.func a) [] vs=>match f==a with
   |true=>zS ts vs M
   |false=>none
  |_=>none
def TO (h:CK Blk):CK Pat->CK AV->Mt->BY Mt
 |[],_,M=>some M
 |p::ps,vs,M=>match i8 h p (lk vs 0) M with
  |some M=>TO h ps vs.tail M
  |none=>none
def rh (h:CK Blk):CK Pat->CK AV->Mt->BY Mt
 |[],[],M=>some M
 |p::ps,v::vs,M=>match i8 h p v M with
  |some M=>rh h ps vs M
  |none=>none
 |_,_,_=>none
def mL (h:CK Blk) (p:jB) (i:Nat) (M:Mt):BY Mt :=
 match p with
 |.dead=>match mE M.bd i with
  |some (.at_ id)=>match lkB h id with
   |.dead=>some M
   |_=>none
  |_=>none
 |.cells ps=>match mE M.bd i with
  |some (.at_ id)=>match lkB h id with
   |.cells cs=>rh h ps cs M
   |_=>none
  |_=>none
 |.rowc t=>match mE M.bd i with
  |some (.at_ id)=>match lkB h id with
   |.row a _ false xs=>match decEq a t with
    |isTrue _=>some {M with cons:=M.cons++[⟨.slice a,xs⟩]}
    |isFalse _=>none
   |_=>none
  |some .new=>some {M with cons:=M.cons++[⟨.slice t,[]⟩]}
  |_=>none
 |.rowf t g=>match mE M.bd i with
  |some (.at_ id)=>match lkB h id with
   |.row a g' true xs=>match decEq a t with
    |isTrue _=>match decEq g' g with
     |isTrue _=>some {M with cons:=M.cons++[⟨.slice a,xs⟩]}
     |isFalse _=>none
    |isFalse _=>none
   |_=>none
  |_=>none
 |.rowv t=>match mE M.bd i with
  |some (.at_ id)=>match lkB h id with
   |.row a _ false xs=>match decEq a t with
    |isTrue _=>some {M with vars:=M.vars++[⟨.slice a,xs⟩]}
    |isFalse _=>none
   |_=>none
  |some .new=>some {M with vars:=M.vars++[⟨.slice t,[]⟩]}
  |_=>none
 |.mapc k v=>match mE M.bd i with
  |some (.at_ id)=>match lkB h id with
   |.map c b es=>match decEq (Ty.map c b) (Ty.map k v) with
    |isTrue _=>some {M with cons:=M.cons++[⟨.map c b,es⟩]}
    |isFalse _=>none
   |_=>none
  |_=>none
 |.mapv k v=>match mE M.bd i with
  |some (.at_ id)=>match lkB h id with
   |.map c b es=>match decEq (Ty.map c b) (Ty.map k v) with
    |isTrue _=>some {M with vars:=M.vars++[⟨.map c b,es⟩]}
    |isFalse _=>none
   |_=>none
  |_=>none
 |.acc t=>match mE M.bd i with
  |some (.at_ id)=>match lkB h id with
   |.acc a xs=>match decEq a t with
    |isTrue _=>some {M with vars:=M.vars++[⟨.slice a,xs⟩]}
    |isFalse _=>none
   |_=>none
  |_=>none
def TP (h:CK Blk):CK jB->Nat->Mt->BY Mt
 |[],_,M=>some M
 |p::ps,i,M=>match mL h p i M with
  |some M=>TP h ps (i+1) M
  |none=>none
def EH (pin:Nat) (n:Nat):CK Bd:=(List.range n).map fun i=>bif i<pin then .at_ i else .open_
def Mj:CK Bd->CK Nat
 |[]=>[]
 |.at_ id::l=>id::Mj l
 |_::l=>Mj l
def distinct:CK Nat->Bool
 |[]=>true
 |x::l=>!l.contains x&&distinct l
def alB (h:CK Blk):Nat->Bool
 |0=>true
 |i+1=>match lkB h i with
  |.row _ (_+1) false _=>false
  |_=>alB h i
def yT (T:Tpl) (pin:Nat) (cs vs:CK Ty) (S:St):BY (Val (tyL cs)×Val (tyL vs)) :=
 match decide (pin<=T.heap.length)&&(decide (T.slots.length<=T.n)&&(decide (T.n<=S.t.length)&&alB S.h pin)) with
 |true=>match TO S.h T.slots S.t {bd:=EH pin T.heap.length,cons:=[],vars:=[],freed:=[]} with
  |some M=>match TP S.h T.heap 0 M with
   |some M=>match distinct (Mj M.bd)&&M.freed.all (fun i=>!(Mj M.bd).contains i) with
    |true=>match anb cs M.cons,anb vs M.vars with
     |some p,some v=>some (p,v)
     |_,_=>none
    |false=>none
   |none=>none
  |none=>none
 |false=>none
structure It where
 cons:CK DV
 vars:CK DV
def af0:DV->AV
 |⟨.unit,_⟩=>.any
 |⟨.pair _ _,_⟩=>.any
 |⟨t,x⟩=>enc t x
def Cl:CK Ty->It->CK AV×It
 |[],I=>([],I)
 |_::ts,I=>match I.cons with
  |d::ds=>match Cl ts {I with cons:=ds} with
   |(vs,I)=>(af0 d::vs,I)
  |[]=>match Cl ts I with
   |(vs,I)=>(.any::vs,I)
def yp (p:Pat) (I:It):AV×It :=
 match p with
 |.any=>(.any,I)
 |.con _=>match I.cons with
  |d::ds=>(af0 d,{I with cons:=ds})
  |[]=>(.any,I)
 |.var _=>match I.vars with
  |d::ds=>(af0 d,{I with vars:=ds})
  |[]=>(.any,I)
 |.own i=>(.own i 0,I)
 |.omp i=>(.omp i,I)
 |.box i off=>(.box i off,I)
 |.nils=>(.nils,I)
 |.nilp=>(.nilp,I)
 |.nilfn=>(.nilfn,I)
 |.yld=>(.yld,I)
 |.fn f caps=>(.fn (.func f) [] (caps.map fun c=>.box c.1 c.2),I)
 |.fnd f ts=>match Cl ts I with
  |(vs,I)=>(.fn (.func f) [] vs,I)
def J1:CK Pat->It->CK AV×It
 |[],I=>([],I)
 |p::ps,I=>match yp p I with
  |(v,I)=>match J1 ps I with
   |(vs,I)=>(v::vs,I)
def rowDV:DV->Blk
 |⟨.slice t,xs⟩=>.row t 0 false xs
 |_=>.dead
def rowFz (g:Nat):DV->Blk
 |⟨.slice t,xs⟩=>.row t g true xs
 |_=>.dead
def accDV:DV->Blk
 |⟨.slice t,xs⟩=>.acc t xs
 |_=>.dead
def mapDV:DV->Blk
 |⟨.map k v,es⟩=>.map k v es
 |_=>.dead
def C7 (p:jB) (I:It):Blk×It :=
 match p with
 |.dead=>(.dead,I)
 |.cells ps=>match J1 ps I with
  |(cs,I)=>(.cells cs,I)
 |.rowc _=>match I.cons with
  |d::ds=>(rowDV d,{I with cons:=ds})
  |[]=>(.dead,I)
 |.rowf _ g=>match I.cons with
  |d::ds=>(rowFz g d,{I with cons:=ds})
  |[]=>(.dead,I)
 |.rowv _=>match I.vars with
  |d::ds=>(rowDV d,{I with vars:=ds})
  |[]=>(.dead,I)
 |.mapc _ _=>match I.cons with
  |d::ds=>(mapDV d,{I with cons:=ds})
  |[]=>(.dead,I)
 |.mapv _ _=>match I.vars with
  |d::ds=>(mapDV d,{I with vars:=ds})
  |[]=>(.dead,I)
 |.acc _=>match I.vars with
  |d::ds=>(accDV d,{I with vars:=ds})
  |[]=>(.dead,I)
def Il:CK jB->It->CK Blk×It
 |[],I=>([],I)
 |p::ps,I=>match C7 p I with
  |(b,I)=>match Il ps I with
   |(bs,I)=>(b::bs,I)
def û (T:Tpl) (cs vs:CK Ty) (p:Val (tyL cs)) (v:Val (tyL vs)):St :=
 match J1 T.slots {cons:=abw cs p,vars:=abw vs v} with
 |(t,I)=>match Il T.heap I with
  |(h,_)=>{t:=t++List.replicate (T.n-T.slots.length) .any,h:=h}
structure Æ where
 pin:Nat
 cs:CK Ty
 vs:CK Ty
 head:Tpl
 exits:CK (Exit×Tpl×CK Ty)
 alt:Bool:=false
def Æ.zs (L:Æ) (i:Nat):CK Ty:=match L.exits[i]? with|some x=>x.2.2|none=>[]
def Æ.tpl (L:Æ) (i:Nat):Tpl:=match L.exits[i]? with|some x=>x.2.1|none=>⟨0,[],[]⟩
def Æ.xk (L:Æ) (i:Nat):Exit:=match L.exits[i]? with|some x=>x.1|none=>.normal
def My:Exit->Exit->Bool
 |.exit i,.exit j=>i==j
 |.ret,.ret=>true
 |_,_=>false
def alC:CK (Exit×Tpl×CK Ty)->Exit->Nat->BY Nat
 |[],_,_=>none
 |x::xs,e,i=>match My x.1 e with
  |true=>some i
  |false=>alC xs e (i+1)
def EG (L:Æ) (b:Val (tyL L.cs)->Val (tyL L.vs)->BY ρ) (a:(i:Nat)->Val (tyL L.cs)->Val (tyL (L.zs i))->BY ρ) (e:Exit) (S:St):BY ρ :=
 match e with
 |.normal=>match yT L.head L.pin L.cs L.vs S with
  |some (p,v)=>b p v
  |none=>none
 |e=>match alC L.exits e 0 with
  |some i=>match yT (L.tpl i) L.pin L.cs (L.zs i) S with
   |some (p,z)=>a i p z
   |none=>none
  |none=>none
def fitsS (L:Æ) (S:St):Bool:=match L.alt with
 |false=>true
 |true=>match yT L.head L.pin L.cs L.vs S with
  |some _=>true
  |none=>false
def abj (L:Æ) (bF:Val (tyL L.cs)->Val (tyL L.vs)->(Val (tyL L.vs)->BY ρ)->((i:Nat)->Val (tyL (L.zs i))->BY ρ)->BY ρ) (m:Nat) (S:St) (K:Exit->St->BY ρ):BY ρ :=
 match Nat.ble m L.pin with
 |true=>match yT L.head L.pin L.cs L.vs S with
  |some (p,v)=>Ë (fun v a=>bF p v a fun i z=>K (L.xk i) (û (L.tpl i) L.cs (L.zs i) p z)) v
  |none=>none
 |false=>none
end
end Go.Am
end

noncomputable section
namespace Go.Am
def ĕ {α β:Type} (R:α->β->Prop):CK α->CK β->Prop
 |[],[]=>True
 |a::l,b::m=>R a b/\ĕ R l m
 |_,_=>False
section
variable {α β:Type} {R R':α->β->Prop}
def ĕ.length:∀{l:CK α} {m:CK β},ĕ R l m->l.length=m.length
 |[],[],_=>rfl
 |_::_,_::_,h=>by simp[ĕ.length h.2]
 |[],_::_,h=>h.elim
 |_::_,[],h=>h.elim
def ĕ.mono (c:∀a b,R a b->R' a b):∀{l:CK α} {m:CK β},ĕ R l m->ĕ R' l m
 |[],[],_=>trivial
 |_::_,_::_,h=>⟨c _ _ h.1,ĕ.mono c h.2⟩
 |[],_::_,h=>h.elim
 |_::_,[],h=>h.elim
def ĕ.append:∀{l:CK α} {m:CK β} {b:CK α} {a:CK β},ĕ R l m->ĕ R b a->ĕ R (l++b) (m++a)
 |[],[],_,_,_,h=>h
 |_::_,_::_,_,_,h,h'=>⟨h.1,ĕ.append h.2 h'⟩
 |[],_::_,_,_,h,_=>h.elim
 |_::_,[],_,_,h,_=>h.elim
def ĕ.get:∀{l:CK α} {m:CK β},ĕ R l m->∀{i:Nat} {a:α},l[i]?=some a->∃b,m[i]?=some b/\R a b
 |[],[],_,_,_,h=>by simp at h
 |_::_,b::_,h,0,_,e=>by simp at e; subst e; exact⟨b,by simp,h.1⟩
 |_::_,_::_,h,i+1,_,e=>by simpa using ĕ.get h.2 (by simpa using e)
 |[],_::_,h,_,_,_=>h.elim
 |_::_,[],h,_,_,_=>h.elim
def ĕ.take:∀{l:CK α} {m:CK β} (n:Nat),ĕ R l m->ĕ R (l.take n) (m.take n)
 |_,_,0,_=>by simp[ĕ]
 |[],[],_+1,_=>by simp[ĕ]
 |_::_,_::_,n+1,h=>by simpa using⟨h.1,ĕ.take n h.2⟩
 |[],_::_,_+1,h=>h.elim
 |_::_,[],_+1,h=>h.elim
def ĕ.drop:∀{l:CK α} {m:CK β} (n:Nat),ĕ R l m->ĕ R (l.drop n) (m.drop n)
 |_,_,0,h=>by simpa using h
 |[],[],_+1,_=>by simp[ĕ]
 |_::_,_::_,n+1,h=>by simpa using ĕ.drop n h.2
 |[],_::_,_+1,h=>h.elim
 |_::_,[],_+1,h=>h.elim
def ĕ.of_get:∀{l:CK α} {m:CK β},l.length=m.length->(∀(i:Nat) (a:α) (b:β),l[i]?=some a->m[i]?=some b->R a b)->ĕ R l m
 |[],[],_,_=>trivial
 |a::l,b::m,c,h=>⟨h 0 a b (by simp) (by simp),ĕ.of_get (by simpa using c) fun i x y e d=>h (i+1) x y (by simpa using e) (by simpa using d)⟩
 |[],_::_,c,_=>by simp at c
 |_::_,[],c,_=>by simp at c
def ĕ.nil_left {m:CK β} (h:ĕ R [] m):m=[]:=by cases m with|nil=>rfl|cons=>exact h.elim
def ĕ.one {a:α} {m:CK β} (h:ĕ R [a] m):∃b,m=[b]/\R a b:=by
 cases m with
 |nil=>exact h.elim
 |cons b m=>exact⟨b,by rw[ĕ.nil_left h.2],h.1⟩
def ĕ.split:∀{l c:CK α} {m:CK β},ĕ R (l++c) m->∃u v,m=u++v/\ĕ R l u/\ĕ R c v
 |[],_,m,h=>⟨[],m,by simp,trivial,h⟩
 |a::l,c,b::m,h=>by
  obtain⟨u,v,rfl,d,h2⟩:=ĕ.split (l:=l) h.2;exact⟨b::u,v,by simp,⟨h.1,d⟩,h2⟩
 |_::_,_,[],h=>h.elim
def ĕ.map_left {γ:Type} {f:γ->α}:∀{l:CK γ} {m:CK β},ĕ (fun c b=>R (f c) b) l m->ĕ R (l.map f) m
 |[],[],_=>trivial
 |_::_,_::_,h=>⟨h.1,ĕ.map_left h.2⟩
 |[],_::_,h=>h.elim
 |_::_,[],h=>h.elim
end
def CellsAt (w:World) (b off:Nat) (vs:CK Value):Prop:=∀j v,vs[j]?=some v->w.cell? ⟨b,off+j,none⟩=some v
def zw (t:Ty) (vs:CK Value):Value :=
 match t.isAgg with
 |true=>.agg vs.toArray
 |false=>vs.headD undef
def CR (w:World) (av:Nat->Prop):(t:Ty)->Val t->CK Value->Prop
 |.unit,_,vs=>vs=[]
 |.bool,b,vs=>vs=[.bool b]
 |.int k,n,vs=>vs=[.int k n]
 |.str,s,vs=>vs=[.string s]
 |.slice t,xs,vs=>∃base cap,vs=[.slice base (xs:CK (Val t)).length cap]/\(xs:CK (Val t)).length<=cap /\
    ((xs : CK (Val t)) = [] \/ ∃ b off, base = some ⟨b, off, none⟩ /\ ¬ av b /\ b < w.heap.size /\
      ∀i x,(xs:CK (Val t))[i]?=some x->∃us,CR w av t x us/\CellsAt w b (off+i*t.size) us)
 |.map k v,es,vs=>∃r,vs=[.map r]/\((r=none/\(es:CK (Val k×Val v))=[]) \/
    ∃(b:Nat) (c:Array MapEntry) (d:Nat),r=some b/\¬av b/\w.heap[b]?=some (.map c d)/\c.size=(es:CK (Val k×Val v)).length /\
     ∀(i:Nat) (e:Val k×Val v),(es:CK (Val k×Val v))[i]?=some e->∃(m:MapEntry) (us:CK Value),c[i]?=some m/\CR w av k e.1 [m.key]/\CR w av v e.2 us/\m.val=zw v us)
 |.ptr t,x,vs=>∃b off us,vs=[.pointer (some ⟨b,off,none⟩)]/\¬av b/\b<w.heap.size/\CR w av t x us/\CellsAt w b off us
 |.pair a b,v,vs=>∃us f,vs=us++f/\CR w av a (v:Val a×Val b).1 us/\CR w av b (v:Val a×Val b).2 f
def Ks (w:World) (av:Nat->Prop) (w':World) (a:Nat->Prop):Prop:=∀b,b<w.heap.size->¬av b->w'.heap[b]?=w.heap[b]?/\¬a b
def ħ {w:World} {b:Nat} {o:Obj} (h:w.heap[b]?=some o):b<w.heap.size:=by
 rcases dl b w.heap.size with h'|h'
 ·exact h'
 ·rw[Array.getElem?_eq_none h'] at h; cases h
def ME {w w':World} {b:Nat} (h:b<w.heap.size) (e:w'.heap[b]?=w.heap[b]?):b<w'.heap.size:=by
 rw[Array.getElem?_eq_getElem h] at e;exact ħ e
def CellsAt.keep {w w':World} {b off:Nat} {vs:CK Value} (h:CellsAt w b off vs) (e:w'.heap[b]?=w.heap[b]?):CellsAt w' b off vs :=
 fun j v a=>by rw[World.cell?_of_block (w:=w) (by exact e)]; exact h j v a
def CR.keep {w w':World} {av l:Nat->Prop} (K:Ks w av w' l):∀{t:Ty} {x:Val t} {vs:CK Value},CR w av t x vs->CR w' l t x vs
 |.unit,_,_,h=>h
 |.bool,_,_,h=>h
 |.int _,_,_,h=>h
 |.str,_,_,h=>h
 |.slice t,xs,vs,h=>by
  obtain⟨base,cap,e,u,h⟩:=h;refine⟨base,cap,e,u,?_⟩;rcases h with h|⟨b,off,hb,d,c,h⟩
  ·exact .inl h
  ·obtain⟨g,j⟩:=K b c d;refine .inr ⟨b,off,hb,j,ME c g,fun i x n=>?_⟩;obtain⟨us,f,h2⟩:=h i x n;exact⟨us,CR.keep K f,h2.keep g⟩
 |.map k v,es,vs,h=>by
  obtain⟨r,e,h⟩:=h;refine⟨r,e,?_⟩;rcases h with h|⟨b,entries,clock,s,d,o,q,h⟩
  ·exact .inl h
  ·obtain⟨g,j⟩:=K b (ħ o) d;refine .inr ⟨b,entries,clock,s,j,g.trans o,q,fun i x n=>?_⟩;obtain⟨m,us,f,h2,z,y⟩:=h i x n;exact⟨m,us,f,CR.keep K h2,CR.keep K z,y⟩
 |.ptr t,x,vs,h=>by
  obtain⟨b,off,us,e,d,c,f,h2⟩:=h;obtain⟨g,j⟩:=K b c d;exact⟨b,off,us,e,j,ME c g,CR.keep K f,h2.keep g⟩
 |.pair a b,x,vs,h=>by
  obtain⟨us,p,e,f,h2⟩:=h;exact⟨us,p,e,CR.keep K f,CR.keep K h2⟩
def CR.length {w:World} {av:Nat->Prop}:∀{t:Ty} {x:Val t} {vs:CK Value},CR w av t x vs->vs.length=t.size
 |.unit,_,_,h=>by rw[h]; rfl
 |.bool,_,_,h=>by rw[h]; rfl
 |.int _,_,_,h=>by rw[h]; rfl
 |.str,_,_,h=>by rw[h]; rfl
 |.slice _,_,_,h=>by obtain⟨_,_,rfl,_⟩:=h; rfl
 |.map _ _,_,_,h=>by obtain⟨_,rfl,_⟩:=h; rfl
 |.ptr _,_,_,h=>by obtain⟨_,_,_,rfl,_⟩:=h; rfl
 |.pair a b,_,_,h=>by
  obtain⟨us,d,rfl,c,h2⟩:=h;rw[cZ,CR.length c,CR.length h2]; rfl
def aaL:Value->BY Nat
 |.pointer (some a)=>some a.block
 |.slice (some a) _ _=>some a.block
 |.map (some r)=>some r
 |_=>none
@[reducible] def ř:Value->Nat->Prop
 |.agg vs,b=>∃u∈vs.toList,aaL u=some b
 |.pointer a,b=>aaL (.pointer a)=some b
 |.slice a n c,b=>aaL (.slice a n c)=some b
 |.map r,b=>aaL (.map r)=some b
 |_,_=>False
def Blk.live:Blk->Bool
 |.dead=>false
 |.row _ _ fz _=>!fz
 |_=>true
def FT (ν:Nat->Value) (h:CK Blk) (b:Nat):Prop:=∃id,(lkB h id).live=true/\ř (ν id) b
def TI:Obj->Bool
 |.cells _ _ _=>true
 |.map _ _=>true
 |_=>false
structure StepJ (B:Nat) (O X:Nat->Prop) (w:World) (X':Nat->Prop) (w':World):Prop where
 os:w'.os=w.os
 tape:w'.tape=w.tape
 output:w'.output=w.output
 size:w.heap.size<=w'.heap.size
 av:∀b,b<w.heap.size->¬X b->¬X' b
 dat:∀(b:Nat) (o:Obj),w.heap[b]?=some o->TI o=true->(X b->O b)->w'.heap[b]?=some o
 nd:∀(b:Nat) (o:Obj),w.heap[b]?=some o->TI o=false->b<B->w'.heap[b]?=some o
class Ghost where
 G:Nat->Prop
 D:CK Deferred
 Q:BY Nat
 M:Nat
 L:Nat
 B:Nat
 T:Ty
 J:(O X:Nat->Prop)->CK (Val T)->World->Prop
 st:∀O X X' xs w w',J O X xs w->StepJ B O X w X' w'->J O X' xs w'
@[reducible] def Ghost.re (g:Ghost) (G:Nat->Prop) (D:CK Deferred) (Q:BY Nat) (M:Nat):Ghost:=⟨G,D,Q,M,g.L,g.B,g.T,g.J,g.st⟩
@[reducible] def Gh (G:Nat->Prop):Ghost:=⟨G,[],none,0,0,0,.unit,fun _ _ _ _=>False,fun _ _ _ _ _ _ h=>h.elim⟩
variable [Ghost]
def Av (ν:Nat->Value) (h:CK Blk) (b:Nat):Prop:=FT ν h b\/Ghost.G b
def VR0 (ν:Nat->Value) (h:CK Blk) (w:World):AV->Value->Prop
 |.any,_=>True
 |.und,v=>v=undef
 |.bool b,v=>v=.bool b
 |.int k n,v=>v=.int k n
 |.str s,v=>v=.string s
 |.nils,v=>v=.slice none 0 0
 |.slc t xs,v=>CR w (Av ν h) (.slice t) xs [v]
 |.own id g,v=>v.oneCell'=true/\∃t g' fz xs,lkB h id=.row t g' fz xs/\g<=g'/\(g=g'->v=ν id)
 |.sub id g lo n,v=>v.oneCell'=true/\∃t g' fz xs,lkB h id=.row t g' fz xs/\g<=g'/\(g=g'->lo+n<=xs.length/\∃base cap,ν id=.slice base xs.length cap/\v=.slice (if cap=lo then base else base.map (·.add (lo*t.size))) n (cap-lo))
 |.nilm,v=>v=.map none
 |.mp k e es,v=>CR w (Av ν h) (.map k e) es [v]
 |.omp id,v=>v.oneCell'=true/\∃k e es,lkB h id=.map k e es/\v=ν id
 |.nilp,v=>v=.pointer none
 |.box id off,v=>∃cs b,lkB h id=.cells cs/\ν id=.pointer (some ⟨b,0,none⟩)/\v=.pointer (some ⟨b,off,none⟩)
 |.eptr t x off,v=>∃b o us,v=.pointer (some ⟨b,o+off,none⟩)/\¬Av ν h b/\b<w.heap.size/\CR w (Av ν h) t x us/\CellsAt w b o us
 |.optr id g i off,v=>v.oneCell'=true/\∃t g' fz xs,lkB h id=.row t g' fz xs/\g<=g'/\(g=g'->i<xs.length/\∃b o cap,ν id=.slice (some ⟨b,o,none⟩) xs.length cap/\v=.pointer (some ⟨b,o+i*t.size+off,none⟩))
 |.nilfn,v=>v=.nilFunc
 |.yld,v=>v=.func (.yield Ghost.L) #[] #[]
 |_,_=>False
def VR1 (ν:Nat->Value) (h:CK Blk) (w:World):AV->Value->Prop
 |.fn f first caps,v=>∃fs cs,v=.func f fs cs/\ĕ (VR0 ν h w) first fs.toList/\ĕ (VR0 ν h w) caps cs.toList
 |a,v=>VR0 ν h w a v
def VRc (ν:Nat->Value) (h:CK Blk) (w:World) (a:AV) (v:Value):Prop:=VR1 ν h w a v/\v.oneCell'=true
def VR2 (ν:Nat->Value) (h:CK Blk) (w:World):AV->Value->Prop
 |.agg cs,v=>∃vs,v=.agg vs/\ĕ (VRc ν h w) cs vs.toList
 |a,v=>VR1 ν h w a v
def VR (ν:Nat->Value) (h:CK Blk) (w:World):AV->Value->Prop
 |.tup as,v=>∃vs,v=.tuple vs/\ĕ (VR2 ν h w) as vs.toList
 |a,v=>VR2 ν h w a v
def AV.isFn:AV->Bool
 |.fn _ _ _=>true
 |_=>false
def AV.isAgg:AV->Bool
 |.agg _=>true
 |_=>false
def AV.isTup:AV->Bool
 |.tup _=>true
 |_=>false
def zd {ν:Nat->Value} {h:CK Blk} {w:World} {a:AV} {v:Value} (b:a.isFn=false):VR1 ν h w a v=VR0 ν h w a v:=by
 cases a<;>first|rfl|cases b
def BU {ν:Nat->Value} {h:CK Blk} {w:World} {a:AV} {v:Value} (b:a.isAgg=false):VR2 ν h w a v=VR1 ν h w a v:=by
 cases a<;>first|rfl|cases b
def zq {ν:Nat->Value} {h:CK Blk} {w:World} {a:AV} {v:Value} (b:a.isTup=false):VR ν h w a v=VR2 ν h w a v:=by
 cases a<;>first|rfl|cases b
def BR (ν:Nat->Value) (h:CK Blk) (w:World) (id:Nat):Blk->Prop
 |.dead=>True
 |.cells cs=>∃b c e,ν id=.pointer (some ⟨b,0,none⟩)/\w.heap[b]?=some (.cells c e (0,0))/\ĕ (VRc ν h w) cs c.toList
 |.row t _ false xs=>∃base cap,ν id=.slice base xs.length cap/\xs.length<=cap /\
    ((base = none /\ cap = 0) \/ ∃ b off c e, base = some ⟨b, off, none⟩ /\ w.heap[b]? = some (.cells c e (0, 0)) /\ off + cap * t.size <= c.size /\
      ∀i x,xs[i]?=some x->∃us,CR w (Av ν h) t x us/\CellsAt w b (off+i*t.size) us)
 |.row t _ true xs=>CR w (Av ν h) (.slice t) xs [ν id]
 |.map k v es=>∃(b:Nat) (a:Array MapEntry) (d:Nat),ν id=.map (some b)/\w.heap[b]?=some (.map a d)/\a.size=(es:CK (Val k×Val v)).length /\
    ∀(i:Nat) (e:Val k×Val v),(es:CK (Val k×Val v))[i]?=some e->∃(m:MapEntry) (us:CK Value),a[i]?=some m/\CR w (Av ν h) k e.1 [m.key]/\CR w (Av ν h) v e.2 us/\m.val=zw v us
 |.acc t xs=>∃us,ν id=.agg us/\(∀b,ř (ν id) b->∃o,w.heap[b]?=some o/\TI o=true)/\∃e:t=Ghost.T,Ghost.J (ř (ν id)) (Av ν h) (BH (F:=fun t=>CK (Val t)) e xs) w
structure HR (ν:Nat->Value) (h:CK Blk) (w:World):Prop where
 blk:∀id,BR ν h w id (lkB h id)
 inj:∀i j b,(lkB h i).live=true->(lkB h j).live=true->ř (ν i) b->ř (ν j) b->i=j
 ghlt:∀b,Ghost.G b->b<w.heap.size
 ghne:∀id b,(lkB h id).live=true->ř (ν id) b->¬Ghost.G b
def Blk.next (ν ν':Nat->Value) (id:Nat):Blk->Blk->Prop
 |.dead,_=>True
 |.cells _,B=>(∃cs,B=.cells cs)/\ν' id=ν id
 |.row t g _ xs,B=>∃g' fz xs',B=.row t g' fz xs'/\g<=g'/\(g=g'->ν' id=ν id/\xs'.length=xs.length)
 |.map k v _,B=>(∃es,B=.map k v es)/\ν' id=ν id
 |.acc t _,B=>∃xs,B=.acc t xs
structure Ev (m:Nat) (ν:Nat->Value) (h:CK Blk) (w:World) (ν':Nat->Value) (h':CK Blk) (w':World):Prop where
 os:w'.os=w.os
 tape:w'.tape=w.tape
 output:w'.output=w.output
 size:w.heap.size<=w'.heap.size
 keep:Ks w (FT ν h) w' (FT ν' h')
 blk:∀id,id<m->(lkB h id).next ν ν' id (lkB h' id)
def Blk.next_refl (ν:Nat->Value) (id:Nat) (B:Blk):B.next ν ν id B:=by
 cases B with
 |dead=>trivial
 |cells cs=>exact⟨⟨cs,rfl⟩,rfl⟩
 |row t g fz xs=>exact⟨g,fz,xs,rfl,cX _,fun _=>⟨rfl,rfl⟩⟩
 |map k v es=>exact⟨⟨es,rfl⟩,rfl⟩
 |acc t xs=>exact⟨xs,rfl⟩
def Blk.next_trans {ν ν' a:Nat->Value} {id:Nat} {A B C:Blk} (h:A.next ν ν' id B) (k:B.next ν' a id C):A.next ν a id C:=by
 cases A with
 |dead=>trivial
 |cells cs =>
  obtain⟨⟨u,rfl⟩,e⟩:=h;obtain⟨⟨l,rfl⟩,n⟩:=k;exact⟨⟨l,rfl⟩,n.trans e⟩
 |row t g fz xs =>
  obtain⟨g',r,xs',rfl,m,o⟩:=h;obtain⟨f,i,b,rfl,c,d⟩:=k;refine⟨f,i,b,rfl,du m c,fun e=>?_⟩
  have q:g=g':=by omega
  have p:g'=f:=by omega
  exact⟨(d p).1.trans (o q).1,(d p).2.trans (o q).2⟩
 |map x v es =>
  obtain⟨⟨s,rfl⟩,e⟩:=h;obtain⟨⟨j,rfl⟩,n⟩:=k;exact⟨⟨j,rfl⟩,n.trans e⟩
 |acc t xs =>
  obtain⟨xs',rfl⟩:=h;exact k
def Ks.refl (w:World) (av:Nat->Prop):Ks w av w av:=fun _ _ h=>⟨rfl,h⟩
def Ks.trans {w w' c:World} {a f d:Nat->Prop} (h:Ks w a w' f) (k:Ks w' f c d):Ks w a c d :=
 fun b hb ha=>let ⟨e,j⟩:=h b hb ha; let ⟨i,g⟩:=k b (ME hb e) j; ⟨i.trans e,g⟩
omit [Ghost] in
def Ks.or {w w':World} {a d g:Nat->Prop} (h:Ks w a w' d):Ks w (fun b=>a b\/g b) w' (fun b=>d b\/g b) :=
 fun b hb c=>⟨(h b hb fun q=>c (.inl q)).1,fun q=>q.elim (h b hb fun q=>c (.inl q)).2 fun q=>c (.inr q)⟩
def Ev.keepA {m:Nat} {ν ν':Nat->Value} {h h':CK Blk} {w w':World} (e:Ev m ν h w ν' h' w'):Ks w (Av ν h) w' (Av ν' h'):=e.keep.or
def Ev.refl (m:Nat) (ν:Nat->Value) (h:CK Blk) (w:World):Ev m ν h w ν h w :=
 ⟨rfl,rfl,rfl,cX _,Ks.refl _ _,fun _ _=>Blk.next_refl _ _ _⟩
def Ev.trans {m f:Nat} {ν ν' a:Nat->Value} {h h' d:CK Blk} {w w' c:World} (e:Ev m ν h w ν' h' w') (b:Ev f ν' h' w' a d c) (g:m<=f):Ev m ν h w a d c :=
 ⟨b.os.trans e.os,b.tape.trans e.tape,b.output.trans e.output,du e.size b.size,e.keep.trans b.keep,
  fun id hi=>Blk.next_trans (e.blk id hi) (b.blk id (dr hi g))⟩
def Ev.mono {m a:Nat} {ν ν':Nat->Value} {h h':CK Blk} {w w':World} (e:Ev m ν h w ν' h' w') (b:a<=m):Ev a ν h w ν' h' w' :=
 ⟨e.os,e.tape,e.output,e.size,e.keep,fun id hi=>e.blk id (dr hi b)⟩
def lq:∀{h:CK Blk} {id:Nat} {B:Blk},lkB h id=B->B≠.dead->id<h.length
 |[],_,B,e,a=>absurd e.symm a
 |_::_,0,_,_,_=>gX _
 |_::_,_+1,_,e,a=>Nat.succ_lt_succ (lq e a)
section
variable {ν ν':Nat->Value} {h h':CK Blk} {w w':World}
def VR0.ev (e:Ev h.length ν h w ν' h' w'):∀{a:AV} {v:Value},VR0 ν h w a v->VR0 ν' h' w' a v:=by
 intro a v c
 cases a with
 |any=>trivial
 |und=>exact c
 |bool=>exact c
 |int=>exact c
 |str=>exact c
 |nils=>exact c
 |nilm=>exact c
 |nilp=>exact c
 |nilfn=>exact c
 |yld=>exact c
 |slc t xs=>exact CR.keep e.keepA c
 |mp k t es=>exact CR.keep e.keepA c
 |own id g =>
  obtain⟨s,t,g',fz,xs,l,m,u⟩:=c;have hb:=e.blk id (lq l (by simp));rw[l] at hb;obtain⟨j,p,xs',d,f,q⟩:=hb;refine⟨s,t,j,p,xs',d,du m f,fun F=>?_⟩
  have r:g=g':=by omega
  have z:g'=j:=by omega
  rw[u r,(q z).1]
 |sub id g lo n =>
  obtain⟨s,t,g',fz,xs,l,m,u⟩:=c;have hb:=e.blk id (lq l (by simp));rw[l] at hb;obtain⟨j,p,xs',d,f,q⟩:=hb;refine⟨s,t,j,p,xs',d,du m f,fun F=>?_⟩
  have r:g=g':=by omega
  have z:g'=j:=by omega
  obtain⟨y,base,cap,h2,A⟩:=u r;obtain⟨C,B⟩:=q z;exact⟨by rw[B]; exact y,base,cap,by rw[C,B]; exact h2,A⟩
 |omp id =>
  obtain⟨s,k,t,es,l,u⟩:=c;have hb:=e.blk id (lq l (by simp));rw[l] at hb;obtain⟨⟨D,d⟩,q⟩:=hb;exact⟨s,k,t,D,d,by rw[u,q]⟩
 |box id off =>
  obtain⟨cs,b,l,y,h2⟩:=c;have hb:=e.blk id (lq l (by simp));rw[l] at hb;obtain⟨⟨E,d⟩,q⟩:=hb;exact⟨E,b,d,by rw[q]; exact y,h2⟩
 |eptr t x off =>
  obtain⟨b,o,us,y,h2,A,H,G⟩:=c;obtain⟨r,z⟩:=e.keepA b A h2;exact⟨b,o,us,y,z,ME A r,CR.keep e.keepA H,G.keep r⟩
 |optr id g i off =>
  obtain⟨s,t,g',fz,xs,l,m,u⟩:=c;have hb:=e.blk id (lq l (by simp));rw[l] at hb;obtain⟨j,p,xs',d,f,q⟩:=hb;refine⟨s,t,j,p,xs',d,du m f,fun F=>?_⟩
  have r:g=g':=by omega
  have z:g'=j:=by omega
  obtain⟨y,b,o,cap,h2,A⟩:=u r;obtain⟨C,B⟩:=q z;exact⟨by rw[B]; exact y,b,o,cap,by rw[C,B]; exact h2,A⟩
 |fn=>exact c.elim
 |agg=>exact c.elim
 |tup=>exact c.elim
def VR1.ev (e:Ev h.length ν h w ν' h' w') {a:AV} {v:Value} (b:VR1 ν h w a v):VR1 ν' h' w' a v:=by
 cases c:a.isFn with
 |true =>
  cases a<;>try cases c
  obtain⟨fs,cs,f,h2,d⟩:=b;exact⟨fs,cs,f,h2.mono fun _ _=>VR0.ev e,d.mono fun _ _=>VR0.ev e⟩
 |false=>rw[zd c] at b ⊢; exact VR0.ev e b
def VRc.ev (e:Ev h.length ν h w ν' h' w') {a:AV} {v:Value} (b:VRc ν h w a v):VRc ν' h' w' a v:=⟨b.1.ev e,b.2⟩
def VR2.ev (e:Ev h.length ν h w ν' h' w') {a:AV} {v:Value} (b:VR2 ν h w a v):VR2 ν' h' w' a v:=by
 cases c:a.isAgg with
 |true =>
  cases a<;>try cases c
  obtain⟨vs,d,h2⟩:=b;exact⟨vs,d,h2.mono fun _ _=>VRc.ev e⟩
 |false=>rw[BU c] at b ⊢; exact VR1.ev e b
def VR.ev (e:Ev h.length ν h w ν' h' w') {a:AV} {v:Value} (b:VR ν h w a v):VR ν' h' w' a v:=by
 cases c:a.isTup with
 |true =>
  cases a<;>try cases c
  obtain⟨vs,d,h2⟩:=b;exact⟨vs,d,h2.mono fun _ _=>VR2.ev e⟩
 |false=>rw[zq c] at b ⊢; exact VR2.ev e b
end
def mk1 (k:Nat):Deferred:={target:=.collected k,args:=#[]}
def Fr (w:World) (a:CK Deferred):Prop :=
 (∃ms:CK Nat,a=ms.map mk1++Ghost.D/\ms.Nodup/\∀k∈ms,w.heap[k]?=some (.deferred (some []))/\Ghost.M<=k) /\
 (∀l,Ghost.Q=some l->∃r,w.heap[l]?=some (.loop r))/\Ghost.B<=Ghost.M/\Ghost.M<=w.heap.size
def Fr.keep {w w':World} {e:CK Deferred} (H:Fr w e) (f:w.heap.size<=w'.heap.size) (a:∀(b:Nat) (o:Obj),w.heap[b]?=some o->TI o=false->w'.heap[b]?=some o):Fr w' e:=by
 obtain⟨⟨ms,p,h2,d⟩,n,m,j⟩:=H;exact⟨⟨ms,p,h2,fun k c=>⟨a k _ (d k c).1 rfl,(d k c).2⟩⟩,fun l i=>(n l i).imp fun r g=>a l _ g rfl,m,du j f⟩
def Fr.bnd {w:World} {a:CK Deferred} (H:Fr w a):Ghost.B<=w.heap.size:=du H.2.2.1 H.2.2.2
structure Sim (ν:Nat->Value) (S:St) (a:Act) (w:World):Prop where
 defers:Fr w a.defers
 len:S.t.length<=a.tmps.size
 tmps:∀i,VR ν S.h w (lk S.t i) (a.tmps.getD i undef)
 heap:HR ν S.h w
def aiC:∀(t:CK AV) (d:Nat) (v:AV) (i:Nat),lk (upd t d v) i=if i=d/\d<t.length then v else lk t i
 |[],d,v,i=>by simp[upd,lk]
 |x::xs,0,v,0=>by simp[upd,lk]
 |x::xs,0,v,i+1=>by simp[upd,lk]
 |x::xs,d+1,v,0=>by simp[upd,lk]
 |x::xs,d+1,v,i+1=>by simp[upd,lk,aiC xs d v i]
def alk:∀(t:CK AV) (d:Nat),t.length<=d->lk t d=.any
 |[],_,_=>rfl
 |x::xs,0,h=>by simp at h
 |x::xs,d+1,h=>by simpa[lk] using alk xs d (by simpa using h)
def Uy:∀(t:CK AV) (d:Nat) (v:AV),(upd t d v).length=t.length
 |[],_,_=>rfl
 |_::_,0,_=>rfl
 |_::xs,d+1,v=>by simp[upd,Uy xs d v]
def yn:∀(h:CK Blk) (d:Nat) (B:Blk) (i:Nat),lkB (Đ h d B) i=if i=d/\d<h.length then B else lkB h i
 |[],d,v,i=>by simp[Đ,lkB]
 |x::xs,0,v,0=>by simp[Đ,lkB]
 |x::xs,0,v,i+1=>by simp[Đ,lkB]
 |x::xs,d+1,v,0=>by simp[Đ,lkB]
 |x::xs,d+1,v,i+1=>by simp[Đ,lkB,yn xs d v i]
def á:∀(h:CK Blk) (d:Nat) (B:Blk),(Đ h d B).length=h.length
 |[],_,_=>rfl
 |_::_,0,_=>rfl
 |_::xs,d+1,v=>by simp[Đ,á xs d v]
end Go.Am
end

noncomputable section
namespace Go.Am
variable [Ghost]
section
variable {ν ν':Nat->Value} {h h':CK Blk} {w w':World}
def ajo (v:Value):VR0 ν h w (cv1 v) v:=by
 unfold cv1; split<;>first|rfl|trivial
def aaq (v:Value):(cv1 v).isFn=false:=by
 unfold cv1; split<;>rfl
def af3 (v:Value):(cv1 v).isAgg=false:=by
 unfold cv1; split<;>rfl
def UT (v:Value):(cv1 v).isTup=false:=by
 unfold cv1; split<;>rfl
def ĕ.map_self {α β:Type} {R:α->β->Prop} {f:β->α}:∀{l:CK β},(∀b∈l,R (f b) b)->ĕ R (l.map f) l
 |[],_=>trivial
 |b::l,h=>⟨h b (by simp),ĕ.map_self fun c a=>h c (by simp[a])⟩
def ach (v:Value):VR ν h w (cv v) v:=by
 unfold cv
 split
 ·rename_i cs
  split
  ·rename_i a;refine⟨cs,rfl,ĕ.map_self fun b hb=>⟨?_,dC.1 a b hb⟩⟩;rw[zd (aaq b)]; exact ajo b
  ·trivial
 ·rw[zq (UT _),BU (af3 _),zd (aaq _)]; exact ajo _
def ajn (v:Value):(cv v).isTup=false:=by
 unfold cv
 split
 ·split<;>rfl
 ·exact UT _
def ŏ {S:St} {a:Act} (H:Sim ν S a w) (x:Operand):VR ν S.h w (ev S.t x) (a.eval x):=by
 cases x with
 |tmp i=>exact H.tmps i
 |const v=>exact ach v
 |func f=>exact⟨#[],#[],rfl,trivial,trivial⟩
 |global g=>trivial
def VR.one {a:AV} {v:Value} (b:VR ν h w a v) (ha:a.isAgg=false) (c:a.isTup=false):VR1 ν h w a v:=by
 rw[zq c,BU ha] at b; exact b
def VR1.up {a:AV} {v:Value} (b:VR1 ν h w a v):VR ν h w a v:=by
 cases c:a.isTup with
 |true =>
  cases a<;>try cases c
  exact b.elim
 |false =>
  cases ha:a.isAgg with
  |true =>
   cases a<;>try cases ha
   exact b.elim
  |false=>rw[zq c,BU ha]; exact b
def VR0.up {a:AV} {v:Value} (b:VR0 ν h w a v):VR1 ν h w a v:=by
 cases c:a.isFn with
 |true =>
  cases a<;>try cases c
  exact b.elim
 |false=>rw[zd c]; exact b
def CR.oneCell:∀{t:Ty} {x:Val t} {vs:CK Value} {av:Nat->Prop},CR w av t x vs->∀v∈vs,v.oneCell'=true
 |.unit,_,_,_,h=>by rw[show _=[] from h]; simp
 |.bool,_,_,_,h=>by rw[show _=[_] from h]; simp[Value.oneCell']
 |.int _,_,_,_,h=>by rw[show _=[_] from h]; simp[Value.oneCell']
 |.str,_,_,_,h=>by rw[show _=[_] from h]; simp[Value.oneCell']
 |.slice _,_,_,_,h=>by obtain⟨_,_,rfl,_⟩:=h; simp[Value.oneCell']
 |.map _ _,_,_,_,h=>by obtain⟨_,rfl,_⟩:=h; simp[Value.oneCell']
 |.ptr _,_,_,_,h=>by obtain⟨_,_,_,rfl,_⟩:=h; simp[Value.oneCell']
 |.pair a b,_,_,_,h=>by
  obtain⟨us,e,rfl,d,h2⟩:=h;intro v c;rcases de.1 c with c|c
  ·exact CR.oneCell d v c
  ·exact CR.oneCell h2 v c
def VR1.oneCell {a:AV} {v:Value} {vs:CK AV} (c:VR1 ν h w a v) (d:š a=some vs):v.oneCell'=true:=by
 cases a with
 |any=>cases d
 |und=>cases d
 |agg=>exact c.elim
 |tup=>cases d
 |bool b=>rw[show v=_ from c]; rfl
 |int k n=>rw[show v=_ from c]; rfl
 |str s=>rw[show v=_ from c]; rfl
 |nils=>rw[show v=_ from c]; rfl
 |nilm=>rw[show v=_ from c]; rfl
 |nilp=>rw[show v=_ from c]; rfl
 |nilfn=>rw[show v=_ from c]; rfl
 |yld=>rw[show v=_ from c]; rfl
 |slc t xs=>exact CR.oneCell c v (by simp)
 |mp k t es=>exact CR.oneCell c v (by simp)
 |own id g=>exact c.1
 |sub id g lo n=>exact c.1
 |omp id=>exact c.1
 |box id off=>obtain⟨_,_,_,_,rfl⟩:=c; rfl
 |eptr t x off=>obtain⟨_,_,_,rfl,_⟩:=c; rfl
 |optr id g i off=>exact c.1
 |fn f fs cs=>obtain⟨_,_,rfl,_⟩:=c; rfl
def QO {v:Value} (h:v.oneCell'=true):v.cells.toList=[v]:=by cases v<;>first|rfl|cases h
def VR.cells {a:AV} {v:Value} {vs:CK AV} (c:VR ν h w a v) (b:š a=some vs):ĕ (VRc ν h w) vs v.cells.toList:=by
 cases ha:a.isAgg with
 |true =>
  cases a<;>try cases ha
  obtain⟨us,rfl,h2⟩:=c;cases b;exact h2
 |false =>
  have e:a.isTup=false:=by cases a<;>first|rfl|cases b
  have d:=c.one ha e;have h2:=d.oneCell b
  have f:vs=[a]:=by cases a<;>simp_all[š,AV.isAgg]
  rw[f,QO h2];exact⟨⟨d,h2⟩,trivial⟩
def nf:∀{t:Ty} {x:Val t} {vs:CK Value},CR w (Av ν h) t x vs->ĕ (VRc ν h w) (flat t x) vs
 |.unit,_,_,a=>by rw[show _=[] from a]; trivial
 |.bool,_,_,a=>by rw[show _=[_] from a]; exact⟨⟨rfl,rfl⟩,trivial⟩
 |.int _,_,_,a=>by rw[show _=[_] from a]; exact⟨⟨rfl,rfl⟩,trivial⟩
 |.str,_,_,a=>by rw[show _=[_] from a]; exact⟨⟨rfl,rfl⟩,trivial⟩
 |.slice _,_,_,a=>by obtain⟨_,_,rfl,h'⟩:=id a; exact⟨⟨a,rfl⟩,trivial⟩
 |.map _ _,_,_,a=>by obtain⟨_,rfl,h'⟩:=id a; exact⟨⟨a,rfl⟩,trivial⟩
 |.ptr _,_,_,a=>by
  obtain⟨b,off,us,rfl,c,h2,e,d⟩:=id a;exact⟨⟨⟨b,off,us,rfl,c,h2,e,d⟩,rfl⟩,trivial⟩
 |.pair _ _,_,_,a=>by
  obtain⟨us,f,rfl,c,h2⟩:=a;exact(nf c).append (nf h2)
def Ld {t:Ty} {x:Val t} {vs:CK Value} (e:CR w (Av ν h) t x vs):VR ν h w (enc t x) (zw t vs):=by
 have d:=nf e
 cases t with
 |unit=>exact⟨vs.toArray,rfl,by simpa[flat] using d⟩
 |pair a b=>exact⟨vs.toArray,rfl,by simpa using d⟩
 |bool=>obtain⟨u,rfl,c⟩:=d.one; exact c.1.up
 |int k=>obtain⟨u,rfl,c⟩:=d.one; exact c.1.up
 |str=>obtain⟨u,rfl,c⟩:=d.one; exact c.1.up
 |slice t=>obtain⟨u,rfl,c⟩:=d.one; exact c.1.up
 |map k v=>obtain⟨u,rfl,c⟩:=d.one; exact c.1.up
 |ptr t=>obtain⟨u,rfl,c⟩:=d.one; exact c.1.up
def VRs (w:World) (av:Nat->Prop):AV->Value->Prop
 |.bool b,v=>v=.bool b
 |.int k n,v=>v=.int k n
 |.str s,v=>v=.string s
 |.nils,v=>v=.slice none 0 0
 |.nilm,v=>v=.map none
 |.slc t xs,v=>CR w av (.slice t) xs [v]
 |.mp k e es,v=>CR w av (.map k e) es [v]
 |.eptr t x off,v=>∃b o us,v=.pointer (some ⟨b,o+off,none⟩)/\¬av b/\b<w.heap.size/\CR w av t x us/\CellsAt w b o us
 |_,_=>True
def CR.mono {av a:Nat->Prop} (d:∀b,a b->av b) {t:Ty} {x:Val t} {vs:CK Value} (e:CR w av t x vs):CR w a t x vs :=
 e.keep fun b _ c=>⟨rfl,fun hb=>c (d b hb)⟩
def VRs.mono {av c:Nat->Prop} (e:∀b,c b->av b) {a:AV} {v:Value} (d:VRs w av a v):VRs w c a v:=by
 cases a<;>try exact d
 ·exact CR.mono e d
 ·exact CR.mono e d
 ·obtain⟨b,o,us,j,h2,i,g,f⟩:=d;exact⟨b,o,us,j,fun hb=>h2 (e b hb),i,CR.mono e g,f⟩
def VR1.data {a:AV} {v:Value} (b:VR1 ν h w a v):VRs w (Av ν h) a v:=by
 cases a<;>first|exact b|trivial
def ag5 {av:Nat->Prop}:∀{t:Ty} {l:CK AV} {x:Val t} {d:CK AV} {vs:CK Value},Β t l=some (x,d)->ĕ (VRs w av) l vs ->
 ∃us f,vs=us++f/\CR w av t x us/\ĕ (VRs w av) d f:=by
 intro t
 induction t with
 |unit=>intro l x d vs e c; simp only[Β,Option.some.injEq,Prod.mk.injEq] at e; obtain⟨_,rfl⟩:=e; exact⟨[],vs,rfl,rfl,c⟩
 |bool =>
  intro l x d vs e c
  rcases l with _|⟨a,l⟩<;>try (simp[Β] at e; done)
  cases a<;>simp only[Β,reduceCtorEq,Option.some.injEq,Prod.mk.injEq] at e
  obtain⟨rfl,rfl⟩:=e
  cases vs with
  |nil=>exact c.elim
  |cons v vs=>exact⟨[v],vs,rfl,by rw[show v=_ from c.1]; rfl,c.2⟩
 |str =>
  intro l x d vs e c
  rcases l with _|⟨a,l⟩<;>try (simp[Β] at e; done)
  cases a<;>simp only[Β,reduceCtorEq,Option.some.injEq,Prod.mk.injEq] at e
  obtain⟨rfl,rfl⟩:=e
  cases vs with
  |nil=>exact c.elim
  |cons v vs=>exact⟨[v],vs,rfl,by rw[show v=_ from c.1]; rfl,c.2⟩
 |int k =>
  intro l x d vs e c
  rcases l with _|⟨a,l⟩<;>try (simp[Β] at e; done)
  cases a<;>simp only[Β,reduceCtorEq] at e
  split at e
  ·rename_i g _; subst g;simp only[Option.some.injEq,Prod.mk.injEq] at e;obtain⟨rfl,rfl⟩:=e
   cases vs with
   |nil=>exact c.elim
   |cons v vs=>exact⟨[v],vs,rfl,by rw[show v=_ from c.1]; rfl,c.2⟩
  ·cases e
 |slice t _ =>
  intro l x d vs e c
  rcases l with _|⟨a,l⟩<;>try (simp[Β] at e; done)
  cases a<;>simp only[Β,reduceCtorEq] at e
  ·simp only[Option.some.injEq,Prod.mk.injEq] at e;obtain⟨rfl,rfl⟩:=e
   cases vs with
   |nil=>exact c.elim
   |cons v vs=>exact⟨[v],vs,rfl,⟨none,0,by rw[show v=_ from c.1]; rfl,by simp,.inl rfl⟩,c.2⟩
  ·split at e
   ·rename_i g _; subst g;simp only[Option.some.injEq,Prod.mk.injEq] at e;obtain⟨rfl,rfl⟩:=e
    cases vs with
    |nil=>exact c.elim
    |cons v vs=>exact⟨[v],vs,rfl,c.1,c.2⟩
   ·cases e
 |map k v _ _ =>
  intro l x d vs e c
  rcases l with _|⟨a,l⟩<;>try (simp[Β] at e; done)
  cases a<;>simp only[Β,reduceCtorEq] at e
  ·simp only[Option.some.injEq,Prod.mk.injEq] at e;obtain⟨rfl,rfl⟩:=e
   cases vs with
   |nil=>exact c.elim
   |cons v vs=>exact⟨[v],vs,rfl,⟨none,by rw[show v=_ from c.1],.inl ⟨rfl,rfl⟩⟩,c.2⟩
  ·split at e
   ·rename_i g _;cases g;simp only[Option.some.injEq,Prod.mk.injEq] at e;obtain⟨rfl,rfl⟩:=e
    cases vs with
    |nil=>exact c.elim
    |cons v vs=>exact⟨[v],vs,rfl,c.1,c.2⟩
   ·cases e
 |ptr t _ =>
  intro l x d vs e c
  rcases l with _|⟨a,l⟩<;>try (simp[Β] at e; done)
  cases a<;>try (simp[Β] at e; done)
  rename_i A z off
  cases off<;>try (simp[Β] at e; done)
  simp only[Β] at e
  split at e
  ·rename_i g _; subst g;simp only[Option.some.injEq,Prod.mk.injEq] at e;obtain⟨rfl,rfl⟩:=e
   cases vs with
   |nil=>exact c.elim
   |cons v vs =>
    obtain⟨b,o,us,n,h2,m,j,q⟩:=c.1;exact⟨[v],vs,rfl,⟨b,o,us,by rw[n]; rfl,h2,m,j,q⟩,c.2⟩
  ·cases e
 |pair a b iha ihb =>
  intro l x d vs e c;simp only[Β] at e
  split at e
  ·rename_i y C s
   split at e
   ·rename_i u B r;simp only[Option.some.injEq,Prod.mk.injEq] at e;obtain⟨rfl,rfl⟩:=e;obtain⟨us,f,rfl,n,h2⟩:=iha s c;obtain⟨p,i,rfl,m,j⟩:=ihb r h2;exact⟨us++p,i,by simp,⟨us,p,rfl,n,m⟩,j⟩
   ·cases e
  ·cases e
def Ĥ {av:Nat->Prop} {t:Ty} {l:CK AV} {x:Val t} {vs:CK Value} (e:Ü t l=some x) (b:ĕ (VRs w av) l vs):CR w av t x vs:=by
 unfold Ü at e
 split at e<;>try (cases e; done)
 rename_i y c;cases e;obtain⟨us,a,rfl,d,h2⟩:=ag5 c b
 cases a with
 |nil=>simpa using d
 |cons=>exact h2.elim
end
end Go.Am
end

noncomputable section
namespace Go.Am
variable [Ghost]
section
variable {ν ν':Nat->Value} {h h':CK Blk} {w w':World}
def HR.dat (H:HR ν h w) {b:Nat} (hb:FT ν h b):∃o,w.heap[b]?=some o/\TI o=true:=by
 obtain⟨id,j,a⟩:=hb;have d:=H.blk id
 cases e:lkB h id with
 |dead=>rw[e] at j; cases j
 |cells cs =>
  rw[e] at d;obtain⟨m,c,n,f,h2,_⟩:=d;rw[f] at a; cases a; exact⟨_,h2,rfl⟩
 |row t g fz xs =>
  rw[e] at d j
  cases fz with
  |true=>cases j
  |false =>
   obtain⟨base,cap,f,_,h2⟩:=d;rcases h2 with⟨rfl,_⟩|⟨m,off,c,n,rfl,h2,_⟩
   ·rw[f] at a; cases a
   ·rw[f] at a; cases a; exact⟨_,h2,rfl⟩
 |map k v es =>
  rw[e] at d;obtain⟨m,i,l,f,h2,_⟩:=d;rw[f] at a; cases a; exact⟨_,h2,rfl⟩
 |acc t xs =>
  rw[e] at d;obtain⟨us,f,h2,_⟩:=d;exact h2 b a
def HR.lt (H:HR ν h w) {b:Nat} (hb:FT ν h b):b<w.heap.size:=by
 obtain⟨o,a,_⟩:=H.dat hb;exact ħ a
def HR.nd {m:Nat} (H:HR ν h w) (e:Ev m ν h w ν' h' w') (b:Nat) (o:Obj) (hb:w.heap[b]?=some o) (c:TI o=false):w'.heap[b]?=some o :=
 ((e.keep b (ħ hb) fun d=>by obtain⟨o',a,h2⟩:=H.dat d; rw[hb] at a; cases a; rw[c] at h2; cases h2).1).trans hb
def HR.ltA (H:HR ν h w) {b:Nat} (hb:Av ν h b):b<w.heap.size:=hb.elim H.lt (H.ghlt b)
def BR.ev (e:Ev h.length ν h w ν' h' w') (u:∀(b:Nat) (o:Obj),w.heap[b]?=some o->TI o=false->w'.heap[b]?=some o) {id:Nat} (a:ν' id=ν id)
 (j:∀b,(lkB h id).live=true->ř (ν id) b->b<w.heap.size->w'.heap[b]?=w.heap[b]?) (H:BR ν h w id (lkB h id)):BR ν' h' w' id (lkB h id):=by
 cases r:lkB h id with
 |dead=>trivial
 |cells cs =>
  rw[r] at H j;obtain⟨b,c,B,f,h2,l⟩:=H;exact⟨b,c,B,a.trans f,(j b rfl (by rw[f]; rfl) (ħ h2)).trans h2,l.mono fun _ _=>VRc.ev e⟩
 |row t g fz xs =>
  rw[r] at H j
  cases fz with
  |true =>
   show CR w' _ _ _ [ν' id];rw[a]; exact CR.keep e.keepA H
  |false =>
   obtain⟨base,cap,f,J,h2⟩:=H;refine⟨base,cap,a.trans f,J,?_⟩;rcases h2 with h2|⟨b,off,c,B,rfl,l,q,A⟩
   ·exact .inl h2
   ·have C:=j b rfl (by rw[f]; rfl) (ħ l);refine .inr ⟨b,off,c,B,rfl,C.trans l,q,fun i x p=>?_⟩;obtain⟨us,z,y⟩:=A i x p;exact⟨us,CR.keep e.keepA z,y.keep C⟩
 |map k v es =>
  rw[r] at H j;obtain⟨b,d,n,f,h2,G,l⟩:=H;refine⟨b,d,n,a.trans f,(j b rfl (by rw[f]; rfl) (ħ h2)).trans h2,G,fun i x p=>?_⟩;obtain⟨m,us,q,A,z,y⟩:=l i x p;exact⟨m,us,q,CR.keep e.keepA A,CR.keep e.keepA z,y⟩
 |acc t xs =>
  rw[r] at H j;obtain⟨us,f,h2,l,q⟩:=H;have same:∀b o,w.heap[b]?=some o->ř (ν id) b->w'.heap[b]?=some o:=fun b o hb s=>(j b rfl s (ħ hb)).trans hb;refine⟨us,a.trans f,fun b hb=>?_,l,?_⟩
  ·rw[a] at hb;obtain⟨o,F,E⟩:=h2 b hb;exact⟨o,same b o F hb,E⟩
  ·rw[a];refine Ghost.st _ _ _ _ _ _ q ⟨e.os,e.tape,e.output,e.size,fun b hb I=>(e.keepA b hb I).2,fun b o hb _ p=>?_,fun b o hb s _=>u b o hb s⟩
   by_cases D:Av ν h b
   ·exact same b o hb (p D)
   ·exact(e.keepA b (ħ hb) D).1.trans hb
def ď (ν:Nat->Value) (id:Nat) (v:Value):Nat->Value:=fun i=>if i=id then v else ν i
def Ý (ν:Nat->Value) (id:Nat) (v:Value):ď ν id v id=v:=by simp[ď]
def ľ (ν:Nat->Value) {id j:Nat} (v:Value) (a:j≠id):ď ν id v j=ν j:=by simp[ď,a]
def qZ (ν:Nat->Value) (id:Nat):ď ν id (ν id)=ν:=by
 funext i; unfold ď; split<;>simp_all
def ñ {h:CK Blk} {id:Nat} (B:Blk) (a:id<h.length):lkB (Đ h id B) id=B:=by simp[yn,a]
def Ù {h:CK Blk} {id j:Nat} (B:Blk) (a:j≠id):lkB (Đ h id B) j=lkB h j:=by simp[yn,a]
def Ev.upd (H:HR ν h w) {id:Nat} {B:Blk} {V:Value} (n:id<h.length) (p:w'.os=w.os) (c:w'.tape=w.tape) (m:w'.output=w.output)
 (d:w.heap.size<=w'.heap.size)
 (f:∀b,b<w.heap.size->((lkB h id).live=true->¬ř (ν id) b)->w'.heap[b]?=w.heap[b]?)
 (s:B.live=true->∀b,ř V b->((lkB h id).live=true/\ř (ν id) b)\/w.heap.size<=b)
 (e:(lkB h id).next ν (ď ν id V) id B):Ev h.length ν h w (ď ν id V) (Đ h id B) w':=by
 refine⟨p,c,m,d,fun b hb q=>⟨f b hb fun i l=>q ⟨id,i,l⟩,?_⟩,fun j o=>?_⟩
 ·rintro⟨j,i,l⟩
  by_cases o:j=id
  ·subst o;rw[ñ B n] at i;rw[Ý] at l;rcases s i b l with⟨r,h2⟩|r
   ·exact q ⟨j,r,h2⟩
   ·omega
  ·rw[Ù B o] at i;rw[ľ ν V o] at l;exact q ⟨j,i,l⟩
 ·by_cases a:j=id
  ·subst a; rw[ñ B n]; exact e
  ·rw[Ù B a];have:=Blk.next_refl ν j (lkB h j)
   cases u:lkB h j with
   |dead=>trivial
   |cells cs=>exact⟨⟨cs,rfl⟩,ľ ν V a⟩
   |row t g fz xs=>exact⟨g,fz,xs,rfl,cX _,fun _=>⟨ľ ν V a,rfl⟩⟩
   |map k v es=>exact⟨⟨es,rfl⟩,ľ ν V a⟩
   |acc t xs=>exact⟨xs,rfl⟩
def HR.upd (H:HR ν h w) {id:Nat} {B:Blk} {V:Value} (f:id<h.length) (e:Ev h.length ν h w (ď ν id V) (Đ h id B) w')
 (k:∀b,b<w.heap.size->((lkB h id).live=true->¬ř (ν id) b)->w'.heap[b]?=w.heap[b]?)
 (r:B.live=true->∀b,ř V b->((lkB h id).live=true/\ř (ν id) b)\/w.heap.size<=b)
 (t:BR (ď ν id V) (Đ h id B) w' id B):HR (ď ν id V) (Đ h id B) w':=by
 refine⟨fun j=>?_,fun i j b hi a d c=>?_,fun b hb=>dr (H.ghlt b hb) e.size,fun j b l hb=>?_⟩
 rotate_left 2
 ·by_cases a:j=id
  ·subst a;rw[ñ B f] at l;rw[Ý] at hb;rcases r l b hb with⟨g,n⟩|g
   ·exact H.ghne j b g n
   ·exact fun s=>by have:=H.ghlt b s; omega
  ·rw[Ù B a] at l;rw[ľ ν V a] at hb;exact H.ghne j b l hb
 ·by_cases a:j=id
  ·subst a; rw[ñ B f]; exact t
  ·rw[Ù B a];refine BR.ev e (H.nd e) (ľ ν V a) (fun b l hb o=>k b o fun p q=>a (H.inj j id b l p hb q)) (H.blk j)
 ·by_cases m:i=id<;>by_cases h2:j=id
  ·rw[m,h2]
  ·subst m;rw[ñ B f] at hi; rw[Ù B h2] at a;rw[Ý] at d; rw[ľ ν V h2] at c;rcases r hi b d with⟨g,n⟩|g
   ·exact H.inj i j b g a n c
   ·have:=H.lt ⟨j,a,c⟩; omega
  ·subst h2;rw[Ù B m] at hi; rw[ñ B f] at a;rw[ľ ν V m] at d; rw[Ý] at c;rcases r a b c with⟨g,n⟩|g
   ·exact H.inj i j b hi g d n
   ·have:=H.lt ⟨i,hi,d⟩; omega
  ·rw[Ù B m] at hi; rw[Ù B h2] at a;rw[ľ ν V m] at d; rw[ľ ν V h2] at c;exact H.inj i j b hi a d c
def Ev.new (H:HR ν h w) {id:Nat} {B:Blk} {V:Value} {o:Obj} {w':World} (d:id<h.length) (hd:lkB h id=.dead) (i:w'.heap=w.heap.push o) (g:w'.os=w.os) (a:w'.tape=w.tape) (c:w'.output=w.output)
 (k:∀b,ř V b->b=w.heap.size)
 (l:Ev h.length ν h w (ď ν id V) (Đ h id B) w'->BR (ď ν id V) (Đ h id B) w' id B) :
 Ev h.length ν h w (ď ν id V) (Đ h id B) w'/\HR (ď ν id V) (Đ h id B) w':=by
 have j:∀b,b<w.heap.size->((lkB h id).live=true->¬ř (ν id) b)->w'.heap[b]?=w.heap[b]?:=fun b hb _=>by
  rw[i,fU]; simp[gE hb]
 have f:B.live=true->∀b,ř V b->((lkB h id).live=true/\ř (ν id) b)\/w.heap.size<=b:=fun _ b hb=>.inr (by rw[k b hb]; exact cX _);have e:=Ev.upd H (B:=B) (V:=V) d g a c (by rw[i]; simp) j f (by rw[hd]; trivial);exact⟨e,HR.upd H d e j f (l e)⟩
def ζ (b off n:Nat):(⟨b,off,none⟩:Addr).add n=⟨b,off+n,none⟩:=by
 unfold Addr.add; split
 ·rename_i h; subst h; rfl
 ·rfl
def HR.row_data (H:HR ν h w) {id g:Nat} {t:Ty} {fz:Bool} {xs:CK (Val t)} (hb:lkB h id=.row t g fz xs) :
 ∃base cap,ν id=.slice base xs.length cap/\xs.length<=cap/\(base=none->cap=0\/xs=[])/\((xs:CK (Val t))=[]\/∃b off,base=some ⟨b,off,none⟩/\b<w.heap.size/\(fz=true->¬Av ν h b) /\
  ∀i x,(xs:CK (Val t))[i]?=some x->∃us,CR w (Av ν h) t x us/\CellsAt w b (off+i*t.size) us):=by
 have j:=H.blk id;rw[hb] at j
 cases fz with
 |true =>
  obtain⟨base,cap,l,h2,a⟩:=j;refine⟨base,cap,by simpa using l,h2,fun f=>?_,?_⟩
  ·rcases a with a|⟨b,off,a,_⟩
   ·exact .inr a
   ·rw[f] at a; cases a
  ·rcases a with a|⟨b,off,a,d,m,k⟩
   ·exact .inl a
   ·exact .inr ⟨b,off,a,m,fun _=>d,k⟩
 |false =>
  obtain⟨base,cap,l,h2,a⟩:=j;refine⟨base,cap,l,h2,fun f=>?_,?_⟩
  ·rcases a with⟨a,d⟩|⟨b,off,c,e,a,_⟩
   ·exact .inl d
   ·rw[f] at a; cases a
  ·rcases a with⟨a,d⟩|⟨b,off,c,e,a,d,m,k⟩
   ·exact .inl (dD.1 (by omega))
   ·exact .inr ⟨b,off,a,ħ d,fun n=>(by cases n),k⟩
def F3 (H:HR ν h w) {av:Nat->Prop} (c:∀b,av b->Av ν h b) {a:AV} {v:Value} (d:VR1 ν h w a v)
 (p:∀id b,(∃g,a=.own id g)\/(∃g lo n,a=.sub id g lo n)\/a=.omp id->(lkB h id).live=true->ř (ν id) b->¬av b):VRs w av (ă h a) v:=by
 cases a with
 |own id g =>
  obtain⟨L,t,g',fz,xs,e,F,u⟩:=d;simp only[ă,e]
  cases q:g==g' with
  |false=>trivial
  |true =>
   have G:g=g':=by simpa using q
   obtain⟨base,cap,o,h2,_,j⟩:=H.row_data e;rw[u G,o];refine⟨base,cap,rfl,h2,?_⟩;rcases j with j|⟨b,off,rfl,B,A,z⟩
   ·exact .inl j
   ·refine .inr ⟨b,off,rfl,?_,B,fun i x l=>?_⟩
    ·cases fz with
     |true=>exact fun ha=>A rfl (c b ha)
     |false=>exact p id b (.inl ⟨g,rfl⟩) (by rw[e]; rfl) (by rw[o]; rfl)
    ·obtain⟨us,y,J⟩:=z i x l;exact⟨us,CR.mono c y,J⟩
 |sub id g lo n =>
  obtain⟨L,t,g',fz,xs,e,F,u⟩:=d;simp only[ă,e]
  cases q:g==g' with
  |false=>trivial
  |true =>
   have G:g=g':=by simpa using q
   obtain⟨M,K,cap',s,D⟩:=u G;obtain⟨base,cap,o,h2,_,j⟩:=H.row_data e
   rw[o] at s; injection s with S T Q; subst S; subst Q
   have E:((xs.drop lo).take n).length=n:=by simp; omega
   refine⟨_,cap-lo,by rw[E]; exact congrArg (fun x=>[x]) D,by rw[E]; omega,?_⟩
   by_cases I:cap=lo
   ·exact .inl (dD.1 (by rw[E]; omega))
   rcases j with j|⟨b,off,rfl,B,A,z⟩
   ·exact .inl (by rw[j]; simp)
   ·refine .inr ⟨b,off+lo*t.size,by rw[if_neg I]; simp[ζ],?_,B,fun i x l=>?_⟩
    ·cases fz with
     |true=>exact fun ha=>A rfl (c b ha)
     |false=>exact p id b (.inr (.inl ⟨g,lo,n,rfl⟩)) (by rw[e]; rfl) (by rw[o]; rfl)
    ·have C:xs[lo+i]?=some x:=by
      rw[d9] at l
      split at l
      ·simpa using l
      ·cases l
     obtain⟨us,y,J⟩:=z (lo+i) x C;refine⟨us,CR.mono c y,?_⟩
     have:off+lo*t.size+i*t.size=off+(lo+i)*t.size:=by rw[dE]; omega
     rw[this]; exact J
 |omp id =>
  obtain⟨L,k,t,es,e,u⟩:=d;simp only[ă,e];have N:=H.blk id;rw[e] at N;obtain⟨b,f,r,o,h2,O,j⟩:=N;rw[u,o];refine⟨some b,rfl,.inr ⟨b,f,r,rfl,p id b (.inr (.inr rfl)) (by rw[e]; rfl) (by rw[o]; rfl),h2,O,fun i x l=>?_⟩⟩;obtain⟨m,us,B,A,z,y⟩:=j i x l;exact⟨m,us,B,CR.mono c A,CR.mono c z,y⟩
 |any=>trivial
 |und=>trivial
 |bool=>exact d
 |int=>exact d
 |str=>exact d
 |nils=>exact d
 |slc=>exact CR.mono c d
 |nilm=>exact d
 |mp=>exact CR.mono c d
 |nilp=>trivial
 |box=>trivial
 |eptr=>exact VRs.mono (a:=.eptr _ _ _) c d
 |optr=>trivial
 |nilfn=>trivial
 |yld=>trivial
 |fn=>trivial
 |agg=>exact d.elim
 |tup=>exact d.elim
def F0 (H:HR ν h w) {a:AV} {v:Value} (c:VR1 ν h w a v):VRs w (fun _=>False) (ă h a) v :=
 F3 H (fun _ b=>b.elim) c fun _ _ _ _ _ b=>b
def K8 (H:HR ν h w) {id g:Nat} {t:Ty} {fz:Bool} {xs:CK (Val t)} (n:lkB h id=.row t g fz xs) :
 Ev h.length ν h w ν (Đ h id (.row t g true xs)) w/\HR ν (Đ h id (.row t g true xs)) w/\(∀b,Av ν (Đ h id (.row t g true xs)) b->Av ν h b) /\
  ((lkB h id).live=true->∀b,ř (ν id) b->¬Av ν (Đ h id (.row t g true xs)) b):=by
 have l:id<h.length:=lq n (by simp)
 have a:∀b,Av ν (Đ h id (.row t g true xs)) b->Av ν h b:=by
  rintro b (⟨j,c,h2⟩|o)
  ·by_cases m:j=id
   ·subst m; rw[ñ _ l] at c; cases c
   ·rw[Ù _ m] at c; exact .inl ⟨j,c,h2⟩
  ·exact .inr o
 have d:∀b,b<w.heap.size->((lkB h id).live=true->¬ř (ν id) b)->w.heap[b]?=w.heap[b]?:=fun _ _ _=>rfl
 have r:(Blk.row t g true xs).live=true->∀b,ř (ν id) b->((lkB h id).live=true/\ř (ν id) b)\/w.heap.size<=b:=fun v=>by cases v
 have e:Ev h.length ν h w (ď ν id (ν id)) (Đ h id (.row t g true xs)) w:=Ev.upd H l rfl rfl rfl (cX _) d r (by
  rw[n]; exact⟨g,true,xs,rfl,cX _,fun _=>⟨Ý _ _ _,rfl⟩⟩)
 have f:∀b,ř (ν id) b->(lkB h id).live=true->¬Av ν (Đ h id (.row t g true xs)) b:=by
  rintro b hb k (⟨j,c,h2⟩|o)
  ·by_cases m:j=id
   ·subst m; rw[ñ _ l] at c; cases c
   ·rw[Ù _ m] at c; exact m (H.inj j id b c k h2 hb)
  ·exact H.ghne id b k hb o
 have q:HR (ď ν id (ν id)) (Đ h id (.row t g true xs)) w:=by
  refine HR.upd H l e d r ?_;show CR w _ (.slice t) xs [ď ν id (ν id) id];rw[qZ]
  cases fz with
  |true =>
   have s:=H.blk id;rw[n] at s;exact CR.mono a s
  |false =>
   obtain⟨base,cap,c,h2,_,p⟩:=H.row_data n;rw[c];refine⟨base,cap,rfl,h2,?_⟩;rcases p with p|⟨b,off,rfl,B,C,A⟩
   ·exact .inl p
   ·refine .inr ⟨b,off,rfl,f b (by rw[c]; rfl) (by rw[n]; rfl),B,fun i x u=>?_⟩;obtain⟨us,z,y⟩:=A i x u;exact⟨us,CR.mono a z,y⟩
 rw[qZ] at e q;exact⟨e,q,a,fun k b hb=>f b hb k⟩
def ot (h:CK Blk) (a:AV):(sS h a).length=h.length:=by
 cases a<;>try rfl
 all_goals
  simp only[sS]
  split<;>first|rfl|exact á _ _ _
def Qj (H:HR ν h w) (a:AV):Ev h.length ν h w ν (sS h a) w/\HR ν (sS h a) w/\(∀b,Av ν (sS h a) b->Av ν h b):=by
 have c:Ev h.length ν h w ν h w/\HR ν h w/\(∀b,Av ν h b->Av ν h b):=⟨Ev.refl _ _ _ _,H,fun _ hb=>hb⟩
 cases a<;>try exact c
 ·rename_i id g;simp only[sS]
  cases d:lkB h id<;>first|exact c|exact⟨(K8 H d).1,(K8 H d).2.1,(K8 H d).2.2.1⟩
 ·rename_i id g lo n;simp only[sS]
  cases d:lkB h id<;>first|exact c|exact⟨(K8 H d).1,(K8 H d).2.1,(K8 H d).2.2.1⟩
def Qi (H:HR ν h w) {a:AV} {v:Value} (d:VR1 ν h w a v) (i:NT a=true):VRs w (Av ν (sS h a)) (ă h a) v:=by
 refine F3 H (Qj H a).2.2 d fun id b j e hb=>?_;rcases j with⟨g,rfl⟩|⟨g,lo,n,rfl⟩|rfl
 ·obtain⟨f,t,g',fz,xs,c,_⟩:=d;simp only[sS,c];exact(K8 H c).2.2.2 e b hb
 ·obtain⟨f,t,g',fz,xs,c,_⟩:=d;simp only[sS,c];exact(K8 H c).2.2.2 e b hb
 ·cases i
def Jh (h:CK Blk) (a b:AV):ă (sS h a) b=ă h b:=by
 have key:∀(id g:Nat) (t:Ty) (fz:Bool) (xs:CK (Val t)),lkB h id=.row t g fz xs->ă (Đ h id (.row t g true xs)) b=ă h b:=by
  intro id g t fz xs l;have e:id<h.length:=lq l (by simp)
  have c:∀j,(∀{α:Type} (f:(t:Ty)->Nat->CK (Val t)->α) (d:α),(match lkB (Đ h id (.row t g true xs)) j with|.row t g _ xs=>f t g xs|_=>d)=(match lkB h j with|.row t g _ xs=>f t g xs|_=>d)) /\
   (∀{α:Type} (f:(k v:Ty)->CK (Val k×Val v)->α) (d:α),(match lkB (Đ h id (.row t g true xs)) j with|.map k v es=>f k v es|_=>d)=(match lkB h j with|.map k v es=>f k v es|_=>d)):=by
   intro j
   by_cases m:j=id
   ·subst m; rw[ñ _ e,l]; exact⟨fun _ _=>rfl,fun _ _=>rfl⟩
   ·rw[Ù _ m]; exact⟨fun _ _=>rfl,fun _ _=>rfl⟩
  cases b with
  |own j i=>exact(c j).1 (fun t g' xs=>match i==g' with|true=>AV.slc t xs|false=>.any) .any
  |sub j i lo n=>exact(c j).1 (fun t g' xs=>match i==g' with|true=>AV.slc t ((xs.drop lo).take n)|false=>.any) .any
  |omp j=>exact(c j).2 (fun k v es=>AV.mp k v es) .any
  |_=>rfl
 cases a<;>try rfl
 all_goals
  simp only[sS]
  split
  ·exact key _ _ _ _ _ ‹_›
  ·rfl
def FH:∀(as:CK AV) {h:CK Blk},HR ν h w->Ev h.length ν h w ν (C8 h as) w/\HR ν (C8 h as) w/\(∀b,Av ν (C8 h as) b->Av ν h b)
 |[],h,H=>⟨Ev.refl _ _ _ _,H,fun _ hb=>hb⟩
 |a::as,h,H=>by
  obtain⟨e,i,d⟩:=Qj H a;obtain⟨f,g,c⟩:=FH as i;refine⟨e.trans f (by rw[ot]; exact cX _),g,fun b hb=>d b (c b hb)⟩
def HR.grow (H:HR ν h w) (c:∀b,b<w.heap.size->w'.heap[b]?=w.heap[b]?) (a:w.heap.size<=w'.heap.size) (f:w'.os=w.os) (h2:w'.tape=w.tape) (e:w'.output=w.output) (m:Nat):Ev m ν h w ν h w'/\HR ν h w':=by
 have ev:∀m,Ev m ν h w ν h w':=fun m=>⟨f,h2,e,a,fun b hb d=>⟨c b hb,d⟩,fun _ _=>Blk.next_refl _ _ _⟩;exact⟨ev m,fun id=>BR.ev (ev _) (H.nd (ev 0)) rfl (fun b _ _ hb=>c b hb) (H.blk id),H.inj,fun b hb=>dr (H.ghlt b hb) a,H.ghne⟩
end
def Sim.put {ν ν':Nat->Value} {S:St} {a:Act} {w w':World} {h':CK Blk} (H:Sim ν S a w) (e:Ev S.h.length ν S.h w ν' h' w') (g:HR ν' h' w') (d:BY Nat) {v:AV} {u:Value} (j:VR ν' h' w' v u) :
 Sim ν' {t:=Ă S.t d v,h:=h'} (a.put d u) w':=by
 cases d with
 |none=>exact⟨H.defers.keep e.size (H.heap.nd e),H.len,fun i=>(H.tmps i).ev e,g⟩
 |some d =>
  refine⟨by simpa[Act.put] using H.defers.keep e.size (H.heap.nd e),by simpa[Ă,Act.put,Uy] using H.len,fun i=>?_,g⟩;simp only[Ă,aiC,Act.put]
  by_cases hi:i=d/\d<S.t.length
  ·rw[if_pos hi];have b:d<a.tmps.size:=dr hi.2 H.len;rw[hi.1];simpa[eF,fV,b] using j
  ·rw[if_neg hi]
   by_cases hd:i=d
   ·have c:S.t.length<=d:=by
     rcases dl d S.t.length with b|c
     ·exact absurd ⟨hd,b⟩ hi
     ·exact c
    have f:lk S.t i=.any:=by
     rw[hd]; exact alk _ _ c
    rw[f]; trivial
   ·have:(a.tmps.setIfInBounds d u).getD i undef=a.tmps.getD i undef:=by
     simp[eF,fV,Ne.symm hd]
    rw[this]; exact(H.tmps i).ev e
end Go.Am
end

noncomputable section
namespace Go.Am
variable [Ghost]
section
variable {ν ν':Nat->Value} {h h':CK Blk} {w w':World} {P:Program}
def pK:∀{cs:CK AV} {o n:Nat} {a:CK AV},Ri cs o n=some a->a=(cs.drop o).take n/\a.length=n
 |cs,0,0,a,e=>by cases cs<;>(simp[Ri] at e; subst e; simp)
 |[],0,n+1,a,e=>by simp[Ri] at e
 |c::cs,0,n+1,a,e=>by
  simp only[Ri] at e
  split at e
  ·rename_i l d;cases e;obtain⟨b,h2⟩:=pK d;simp at b;exact⟨by simp[<-b],by simp[h2]⟩
  ·cases e
 |[],o+1,n,a,e=>by cases n<;>simp[Ri] at e
 |c::cs,o+1,n,a,e=>by
  have f:Ri cs o n=some a:=by cases n<;>simpa[Ri] using e
  simpa using pK f
def vx:∀{cs:CK AV} {o:Nat} {vs a:CK AV},ae9 cs o vs=some a->a=cs.take o++vs++cs.drop (o+vs.length)/\o+vs.length<=cs.length
 |cs,0,[],a,e=>by cases cs<;>(simp[ae9] at e; subst e; simp)
 |[],0,v::vs,a,e=>by simp[ae9] at e
 |c::cs,0,v::vs,a,e=>by
  simp only[ae9] at e
  split at e
  ·rename_i l d;cases e;obtain⟨b,h2⟩:=vx d;simp at b h2;exact⟨by simp[b],by simpa using h2⟩
  ·cases e
 |[],o+1,vs,a,e=>by cases vs<;>simp[ae9] at e
 |c::cs,o+1,vs,a,e=>by
  obtain⟨l,d,rfl⟩:∃l,ae9 cs o vs=some l/\a=c::l:=by
   cases vs<;>(simp only[ae9] at e; split at e<;>first|exact⟨_,‹_›,by cases e; rfl⟩|cases e)
  obtain⟨b,h2⟩:=vx d;refine⟨?_,by simp; omega⟩;rw[b,show o+1+vs.length=(o+vs.length)+1 by omega];simp
def nR {t:TypeId} {n:Nat} (h:szP P t=some n) (w:World):(sizeOf t).run P w=.ok n w:=by
 unfold szP at h
 split at h
 ·rename_i i hi; cases h; simp[sizeOf,typeInfo,hi]
 ·cases h
def WG {t:TypeId} {agg:Bool} {n:Nat} (h:ldP P t=some (agg,n)):∃d,P.underlying t=some d/\Rj d=agg/\szP P t=some n:=by
 unfold ldP at h
 split at h
 ·rename_i d hd
  split at h
  ·rename_i m a; cases h; exact⟨d,hd,rfl,a⟩
  ·cases h
 ·cases h
def zG {t:TypeId} {d:TypeDesc} (h:P.underlying t=some d) (w:World):(isAgg t).run P w=.ok (Rj d) w:=by
 unfold isAgg;simp only[Sem.run_bind,run_underlying h,Result.andThen_ok]
 cases d<;>rfl
def aa5 (agg:Bool) (us:CK Value):Value:=match agg with|true=>.agg us.toArray|false=>us.headD undef
def run_loadVar {t:TypeId} {agg:Bool} {n:Nat} (g:ldP P t=some (agg,n)) {us:CK Value} (c:us.length=n) (ha:agg=false->n=1) {a:Addr} (e:∀j v,us[j]?=some v->w.cell? (a.add j)=some v) :
 (loadVar t a).run P w=.ok (aa5 agg us) w:=by
 obtain⟨d,hd,rfl,f⟩:=WG g;unfold loadVar;simp only[Sem.run_bind,zG hd,Result.andThen_ok]
 cases b:Rj d with
 |true =>
  simp only[if_true,Sem.run_bind,nR f,Result.andThen_ok,<-c,run_loadCells_list w a us e];rfl
 |false =>
  have i:=ha b;obtain⟨u,rfl⟩:=List.length_eq_one_iff.1 (c.trans i);have h0:=e 0 u rfl
  have:a.add 0=a:=by simp[Addr.add]
  rw[this] at h0;simp[h0,aa5]
def amM {agg:Bool} {cs:CK AV} {us:CK Value} {v:AV} (a:mkv agg cs=some v) (b:ĕ (VRc ν h w) cs us):VR ν h w v (aa5 agg us)/\(agg=false->cs.length=1):=by
 cases agg with
 |true=>cases a; exact⟨⟨us.toArray,rfl,by simpa using b⟩,fun c=>by cases c⟩
 |false =>
  simp only[mkv] at a
  split at a
  ·cases a;obtain⟨u,rfl,d⟩:=b.one;exact⟨d.1.up,fun _=>rfl⟩
  ·cases a
def CellsAt.part {b off:Nat} {us:CK Value} (c:CellsAt w b off us) (o n:Nat):CellsAt w b (off+o) ((us.drop o).take n):=by
 intro j v a;rw[d9] at a
 split at a
 ·rw[eR] at a;have:=c (o+j) v a
  rwa [show off+(o+j)=off+o+j by omega] at this
 ·cases a
def CellsAt.addr {b off:Nat} {us:CK Value} (c:CellsAt w b off us):∀j v,us[j]?=some v->w.cell? ((⟨b,off,none⟩:Addr).add j)=some v:=fun j v a=>by rw[ζ]; exact c j v a
def CellsAt.of_cells {b:Nat} {c:Array Value} {e:TypeId} {f:Nat×Nat} (hb:w.heap[b]?=some (.cells c e f)):CellsAt w b 0 c.toList:=by
 intro j v a;simp[World.cell?,hb] at a ⊢;exact a
def aiB {t:TypeId} {a v:AV} {r:Value} (H:HR ν h w) (e:SO P h t a some=some v) (z:VR ν h w a r) :
 ∃u,(Instr.loadAt t r).run P w=.ok u w/\VR ν h w v u:=by
 unfold SO at e
 split at e<;>try (cases e; done)
 rename_i agg n K
 have fin:∀(b off o:Nat) (cs d:CK AV) (us:CK Value),ĕ (VRc ν h w) cs us->Ri cs o n=some d->CellsAt w b off us->r=.pointer (some ⟨b,off+o,none⟩) ->
  mkv agg d=some v->∃u,(Instr.loadAt t r).run P w=.ok u w/\VR ν h w v u:=by
  intro b off o cs d us M k D A j;obtain⟨f,h2⟩:=pK k
  have hd:ĕ (VRc ν h w) d ((us.drop o).take n):=by rw[f]; exact(M.drop o).take n
  obtain⟨m,l⟩:=amM j hd;refine⟨aa5 agg ((us.drop o).take n),?_,m⟩;rw[A];simp only[Instr.loadAt,Instr.sureAddr,Sem.run_bind,Sem.run_pure,Result.andThen_ok];exact run_loadVar K (hd.length.symm.trans h2) (fun L=>h2.symm.trans (l L)) (D.part o n).addr
 cases a with
 |box id off =>
  obtain⟨cs,b,f,h2,m⟩:=z;simp only[f] at e
  split at e<;>try (cases e; done)
  rename_i d k
  split at e<;>try (cases e; done)
  rename_i I j;cases e;have J:=H.blk id;rw[f] at J;obtain⟨S,c,X,l,q,s⟩:=J;rw[l] at h2; cases h2;exact fin b 0 off cs d c.toList s k (.of_cells q) (by rw[m]; simp) j
 |eptr ty x off =>
  obtain⟨b,o,us,f,h2,m,l,q⟩:=z;simp only at e
  split at e<;>try (cases e; done)
  rename_i d k
  split at e<;>try (cases e; done)
  rename_i I j;cases e;exact fin b o off (flat ty x) d us (nf l) k q f j
 |optr id g i off =>
  obtain⟨T,ty,g',fz,xs,f,h2,m⟩:=z;simp only[f] at e
  split at e<;>try (cases e; done)
  rename_i B
  have C:g=g':=by simpa using B
  split at e<;>try (cases e; done)
  rename_i x y
  split at e<;>try (cases e; done)
  rename_i d k
  split at e<;>try (cases e; done)
  rename_i I j;cases e;obtain⟨hi,b,o,cap,l,q⟩:=m C;obtain⟨base,cap',s,V,_,p⟩:=H.row_data f
  rw[l] at s; injection s with Q W O; subst Q; subst O
  rcases p with p|⟨S,o',p,U,N,G⟩
  ·rw[p] at y; simp at y
  ·cases p;obtain⟨us,F,E⟩:=G i x y;exact fin b _ off (flat ty x) d us (nf F) k E q j
 |_=>cases e
def Nn (w:World) (g:Nat) (c:Array Value):(w.setRow g c).heap.size=w.heap.size:=by simp[World.setRow]
def Vl (H:HR ν h w) {id g g' b o' cap':Nat} {t:Ty} {xs xs':CK (Val t)} {c c':Array Value} {e:TypeId} (l:lkB h id=.row t g false xs) (hb:ř (ν id) b)
 (r:w.heap[b]?=some (.cells c e (0,0))) (n:xs'.length<=cap') (m:o'+cap'*t.size<=c'.size)
 (f:g<g'\/(g=g'/\Value.slice (some ⟨b,o',none⟩) xs'.length cap'=ν id/\xs'.length=xs.length))
 (u:∀(i:Nat) (x:Val t),xs'[i]?=some x->∃us,CR w (Av ν h) t x us/\∀j v,us[j]?=some v->c'[o'+i*t.size+j]?=some v) :
 Ev h.length ν h w (ď ν id (.slice (some ⟨b,o',none⟩) xs'.length cap')) (Đ h id (.row t g' false xs')) (w.setRow b c') /\
  HR (ď ν id (.slice (some ⟨b,o',none⟩) xs'.length cap')) (Đ h id (.row t g' false xs')) (w.setRow b c'):=by
 have d:id<h.length:=lq l (by simp)
 have a:∀k,k<w.heap.size->((lkB h id).live=true->¬ř (ν id) k)->(w.setRow b c').heap[k]?=w.heap[k]?:=fun k _ o=>by
  refine setRow_other w b k c' fun q=>o (by rw[l]; rfl) (by rw[q]; exact hb)
 have s:(Blk.row t g' false xs').live=true->∀k,ř (Value.slice (some ⟨b,o',none⟩) xs'.length cap') k->((lkB h id).live=true/\ř (ν id) k)\/w.heap.size<=k:=fun _ k o=>by
  cases o; exact .inl ⟨by rw[l]; rfl,hb⟩
 have ev:=Ev.upd H (B:=.row t g' false xs') (V:=.slice (some ⟨b,o',none⟩) xs'.length cap') (w':=w.setRow b c') d rfl rfl rfl (by rw[Nn]; exact cX _) a s (by
  rw[l]
  refine⟨g',false,xs',rfl,by rcases f with f|⟨f,_⟩<;>omega,fun q=>?_⟩
  rcases f with f|⟨_,p,h2⟩
  ·omega
  ·exact⟨by rw[Ý,p],h2⟩)
 refine⟨ev,HR.upd H d ev a s ⟨some ⟨b,o',none⟩,cap',Ý _ _ _,n,.inr ⟨b,o',c',e,rfl,setRow_heap w b c c' e _ r,m,fun i x hi=>?_⟩⟩⟩;obtain⟨us,p,h2⟩:=u i x hi;refine⟨us,CR.keep ev.keepA p,fun j v y=>?_⟩;simp only[World.cell?,setRow_heap w b c c' e _ r];simpa using h2 j v y
def FI:∀(t:Ty) (x:Val t),(flat t x).length=t.size
 |.unit,_=>rfl
 |.bool,_=>rfl
 |.int _,_=>rfl
 |.str,_=>rfl
 |.slice _,_=>rfl
 |.map _ _,_=>rfl
 |.ptr _,_=>rfl
 |.pair a b,x=>by rw[flat,cZ,FI a,FI b]; rfl
def Iv:∀{as:CK AV} {h:CK Blk} {vs:CK Value},HR ν h w->ĕ (VR1 ν h w) as vs->as.all NT=true->ĕ (VRs w (Av ν (C8 h as))) (as.map (ă h)) vs
 |[],_,[],_,_,_=>trivial
 |[],_,_::_,_,c,_=>c.elim
 |_::_,_,[],_,c,_=>c.elim
 |a::as,h,v::vs,H,c,d=>by
  simp only[fQ,cW] at d;obtain⟨e,g,j⟩:=Qj H a;have f:=Iv (vs:=vs) g (c.2.mono fun _ _=>VR1.ev e) d.2;have i:as.map (ă (sS h a))=as.map (ă h):=fi fun b _=>Jh h a b;rw[i] at f;refine⟨VRs.mono (FH as g).2.2 (Qi H c.1 d.1),f⟩
def aiX {v:AV} {vs:CK AV} (a:š v=some vs) (h:CK Blk):frz h v=C8 h vs/\(ahX v=true->vs.all NT=true):=by
 cases v<;>simp only[š,Option.some.injEq,reduceCtorEq] at a<;>subst a<;>exact⟨rfl,fun b=>by first|simpa[ahX] using b|rfl⟩
def κ:∀(as:CK AV) (h:CK Blk),(C8 h as).length=h.length
 |[],_=>rfl
 |a::as,h=>by rw[C8,κ as,ot]
def Ki {v:AV} {u:Value} {vs:CK AV} (a:VR ν h w v u) (b:š v=some vs):u.cells.size=vs.length:=by
 have:=(a.cells b).length;simpa using this.symm
def zE {t:TypeId} {u:Value} {n b o:Nat} {c:Array Value} {e:TypeId} (f:szP P t=some n) (d:u.cells.size=n) (g:w.heap[b]?=some (.cells c e (0,0)))
 (a:o+n<=c.size) (i:∀v∈u.cells.toList,v.oneCell'=true) :
 (storeVar t ⟨b,o,none⟩ u).run P w=.ok () (w.setRow b (c.toList.take o++u.cells.toList++c.toList.drop (o+n)).toArray):=by
 have:=run_storeCells_at P b o e u.cells.toList 0 c w g (by simpa[d] using a) i;simp only[Nat.add_zero,Array.length_toList,d] at this;unfold storeVar;simp only[Sem.run_bind,nR f,Result.andThen_ok,d,ne_eq,not_true,if_false,this]
def ĕ.right_mem {α β:Type} {R:α->β->Prop}:∀{l:CK α} {m:CK β},ĕ R l m->∀b∈m,∃a,R a b
 |[],[],_,b,hb=>by cases hb
 |a::_,c::_,h,b,hb=>by
  rcases df.1 hb with rfl|hb
  ·exact⟨a,h.1⟩
  ·exact ĕ.right_mem h.2 b hb
 |[],_::_,h,_,_=>h.elim
 |_::_,[],h,_,_=>h.elim
def B0 {α:Type} (l m:CK α) (p k:Nat) (b:p+m.length<=l.length) :
 (l.take p++m++l.drop (p+m.length))[k]?=if k<p then l[k]? else if k<p+m.length then m[k-p]? else l[k]?:=by
 rw[fp,fp,cZ,dk,Nat.min_eq_left (by omega:p<=l.length)]
 by_cases a:k<p
 ·rw[if_pos (by omega),if_pos a,if_pos a,d9,if_pos a]
 ·rw[if_neg a,if_neg a]
  by_cases h2:k<p+m.length
  ·rw[if_pos h2,if_pos h2]
  ·rw[if_neg h2,if_neg h2,eR,show p+m.length+(k-(p+m.length))=k by omega]
def acW {t:TypeId} {a v:AV} {ua l:Value} (H:HR ν h w) (e:yQ P h t a v some=some h') (ha:VR ν h w a ua) (K:VR ν h w v l) :
 ∃w',(Instr.storeAt t ua l).run P w=.ok () w'/\HR ν h' w'/\Ev h.length ν h w ν h' w'/\h'.length=h.length:=by
 unfold yQ at e
 split at e<;>try (cases e; done)
 rename_i vs C
 split at e<;>try (cases e; done)
 rename_i Y
 have Y:szP P t=some vs.length:=by simpa using Y
 have J:=K.cells C;have u:∀v∈l.cells.toList,v.oneCell'=true:=fun v K=>let ⟨_,h⟩:=J.right_mem v K; h.2;have E:=Ki K C
 cases a with
 |box id off =>
  obtain⟨cs,b,M,h2,h3⟩:=ha;simp only[M] at e
  split at e<;>try (cases e; done)
  rename_i c' m;cases e;obtain⟨rfl,h5⟩:=vx m;have Q:=H.blk id;rw[M] at Q;obtain⟨b',c,e',L,h7,S⟩:=Q;rw[L] at h2; cases h2;have O:id<h.length:=lq M (by simp)
  have hcl:c.size=cs.length:=by simpa using S.length.symm
  have n:=zE (P:=P) (o:=off) Y E h7 (by omega) u
  have q:∀k,k<w.heap.size->((lkB h id).live=true->¬ř (ν id) k)->(w.setRow b (c.toList.take off++l.cells.toList++c.toList.drop (off+vs.length)).toArray).heap[k]?=w.heap[k]? :=
   fun k _ f=>setRow_other w b k _ fun he=>f (by rw[M]; rfl) (by rw[L,he]; rfl)
  have hV:(Blk.cells (cs.take off++vs++cs.drop (off+vs.length))).live=true->∀k,ř (ν id) k->((lkB h id).live=true/\ř (ν id) k)\/w.heap.size<=k:=fun _ k f=>.inl ⟨by rw[M]; rfl,f⟩;have ev:=Ev.upd H (B:=.cells (cs.take off++vs++cs.drop (off+vs.length))) (V:=ν id) (w':=w.setRow b (c.toList.take off++l.cells.toList++c.toList.drop (off+vs.length)).toArray) O rfl rfl rfl (by rw[Nn]; exact cX _) q hV (by rw[M]; exact⟨⟨_,rfl⟩,Ý _ _ _⟩)
  have N:=HR.upd H O ev q hV ⟨b,_,e',(Ý _ _ _).trans L,setRow_heap w b c _ e' _ h7,by
   exact(((S.take off).append J).append (S.drop (off+vs.length))).mono fun _ _ A=>VRc.ev ev A⟩
  rw[qZ] at ev N;exact⟨_,by rw[h3]; simpa[Instr.storeAt,Instr.sureAddr] using n,N,ev,á _ _ _⟩
 |optr id g i off =>
  simp only at e
  split at e<;>try (cases e; done)
  rename_i hm;obtain⟨hfe,I⟩:=aiX C h;have I:=I hm;rw[hfe] at e;obtain⟨e1,H1,hlv⟩:=FH vs H;have hsn:=Iv H (J.mono fun _ _ A=>A.1) I;have ha1:=ha.ev e1
  split at e<;>try (cases e; done)
  rename_i ty g' xs p
  split at e<;>try (cases e; done)
  rename_i hgg
  have hge:g=g':=by simpa using hgg
  split at e<;>try (cases e; done)
  rename_i x A
  split at e<;>try (cases e; done)
  rename_i cs' m
  split at e<;>try (cases e; done)
  rename_i x' hx';cases e;obtain⟨h4,h5⟩:=vx m;rw[dF] at h4 h5;rw[FI] at h5;obtain⟨ho,ty2,g2,fz2,xs2,L,h7,S⟩:=ha1;rw[p] at L;cases L;obtain⟨hi,b,o,cap,h9,h10⟩:=S hge;have Q:=H1.blk id;rw[p] at Q;obtain⟨base,cap2,X,h12,r⟩:=Q
  rw[h9] at X; injection X with q1 q2 q3; subst q1; subst q3
  rcases r with⟨r,_⟩|⟨b2,o2,c,e2,r,s,h15,W⟩
  ·cases r
  cases r;obtain⟨us,U,h18⟩:=W i x A;have hul:us.length=ty.size:=U.length;have hii:(i+1)*ty.size<=cap*ty.size:=dB _ (by omega)
  have hi1:(i+1)*ty.size=i*ty.size+ty.size:=by rw[dE,fm]
  have n:=zE (P:=P) (o:=o+i*ty.size+off) Y E s (by omega) u
  have hcr:CR w (Av ν (C8 h vs)) ty x' (us.take off++l.cells.toList++us.drop (off+vs.length)):=by
   refine Ĥ hx' ?_;rw[h4];have hf:=(nf U).mono fun _ _ A=>(VR1.data A.1);exact((hf.take off).append hsn).append (hf.drop _)
  have D:l.cells.toList.length=vs.length:=by simpa using E
  obtain⟨ev,N⟩:=Vl H1 (xs':=xs.set i x') (g':=g') (o':=o) (cap':=cap) (c':=(c.toList.take (o+i*ty.size+off)++l.cells.toList++c.toList.drop (o+i*ty.size+off+vs.length)).toArray) p (by rw[h9]; rfl) s
   (by simpa using h12) (by simp; omega) (.inr ⟨rfl,by simpa using h9.symm,by simp⟩) (fun j y Z=>by
    have z:∀k,(c.toList.take (o+i*ty.size+off)++l.cells.toList++c.toList.drop (o+i*ty.size+off+vs.length)).toArray[k]? =
     if k<o+i*ty.size+off then c[k]? else if k<o+i*ty.size+off+vs.length then l.cells.toList[k-(o+i*ty.size+off)]? else c[k]?:=by
     intro k;have:=B0 c.toList l.cells.toList (o+i*ty.size+off) k (by rw[D]; simp; omega);rw[D] at this;simpa using this
    rw[ii] at Z
    split at Z
    ·rename_i G; subst G;cases Z;refine⟨_,hcr,fun k v f=>?_⟩;rw[z];have d:=fun v K=>h18 k v K;simp only[World.cell?,s] at d;rw[fp,fp] at f;simp only[cZ,dk,D,hul] at f;rw[Nat.min_eq_left (by omega:off<=ty.size)] at f
     split at f
     ·split at f
      ·rw[if_pos (by omega)];rw[d9,if_pos (by omega)] at f;simpa using d v f
      ·rw[if_neg (by omega),if_pos (by omega)];rw[show o+i*ty.size+k-(o+i*ty.size+off)=k-off by omega]; exact f
     ·rw[if_neg (by omega),if_neg (by omega)];rw[eR,show off+vs.length+(k-(off+vs.length))=k by omega] at f;simpa using d v f
    ·rename_i G;obtain⟨ws,T,h20⟩:=W j y Z;refine⟨ws,T,fun k v f=>?_⟩
     have hkl:k<ty.size:=by rw[<-T.length]; exact(cY.1 f).1
     have d:=h20 k v f;simp only[World.cell?,s] at d;rw[z]
     have hne:j*ty.size+ty.size<=i*ty.size\/i*ty.size+ty.size<=j*ty.size:=by
      rcases Nat.lt_or_gt_of_ne G with F|F
      ·right;have:=dB ty.size (show i+1<=j from F);rw[dE,fm] at this; exact this
      ·left;have:=dB ty.size (show j+1<=i from F);rw[dE,fm] at this; exact this
     split
     ·simpa using d
     ·rw[if_neg (by omega)]; simpa using d)
  have hvv:ď ν id (.slice (some ⟨b,o,none⟩) (xs.set i x').length cap)=ν:=by
   rw[gR,<-h9,qZ]
  rw[hvv] at ev N;refine⟨_,by rw[h10]; simpa[Instr.storeAt,Instr.sureAddr] using n,N,e1.trans ev (by rw[κ]; exact cX _),by rw[á,κ]⟩
 |_=>cases e
end
end Go.Am
end

noncomputable section
namespace Go.Am
variable [Ghost]
section
variable {ν ν':Nat->Value} {h h':CK Blk} {w w':World} {P:Program}
def SR (w:World) (av:Nat->Prop) (t:Ty) (xs:CK (Val t)) (base:BY Addr) (cap:Nat):Prop :=
 xs.length<=cap/\(xs=[]\/∃b off,base=some ⟨b,off,none⟩/\b<w.heap.size/\∀(i:Nat) (x:Val t),xs[i]?=some x->∃us,CR w av t x us/\CellsAt w b (off+i*t.size) us)
def SR.part {av:Nat->Prop} {t:Ty} {xs:CK (Val t)} {base:BY Addr} {cap l m:Nat} (e:SR w av t xs base cap) (p:l<=m) (o:m<=xs.length) :
 SR w av t ((xs.drop l).take (m-l)) (if cap=l then base else base.map (·.add (l*t.size))) (cap-l):=by
 obtain⟨q,h2⟩:=e
 have a:((xs.drop l).take (m-l)).length=m-l:=by simp; omega
 refine⟨by rw[a]; omega,?_⟩
 by_cases f:cap=l
 ·exact .inl (dD.1 (by rw[a]; omega))
 rcases h2 with h2|⟨b,off,rfl,n,k⟩
 ·exact .inl (by rw[h2]; simp)
 ·refine .inr ⟨b,off+l*t.size,by rw[if_neg f]; simp[ζ],n,fun i x c=>?_⟩
  have d:xs[l+i]?=some x:=by
   rw[d9] at c
   split at c
   ·simpa using c
   ·cases c
  obtain⟨us,j,g⟩:=k (l+i) x d;refine⟨us,j,?_⟩
  have:off+l*t.size+i*t.size=off+(l+i)*t.size:=by rw[dE]; omega
  rw[this]; exact g
def CR.slice_iff {av:Nat->Prop} {t:Ty} {xs:CK (Val t)} {v:Value}:CR w av (.slice t) xs [v] ↔
 ∃base cap,v=.slice base xs.length cap/\SR w av t xs base cap/\(xs=[]\/∀b off,base=some ⟨b,off,none⟩->¬av b):=by
 constructor
 ·rintro⟨base,cap,g,h2,a⟩;refine⟨base,cap,by simpa using g,⟨h2,?_⟩,?_⟩
  ·rcases a with a|⟨b,off,a,c,e,d⟩
   ·exact .inl a
   ·exact .inr ⟨b,off,a,e,d⟩
  ·rcases a with a|⟨b,off,a,c,e,d⟩
   ·exact .inl a
   ·exact .inr fun i f hb=>by rw[a] at hb; cases hb; exact c
 ·rintro⟨base,cap,rfl,⟨h2,a⟩,c⟩;refine⟨base,cap,rfl,h2,?_⟩;rcases a with a|⟨b,off,a,e,d⟩
  ·exact .inl a
  ·rcases c with c|c
   ·exact .inl c
   ·exact .inr ⟨b,off,a,c b off a,e,d⟩
def CR.part {av:Nat->Prop} {t:Ty} {xs:CK (Val t)} {base:BY Addr} {cap l m:Nat} (f:CR w av (.slice t) xs [.slice base xs.length cap]) (i:l<=m) (g:m<=xs.length) :
 CR w av (.slice t) ((xs.drop l).take (m-l)) [.slice (if cap=l then base else base.map (·.add (l*t.size))) (m-l) (cap-l)]:=by
 obtain⟨d,cap',k,h2,c⟩:=CR.slice_iff.1 f;cases k
 have a:((xs.drop l).take (m-l)).length=m-l:=by simp; omega
 refine CR.slice_iff.2 ⟨_,_,by rw[a],h2.part i g,?_⟩;rcases c with c|c
 ·exact .inl (by rw[c]; simp)
 rcases h2.2 with j|⟨n,off0,rfl,_⟩
 ·exact .inl (by rw[j]; simp)
 ·right;intro b off hb;have e:=c n off0 rfl
  split at hb
  ·cases hb; exact e
  ·simp only[dZ,ζ,Option.some.injEq,Addr.mk.injEq] at hb;rw[<-hb.1]; exact e
def an3 (H:HR ν h w) {x:AV} {i:Value} {t:Ty} {ys:CK (Val t)} (s:VR ν h w x i) (e:Ü (.slice t) [ă h x]=some ys) :
 ∃base cap,i=.slice base ys.length cap/\SR w (Av ν h) t ys base cap:=by
 have k:∀{a:AV},VRs w (Av ν h) a i->Ü (.slice t) [a]=some ys->∃base cap,i=.slice base ys.length cap/\SR w (Av ν h) t ys base cap:=fun z e=>by
  obtain⟨base,cap,q,h2,_⟩:=CR.slice_iff.1 (Ĥ e ⟨z,trivial⟩);exact⟨base,cap,q,h2⟩
 have r:∀{d:Ty} {u:CK (Val d)},Ü (.slice t) [.slc d u]=some ys->∃e:d=t,ys=BH (F:=fun t=>CK (Val t)) e u:=fun {d u} e=>by
  simp only[Ü,Β] at e
  split at e<;>try (cases e; done)
  rename_i y C
  split at C<;>try (cases C; done)
  rename_i J _;cases C; cases e;exact⟨J,rfl⟩
 cases x with
 |own id g =>
  obtain⟨K,d,g',fz,xs,p,A,B⟩:=s;simp only[ă,p] at e
  split at e
  ·rename_i f;obtain⟨rfl,rfl⟩:=r e;obtain⟨base,cap,q,h2,_,c⟩:=H.row_data p;refine⟨base,cap,by rw[B (by simpa using f),q],h2,?_⟩;rcases c with c|⟨b,off,c,E,_,D⟩
   ·exact .inl c
   ·exact .inr ⟨b,off,c,E,D⟩
  ·simp[Ü,Β] at e
 |sub id g lo n =>
  obtain⟨K,d,g',fz,xs,p,A,B⟩:=s;simp only[ă,p] at e
  split at e
  ·rename_i f;obtain⟨rfl,rfl⟩:=r e;obtain⟨o,G,cap',j,v⟩:=B (by simpa using f);obtain⟨base,cap,q,h2,_,c⟩:=H.row_data p
   rw[q] at j; injection j with N O M; subst N; subst M
   have z:SR w (Av ν h) d xs base cap:=⟨h2,by
    rcases c with c|⟨b,off,c,E,_,D⟩
    ·exact .inl c
    ·exact .inr ⟨b,off,c,E,D⟩⟩
   have I:=z.part (l:=lo) (m:=lo+n) (by omega) o;rw[Nat.add_sub_cancel_left] at I
   have L:((xs.drop lo).take n).length=n:=by simp; omega
   refine⟨_,_,?_,I⟩;show i=.slice _ ((xs.drop lo).take n).length _;rw[L]; exact v
  ·simp[Ü,Β] at e
 |omp id =>
  simp only[ă] at e
  split at e<;>simp[Ü,Β] at e
 |nils=>exact k (a:=.nils) (VR1.data (a:=.nils) s) e
 |slc d xs=>exact k (a:=.slc d xs) (VR1.data (a:=.slc d xs) s) e
 |_=>simp[ă,Ü,Β] at e
def flatten {av:Nat->Prop} {b:Nat} {t:Ty}:∀(ys:CK (Val t)) (off:Nat),(∀(i:Nat) (y:Val t),ys[i]?=some y->∃us,CR w av t y us/\CellsAt w b (off+i*t.size) us) ->
 ∃news:CK Value,news.length=ys.length*t.size/\CellsAt w b off news/\(∀v∈news,v.oneCell'=true)/\∀(i:Nat) (y:Val t),ys[i]?=some y->CR w av t y ((news.drop (i*t.size)).take t.size)
 |[],off,_=>⟨[],by simp,fun j v c=>by simp at c,by simp,fun i y hi=>by simp at hi⟩
 |y::ys,off,H=>by
  obtain⟨us,f,h2⟩:=H 0 y rfl
  obtain⟨news,p,o,n,m⟩:=flatten ys (off+t.size) fun i z d=>by
   obtain⟨g,l,k⟩:=H (i+1) z (by simpa using d);refine⟨g,l,?_⟩;rw[show off+t.size+i*t.size=off+(i+1)*t.size by rw[dE]; omega]; exact k
  have a:us.length=t.size:=f.length;refine⟨us++news,by simp[a,p,dE]; omega,fun j v c=>?_,fun v e=>?_,fun i z d=>?_⟩
  ·rw[fp] at c
   split at c
   ·simpa using h2 j v c
   ·have:=o _ v c
    rwa [show off+t.size+(j-us.length)=off+j by omega] at this
  ·rcases de.1 e with e|e
   ·exact CR.oneCell f v e
   ·exact n v e
  ·cases i with
   |zero =>
    simp at d; subst d;simpa[<-a] using f
   |succ i =>
    have:=m i z (by simpa using d);rw[show(i+1)*t.size=us.length+i*t.size by rw[dE,a]; omega,<-gg,List.drop_left];exact this
def SR.flat {av:Nat->Prop} {t:Ty} {ys:CK (Val t)} {base:BY Addr} {cap:Nat} (c:SR w av t ys base cap) :
 ∃news:CK Value,news.length=ys.length*t.size/\(∀a,base=some a->∀j v,news[j]?=some v->w.cell? (a.add j)=some v)/\(base=none->ys=[])/\(∀v∈news,v.oneCell'=true) /\
  ∀(i:Nat) (y:Val t),ys[i]?=some y->CR w av t y ((news.drop (i*t.size)).take t.size):=by
 rcases c.2 with rfl|⟨b,off,rfl,m,h2⟩
 ·exact⟨[],by simp,fun _ _ j v d=>by simp at d,fun _=>rfl,by simp,fun i y hi=>by simp at hi⟩
 ·obtain⟨news,l,k,g,f⟩:=flatten ys off h2;exact⟨news,l,fun a ha=>by cases ha; exact k.addr,fun e=>(by cases e),g,f⟩
end
end Go.Am
end

noncomputable section
namespace Go.Am
variable [Ghost]
section
variable {ν ν':Nat->Value} {h h':CK Blk} {w w':World} {P:Program}
def Db (w:World) (av:Nat->Prop) (t:Ty) (xs:CK (Val t)) (news:CK Value):Prop :=
 news.length=xs.length*t.size/\∀(i:Nat) (x:Val t),xs[i]?=some x->CR w av t x ((news.drop (i*t.size)).take t.size)
def Db.append {av:Nat->Prop} {t:Ty} {xs ys:CK (Val t)} {m n:CK Value} (a:Db w av t xs m) (h2:Db w av t ys n):Db w av t (xs++ys) (m++n):=by
 refine⟨by simp[a.1,h2.1,dE],fun i x hi=>?_⟩;rw[fp] at hi
 split at hi
 ·rename_i b;have:=a.2 i x hi;have hb:(i+1)*t.size<=xs.length*t.size:=dB _ b;rw[dE,fm] at hb;rw[List.drop_append_of_le_length (by rw[a.1]; omega),fR (by rw[ik,a.1]; omega)];exact this
 ·rename_i c;have:=h2.2 _ x hi
  have:i*t.size=m.length+(i-xs.length)*t.size:=by rw[a.1,<-dE]; congr 1; omega
  rw[this,<-gg,List.drop_left];exact h2.2 _ x hi
def Db.cells {av:Nat->Prop} {t:Ty} {xs:CK (Val t)} {news:CK Value} (b:Db w av t xs news) {c:Array Value} {o:Nat} (d:∀(j:Nat) (v:Value),news[j]?=some v->c[o+j]?=some v) :
 ∀(i:Nat) (x:Val t),xs[i]?=some x->∃us,CR w av t x us/\∀j v,us[j]?=some v->c[o+i*t.size+j]?=some v:=by
 intro i x hi;refine⟨_,b.2 i x hi,fun j v a=>?_⟩;rw[d9] at a
 split at a
 ·rw[eR] at a;have:=d _ v a
  rwa [show o+(i*t.size+j)=o+i*t.size+j by omega] at this
 ·cases a
def Jj (H:HR ν h w) {id g' cap':Nat} {t:Ty} {xs':CK (Val t)} {c':Array Value} {e:TypeId} {news:CK Value} (m:id<h.length)
 (g:∀V,(lkB h id).next ν (ď ν id V) id (.row t g' false xs')) (n:w'.heap=w.heap.push (.cells c' e (0,0))) (p:w'.os=w.os) (f:w'.tape=w.tape) (l:w'.output=w.output)
 (q:xs'.length<=cap') (u:cap'*t.size<=c'.size) (y:Db w (Av ν h) t xs' news) (z:∀(j:Nat) (v:Value),news[j]?=some v->c'[j]?=some v) :
 Ev h.length ν h w (ď ν id (.slice (some ⟨w.heap.size,0,none⟩) xs'.length cap')) (Đ h id (.row t g' false xs')) w' /\
  HR (ď ν id (.slice (some ⟨w.heap.size,0,none⟩) xs'.length cap')) (Đ h id (.row t g' false xs')) w':=by
 have a:∀b,b<w.heap.size->((lkB h id).live=true->¬ř (ν id) b)->w'.heap[b]?=w.heap[b]?:=fun b hb _=>by
  rw[n,fU]; simp[gE hb]
 have s:(Blk.row t g' false xs').live=true->∀k,ř (Value.slice (some ⟨w.heap.size,0,none⟩) xs'.length cap') k->((lkB h id).live=true/\ř (ν id) k)\/w.heap.size<=k:=fun _ k A=>by
  cases A; exact .inr (cX _)
 have ev:=Ev.upd H (B:=.row t g' false xs') (V:=.slice (some ⟨w.heap.size,0,none⟩) xs'.length cap') (w':=w') m p f l (by rw[n]; simp) a s (g _)
 have d:w'.heap[w.heap.size]?=some (.cells c' e (0,0)):=by rw[n]; simp
 refine⟨ev,HR.upd H m ev a s ⟨_,cap',Ý _ _ _,q,.inr ⟨w.heap.size,0,c',e,rfl,d,by omega,fun i x hi=>?_⟩⟩⟩;obtain⟨us,C,h2⟩:=y.cells (o:=0) (c:=c') (fun j v r=>by simpa using z j v r) i x hi;refine⟨us,CR.keep ev.keepA C,fun j v r=>?_⟩;simp only[World.cell?,d];simpa using h2 j v r
def Vm (H:HR ν h w) {id g':Nat} {t:Ty} (d:id<h.length) (c:∀V,(lkB h id).next ν (ď ν id V) id (.row t g' false [])) :
 Ev h.length ν h w (ď ν id (.slice none 0 0)) (Đ h id (.row t g' false [])) w/\HR (ď ν id (.slice none 0 0)) (Đ h id (.row t g' false [])) w:=by
 have a:∀b,b<w.heap.size->((lkB h id).live=true->¬ř (ν id) b)->w.heap[b]?=w.heap[b]?:=fun b hb _=>rfl
 have e:(Blk.row t g' false []).live=true->∀k,ř (Value.slice none 0 0) k->((lkB h id).live=true/\ř (ν id) k)\/w.heap.size<=k:=fun _ k f=>by cases f
 have ev:=Ev.upd H (B:=.row t g' false []) (V:=.slice none 0 0) (w':=w) d rfl rfl rfl (cX _) a e (c _);exact⟨ev,HR.upd H d ev a e ⟨none,0,Ý _ _ _,cX _,.inl ⟨rfl,rfl⟩⟩⟩
def zP {id g:Nat} {t:Ty} {fz:Bool} {xs:CK (Val t)} {V:Value} {h:CK Blk} (a:id<h.length) (b:V.oneCell'=true):VR (ď ν id V) (Đ h id (.row t g fz xs)) w (.own id g) V :=
 ⟨b,t,g,fz,xs,ñ _ a,cX _,fun _=>(Ý _ _ _).symm⟩
def vy {e:TypeId} {n:Nat} (a:Vn P e n=true):∃i z,P.info? e=some i/\i.size=n/\0<n/\i.bytes<=32768/\i.zero=some z/\z.cells.size=n:=by
 unfold Vn at a
 split at a
 ·rename_i i hi;simp only[cW,beq_iff_eq,decide_eq_true_eq] at a;obtain⟨f,h2,d,b⟩:=a
  split at b
  ·rename_i z c;exact⟨i,z,hi,f,h2,d,c,by simpa using b⟩
  ·cases b
 ·cases a
def yR (t ty e:TypeId) (i:TypeInfo) (p:P.underlying t=some (.slice e)) (hi:P.info? e=some i)
 {g o sLen sCap:Nat} {b:Array Value} {n:TypeId} (r:w.heap[g]?=some (.cells b n (0,0)))
 (base:BY Addr) (m c:Nat) (news:CK Value) (q:news.length=m*i.size) (f:∀a,base=some a->∀j u,news[j]?=some u->w.cell? (a.add j)=some u) (hb:base=none->news=[]) (v:∀u∈news,u.oneCell'=true)
 (d:sLen+m<=sCap) (l:o+sLen*i.size+news.length<=b.size) :
 (Builtin.append_ #[t,t] ty #[.slice (some ⟨g,o,none⟩) sLen sCap,.slice base m c]).run P w =
  .ok (.slice (some ⟨g,o,none⟩) (sLen+m) sCap) (w.setRow g (b.toList.take (o+sLen*i.size)++news++b.toList.drop (o+sLen*i.size+news.length)).toArray):=by
 have s:(Builtin.firstCells i.size m (.slice base m c)).run P w=.ok news.toArray w:=by
  cases base with
  |none=>rw[hb rfl]; exact run_firstCells_none (P:=P) w _ _ _ _
  |some a=>exact run_firstCells_some (P:=P) w i.size m a m c news q (f a rfl)
 have k:=run_storeCells_at P g (o+sLen*i.size) n news 0 b w r (by simpa using l) v;simp only[f6] at k;simp[Builtin.append_,run_underlying p,sizeOf,typeInfo,hi,Builtin.lenOf,d,s,ζ,k]
def zH (t ty e:TypeId) (i:TypeInfo) (b:P.underlying t=some (.slice e)) (hi:P.info? e=some i) (base:BY Addr) (c:Nat) :
 (Builtin.append_ #[t,t] ty #[.slice none 0 0,.slice base 0 c]).run P w=.ok (.slice none 0 0) w:=by
 have f:(Builtin.firstCells i.size 0 (.slice base 0 c)).run P w=.ok #[] w:=by
  cases base with
  |none=>exact run_firstCells_none (P:=P) w _ _ _ _
  |some a=>exact run_firstCells_some (P:=P) w i.size 0 a 0 c [] (by simp) (fun j v d=>by simp at d)
 simp[Builtin.append_,run_underlying b,sizeOf,typeInfo,hi,Builtin.lenOf,f]
def Q9 (H:HR ν h w) (t ty:TypeId) {e:TypeId} {i:TypeInfo} {z:Value} (N:P.underlying t=some (.slice e)) (hi:P.info? e=some i) (T:i.zero=some z) {f:Ty} (q:i.size=f.size) (hpos:0<f.size)
 (hby:i.bytes<=32768) (S:z.cells.size=f.size) {id g':Nat} (L:id<h.length) {xs ys:CK (Val f)} (r:∀V,(lkB h id).next ν (ď ν id V) id (.row f g' false (xs++ys)))
 {base:BY Addr} {cap:Nat} {l:BY Addr} {cy:Nat} (hy:SR w (Av ν h) f ys l cy)
 (hx:(base=none/\cap=0/\xs=[])\/∃g,lkB h id=.row f g false xs/\g<g'/\ν id=.slice base xs.length cap)
 (A:xs.length+ys.length<=4294967296) :
 ∃V w',(Builtin.append_ #[t,t] ty #[.slice base xs.length cap,.slice l ys.length cy]).run P w=.ok V w'/\V.oneCell'=true /\
  Ev h.length ν h w (ď ν id V) (Đ h id (.row f g' false (xs++ys))) w'/\HR (ď ν id V) (Đ h id (.row f g' false (xs++ys))) w':=by
 obtain⟨news,p,D,C,Y,X⟩:=hy.flat;have J:Db w (Av ν h) f ys news:=⟨p,X⟩
 have o:(xs.length+ys.length)*i.bytes<=140737488355328:=by
  have:=fI A hby;omega
 have y:∀(s:Nat) (k:CK Value),Db w (Av ν h) f xs k ->
  ∃V w',(Result.ok (Value.slice (some ⟨w.heap.size,0,none⟩) (xs.length+ys.length) (grownCap w (xs.length+ys.length) s e))
   (w.drew.alloc (.cells (k.toArray++news.toArray++Builtin.zeroCells z.cells (grownCap w (xs.length+ys.length) s e-(xs.length+ys.length))) e)):Result Value)=.ok V w'/\V.oneCell'=true /\
  Ev h.length ν h w (ď ν id V) (Đ h id (.row f g' false (xs++ys))) w'/\HR (ď ν id V) (Đ h id (.row f g' false (xs++ys))) w':=by
  intro s k u;have Z:=grownCap_ge w (xs.length+ys.length) s e;have hr:=u.append J
  have:=Jj (w':=w.drew.alloc (.cells (k.toArray++news.toArray++Builtin.zeroCells z.cells (grownCap w (xs.length+ys.length) s e-(xs.length+ys.length))) e))
   H (cap':=grownCap w (xs.length+ys.length) s e) (g':=g') (t:=f) L r rfl rfl rfl rfl (by simpa using Z) (by
    simp only[Array.size_append,fP,size_zeroCells,S,u.1,J.1,<-dE]
    apply dB; omega) hr (fun j v B=>by
     rw[<-fE] at B;rw[f8,if_pos]
     ·simpa using B
     ·have:=(fA.1 B).1
      simpa using this)
  rw[cZ] at this;exact⟨_,_,rfl,rfl,this⟩
 rcases hx with⟨rfl,rfl,rfl⟩|⟨g,hl,hg,O⟩
 ·by_cases m:ys=[]
  ·subst m;have d:=zH (P:=P) (w:=w) t ty e i N hi l cy;exact⟨_,w,d,rfl,Vm H L r⟩
  ·have h0:0<ys.length:=eT.2 m
   have hb:∃a,l=some a:=by
    cases l with
    |none=>exact absurd (C rfl) m
    |some a=>exact⟨a,rfl⟩
   obtain⟨a,rfl⟩:=hb;have d:=run_append_nil (P:=P) w t ty e i z N hi T a ys.length cy news (by rw[q]; exact p) (D a rfl) h0 (by simp at A; omega) (by simp at o; omega);obtain⟨V,w',I,h2,M,E⟩:=y 0 [] ⟨by simp,fun i x hi=>by simp at hi⟩;refine⟨V,w',?_,h2,M,E⟩;rw[<-I];simpa using d
 ·have hB:=H.blk id;rw[hl] at hB;obtain⟨base',cap',I,h2,M⟩:=hB
  rw[O] at I; injection I with q1 q2 q3; subst q1; subst q3
  rcases M with⟨rfl,rfl⟩|⟨b,off,c,e',rfl,E,h5,h6⟩
  ·have U:xs=[]:=dD.1 (by omega);subst U
   by_cases m:ys=[]
   ·subst m;have d:=zH (P:=P) (w:=w) t ty e i N hi l cy;exact⟨_,w,d,rfl,Vm H L r⟩
   ·have h0:0<ys.length:=eT.2 m
    have hb:∃a,l=some a:=by
     cases l with
     |none=>exact absurd (C rfl) m
     |some a=>exact⟨a,rfl⟩
    obtain⟨a,rfl⟩:=hb;have d:=run_append_nil (P:=P) w t ty e i z N hi T a ys.length cy news (by rw[q]; exact p) (D a rfl) h0 (by simp at A; omega) (by simp at o; omega);obtain⟨V,w',I,h2,M,E⟩:=y 0 [] ⟨by simp,fun i x hi=>by simp at hi⟩;refine⟨V,w',?_,h2,M,E⟩;rw[<-I];simpa using d
  ·obtain⟨k,K,Q,ho3,W⟩:=flatten xs off h6;have u:Db w (Av ν h) f xs k:=⟨K,W⟩
   by_cases n:xs.length+ys.length<=cap
   ·have G:off+xs.length*i.size+news.length<=c.size:=by
     have:=dB f.size n;rw[q,p];rw[dE] at this;omega
    have d:=yR (P:=P) t ty e i N hi E l ys.length cy news (by rw[q]; exact p) D (fun hb=>by
     rw[C hb] at p; exact dD.1 (by simpa using p)) Y n G
    have F:=Vl H (xs':=xs++ys) (g':=g') (o':=off) (cap':=cap) (c':=(c.toList.take (off+xs.length*i.size)++news++c.toList.drop (off+xs.length*i.size+news.length)).toArray) hl
     (by rw[O]; rfl) E (by simpa using n) (by simp; omega) (.inl hg) ((u.append J).cells fun j v B=>by
      have hs:=B0 c.toList news (off+xs.length*i.size) (off+j) (by simpa using G);rw[fE,hs];rw[fp] at B;rw[K,<-q] at B
      split at B
      ·rw[if_pos (by omega)];have:=Q j v B;simp only[World.cell?,E] at this;simpa using this
      ·have hjl:=(cY.1 B).1;rw[if_neg (by omega),if_pos (by omega)]
       rw[show off+j-(off+xs.length*i.size)=j-xs.length*i.size by omega]; exact B)
    rw[cZ] at F;exact⟨_,_,d,rfl,F⟩
   ·by_cases m:ys=[]
    ·subst m; simp at n; omega
    have hb:∃a,l=some a:=by
     cases l with
     |none=>exact absurd (C rfl) m
     |some a=>exact⟨a,rfl⟩
    obtain⟨a,rfl⟩:=hb;have d:=run_append_grow (P:=P) w t ty e i z N hi T ⟨b,off,none⟩ xs.length cap k (by rw[q]; exact K) Q.addr a ys.length cy news (by rw[q]; exact p) (D a rfl) (by omega) (by omega) (growslice_fits (by omega) o);obtain⟨V,w',I,h2,M,E⟩:=y cap k u;exact⟨V,w',d.trans I,h2,M,E⟩
end
end Go.Am
end

noncomputable section
namespace Go.Am
variable [Ghost]
section
variable {ν ν':Nat->Value} {h h':CK Blk} {w w':World} {P:Program}
def jA (P:Program) (ν:Nat->Value) (h:CK Blk) (w:World) (x:Sem Value) (v:AV) (h':CK Blk):Prop :=
 ∃ν' w' u,x.run P w=.ok u w'/\VR ν' h' w' v u/\HR ν' h' w'/\Ev h.length ν h w ν' h' w'/\h'.length=h.length
def jA.still {x:Sem Value} {u:Value} {v:AV} (H:HR ν h w) (b:x.run P w=.ok u w) (a:VR ν h w v u):jA P ν h w x v h :=
 ⟨ν,w,u,b,a,H,Ev.refl _ _ _ _,rfl⟩
def rq {t e:TypeId} (h:SS P t=some e):P.underlying t=some (.slice e):=by
 unfold SS at h
 split at h
 ·rename_i a h'; cases h; exact h'
 ·cases h
def aki {nid:Nat} {t ty:TypeId} {s x v:AV} {us D:Value} (H:HR ν h w) (I:nid<h.length) (hd:lkB h nid=.dead)
 (e:BS P h nid t s x (fun v h=>some (v,h))=some (v,h')) (G:VR ν h w s us) (N:VR ν h w x D):jA P ν h w (Builtin.append_ #[t,t] ty #[us,D]) v h':=by
 unfold BS at e
 split at e<;>try (cases e; done)
 rename_i Z A
 split at e<;>try (cases e; done)
 rename_i T J
 split at e<;>try (cases e; done)
 rename_i l;obtain⟨i,z,hi,j,b,p,E,f⟩:=vy l
 split at e<;>try (cases e; done)
 rename_i ys q;obtain⟨U,cy,rfl,k⟩:=an3 H N q;have F:=rq A
 split at e
 ·-- nil
  split at e<;>try (cases e; done)
  rename_i a;cases e;have c:us=.slice none 0 0:=G;subst c
  obtain⟨V,w',d,h2,C,B⟩:=Q9 H t ty F hi E j b p f (id:=nid) (g':=0) I (xs:=[]) (ys:=ys) (fun V=>by rw[hd]; trivial) (base:=none) (cap:=0) k (.inl ⟨rfl,rfl,rfl⟩)
   (by simp[ä] at a; simpa using a)
  exact⟨_,w',V,d,zP I h2,B,C,á _ _ _⟩
 ·rename_i id g
  split at e<;>try (cases e; done)
  rename_i M g' xs n
  split at e<;>try (cases e; done)
  rename_i u
  split at e<;>try (cases e; done)
  rename_i y _;subst y
  split at e<;>try (cases e; done)
  rename_i a
  have Q:g=g':=by simpa using u
  subst Q;obtain⟨W,t2,Y,S,L,m,O,r⟩:=G;rw[n] at m; cases m;have o:id<h.length:=lq n (by simp);have K:=H.blk id;rw[n] at K;obtain⟨base,cap,d,_,_⟩:=K
  have c:us=.slice base xs.length cap:=by rw[r rfl,d]
  subst c
  obtain⟨V,w',d,h2,C,B⟩:=Q9 H t ty F hi E j b p f (id:=id) (g':=g+1) o (xs:=xs) (ys:=ys) (fun V=>by
   rw[n]; exact⟨g+1,false,xs++ys,rfl,Nat.le_succ _,fun X=>by omega⟩) (base:=base) (cap:=cap) k (.inr ⟨g,n,Nat.lt_succ_self _,d⟩)
   (by simpa[ä] using a)
  cases e;exact⟨_,w',V,d,zP o h2,B,C,á _ _ _⟩
 ·cases e
def alx {t e:TypeId} {sz:Nat} {x i v:AV} {D E:Value} (H:HR ν h w) (T:P.underlying t=some (.slice e)) (U:szP P e=some sz)
 (c:Ip sz h x i some=some v) (F:VR ν h w x D) (hi:VR ν h w i E):jA P ν h w (Instr.indexAt t D E) v h:=by
 unfold Ip at c
 split at c<;>try (cases c; done)
 rename_i k n;have I:E=.int k n:=hi;subst I
 have run:∀(a:Addr) (len cap:Nat),0<=n->n<len->(Instr.indexAt t (.slice (some a) len cap) (.int k n)).run P w=.ok (.pointer (some (a.add (n.toNat*sz)))) w:=by
  intro a len cap h0 o;simp[Instr.indexAt,asIntOf,run_underlying T,nR U,h0,o]
 split at c
 ·rename_i ty xs
  split at c<;>try (cases c; done)
  rename_i s;simp only[cW,beq_iff_eq,decide_eq_true_eq] at s;obtain⟨d,h0⟩:=s
  split at c<;>try (cases c; done)
  rename_i y O;cases c;obtain⟨base,cap,rfl,J,j⟩:=CR.slice_iff.1 F;have q:=(cY.1 O).1;rcases J.2 with o|⟨b,off,rfl,o,h2⟩
  ·rw[o] at q; simp at q
  ·obtain⟨us,l,W⟩:=h2 _ y O;refine jA.still H (run _ _ _ h0 (by omega)) ?_;rcases j with j|j
   ·rw[j] at q; simp at q
   ·exact⟨b,off+n.toNat*ty.size,us,by rw[ζ,d]; rfl,j b off rfl,o,l,W⟩
 ·rename_i id g
  split at c<;>try (cases c; done)
  rename_i ty g' fz xs A
  split at c<;>try (cases c; done)
  rename_i s;simp only[cW,beq_iff_eq] at s;obtain⟨rfl,d⟩:=s
  split at c<;>try (cases c; done)
  rename_i p;simp only[cW,decide_eq_true_eq] at p;cases c;obtain⟨V,t2,X,M,C,f,L,z⟩:=F;rw[A] at f; cases f;obtain⟨base,cap,o,h2,_,l⟩:=H.row_data A
  have G:D=.slice base xs.length cap:=by rw[z rfl,o]
  subst G;rcases l with l|⟨b,off,rfl,l,_,_⟩
  ·rw[l] at p; simp at p; omega
  ·refine jA.still H (run _ _ _ p.1 p.2) ?_;refine⟨rfl,ty,g,fz,xs,A,cX _,fun _=>⟨by omega,b,off,cap,o,?_⟩⟩;rw[ζ,d]; rfl
 ·rename_i id g lo m
  split at c<;>try (cases c; done)
  rename_i ty g' fz xs A
  split at c<;>try (cases c; done)
  rename_i s;simp only[cW,beq_iff_eq] at s;obtain⟨rfl,d⟩:=s
  split at c<;>try (cases c; done)
  rename_i p;simp only[cW,decide_eq_true_eq] at p;cases c;obtain⟨V,t2,X,M,C,f,L,z⟩:=F;rw[A] at f; cases f;obtain⟨base,cap,o,h2,_,l⟩:=H.row_data A;obtain⟨r,N,cap',B,u⟩:=z rfl
  rw[o] at B; injection B with S Y Q; subst S; subst Q
  rcases l with l|⟨b,off,rfl,l,_,_⟩
  ·rw[l] at r; simp at r; omega
  ·have K:¬cap=lo:=by omega
   rw[if_neg K] at u;simp only[dZ,ζ] at u;subst u;refine jA.still H (run _ _ _ p.1 p.2) ?_;refine⟨rfl,ty,g,fz,xs,A,cX _,fun _=>⟨by omega,b,off,cap,o,?_⟩⟩;rw[ζ,<-d]
   have:off+lo*ty.size+n.toNat*ty.size=off+(lo+n.toNat)*ty.size:=by rw[dE]; omega
   rw[this]; rfl
 ·cases c
def rc {b:Nat} {es:Array MapEntry} {c:Nat} (hb:w.heap[b]?=some (.map es c)):(getObj b).run P w=.ok (.map es c) w:=by simp[getObj,Sem.run,hb]
def len_ok {t ty:TypeId} {x v:AV} {p:Value} (H:HR ν h w) (e:aln (P.underlying t) h x some=some v) (i:VR ν h w x p) {ts:Array TypeId} (d:ts[0]?=some t):jA P ν h w (Builtin.len_ ts ty #[p]) v h:=by
 unfold aln at e;simp only[NX] at e
 split at e
 ·rename_i G j
  have run:∀(b:BY Addr) (n c:Nat),(Builtin.len_ ts ty #[.slice b n c]).run P w=.ok (.int .i64 n) w:=fun b n c=>by
   simp[Builtin.len_,d,run_underlying j,goInt]
  split at e<;>try (cases e; done)
  ·cases e;obtain⟨base,cap,rfl,_⟩:=CR.slice_iff.1 i;exact jA.still H (run _ _ _) rfl
  ·cases e;have:p=.slice none 0 0:=i;subst this;exact jA.still H (run _ _ _) rfl
  ·split at e<;>try (cases e; done)
   rename_i u g' fz xs l
   split at e<;>try (cases e; done)
   rename_i m;cases e;obtain⟨B,t2,E,A,s,a,y,f⟩:=i;rw[l] at a; cases a;obtain⟨base,cap,q,_⟩:=H.row_data l;rw[f (by simpa using m),q];exact jA.still H (run _ _ _) rfl
  ·split at e<;>try (cases e; done)
   rename_i u g' fz xs l
   split at e<;>try (cases e; done)
   rename_i m;cases e;obtain⟨B,t2,E,A,s,a,y,f⟩:=i;rw[l] at a; cases a;obtain⟨_,base,cap,_,rfl⟩:=f (by simpa using m);exact jA.still H (run _ _ _) rfl
 ·rename_i j
  split at e<;>try (cases e; done)
  cases e;have:p=.string _:=i;subst this;exact jA.still H (by simp[Builtin.len_,d,run_underlying j,goInt]) rfl
 ·rename_i k G j
  split at e<;>try (cases e; done)
  ·cases e;obtain⟨r,D,q⟩:=i;cases D;rcases q with⟨rfl,rfl⟩|⟨b,g,o,rfl,_,h2,z,_⟩
   ·exact jA.still H (by simp[Builtin.len_,d,run_underlying j,goInt]) rfl
   ·exact jA.still H (by simp[Builtin.len_,d,run_underlying j,goInt,rc h2,z]) rfl
  ·cases e;have:p=.map none:=i;subst this;exact jA.still H (by simp[Builtin.len_,d,run_underlying j,goInt]) rfl
  ·split at e<;>try (cases e; done)
   rename_i K I es l;cases e;obtain⟨B,J,v2,F,a,f⟩:=i;rw[l] at a; cases a;have C:=H.blk ‹Nat›;rw[l] at C;obtain⟨b,g,o,q,h2,z,_⟩:=C;rw[f,q];exact jA.still H (by simp[Builtin.len_,d,run_underlying j,goInt,rc h2,z]) rfl
 ·cases e
def X8 {k:IntKind} {n:Int} {y:Nat} {a:BoundsCode} (h0:0<=n) (b:n<=y) (w:World):(Instr.sliceBound (.int k n) y a).run P w=.ok n.toNat w:=by
 simp[Instr.sliceBound,asIntOf,h0,b]
def Lo (low:BY Value) (l m:Nat):Prop:=(low=none/\l=0)\/∃k n,low=some (.int k n)/\0<=n/\n<=(m:Int)/\l=n.toNat
def Hi (a:BY Value) (len cap m:Nat):Prop:=(a=none/\m=len)\/∃k n,a=some (.int k n)/\0<=n/\n<=(cap:Int)/\m=n.toNat
def zF {t e:TypeId} {sz:Nat} (c:P.underlying t=some (.slice e)) (d:szP P e=some sz) {low b:BY Value} {a:BY Addr} {len cap l m:Nat} (f:Lo low l m) (g:Hi b len cap m) (w:World) :
 (Instr.sliceAt t (.slice a len cap) low b none).run P w=.ok (.slice (if cap=l then a else a.map (·.add (l*sz))) (m-l) (cap-l)) w:=by
 rcases f with⟨rfl,rfl⟩|⟨k,n,rfl,i,h2,rfl⟩<;>rcases g with⟨rfl,rfl⟩|⟨o,j,rfl,q,p,rfl⟩ <;>
  simp[Instr.sliceAt,run_underlying c,Instr.slice,Instr.sliceBounds,nR d,X8, *]
 rw[X8 i h2]; rfl
def akU {t e:TypeId} {sz:Nat} {x v:AV} {lo hi:BY AV} {f j:BY Value} {Q:Value} {eat:Bool} (H:HR ν h w) (L:P.underlying t=some (.slice e)) (M:szP P e=some sz)
 (d:ti sz h x lo hi eat (fun v h=>some (v,h))=some (v,h')) (y:VR ν h w x Q)
 (z:∀a,lo=some a->∃u,f=some u/\VR ν h w a u) (o:lo=none->f=none) (D:∀a,hi=some a->∃u,j=some u/\VR ν h w a u) (p:hi=none->j=none) :
 jA P ν h w (Instr.sliceAt t Q f j none) v h':=by
 have s:∀{k:IntKind} {n:Int} {m:Nat},lo=some (.int k n)->0<=n->n<=(m:Int)->Lo f n.toNat m:=fun e h0 E=>by
  obtain⟨u,h2,S⟩:=z _ e;have:u=_:=S;subst this;exact .inr ⟨_,_,h2,h0,E,rfl⟩
 have r:∀{k:IntKind} {n:Int} {len cap:Nat},hi=some (.int k n)->0<=n->n<=(cap:Int)->Hi j len cap n.toNat:=fun e h0 E=>by
  obtain⟨u,h2,S⟩:=D _ e;have:u=_:=S;subst this;exact .inr ⟨_,_,h2,h0,E,rfl⟩
 unfold ti at d
 split at d
 ·rename_i ty xs
  split at d<;>try (cases d; done)
  rename_i q
  have q:ty.size=sz:=by simpa using q
  obtain⟨base,cap,rfl,W,_⟩:=CR.slice_iff.1 y
  have fin:∀(l m:Nat),Lo f l m->Hi j xs.length cap m->l<=m->m<=xs.length->jA P ν h w (Instr.sliceAt t (.slice base xs.length cap) f j none) (.slc ty ((xs.drop l).take (m-l))) h:=fun l m F X E h2=>by
   refine jA.still H (zF L M F X w) ?_;rw[<-q];exact CR.part y E h2
  have hcap:=W.1
  split at d<;>try (cases d; done)
  ·split at d<;>try (cases d; done)
   rename_i hb;simp only[cW,decide_eq_true_eq] at hb;cases d;have:=fin _ _ (s rfl hb.1 (by omega)) (r rfl (by omega) (by omega)) (by omega) (by omega)
   rw[show ∀a b:Int,0<=a->a<=b->(b-a).toNat=b.toNat-a.toNat from fun a b _ _=>by omega]<;>first|exact this|omega
  ·split at d<;>try (cases d; done)
   rename_i hb;simp only[cW,decide_eq_true_eq] at hb;cases d;have:=fin _ xs.length (s rfl hb.1 (by omega)) (.inl ⟨p rfl,rfl⟩) (by omega) (cX _)
   rwa [dY (by simp)] at this
  ·split at d<;>try (cases d; done)
   rename_i hb;simp only[cW,decide_eq_true_eq] at hb;cases d;have:=fin 0 _ (.inl ⟨o rfl,rfl⟩) (r rfl (by omega) (by omega)) (dU _) (by omega);simpa using this
  ·cases d;have:=fin 0 xs.length (.inl ⟨o rfl,rfl⟩) (.inl ⟨p rfl,rfl⟩) (dU _) (cX _);simpa using this
 ·have I:Q=.slice none 0 0:=y;subst I
  split at d<;>try (cases d; done)
  ·split at d<;>try (cases d; done)
   rename_i hb;simp only[decide_eq_true_eq] at hb;cases d;subst hb;refine jA.still H (zF L M (.inl ⟨o rfl,rfl⟩) (r rfl (by omega) (by omega)) w) ?_;simp; rfl
  ·cases d;refine jA.still H (zF L M (l:=0) (m:=0) (.inl ⟨o rfl,rfl⟩) (.inl ⟨p rfl,rfl⟩) w) ?_;simp; rfl
 ·rename_i id g
  split at d<;>try (cases d; done)
  rename_i ty g' fz xs F
  split at d<;>try (cases d; done)
  rename_i hc;simp only[cW,beq_iff_eq] at hc;obtain⟨rfl,q⟩:=hc;obtain⟨ho,t2,g2,fz2,xs2,N,hle,U⟩:=y;rw[F] at N; cases N;obtain⟨base,cap,E,h2,S,h4⟩:=H.row_data F
  have I:Q=.slice base xs.length cap:=by rw[U rfl,E]
  subst I
  split at d
  ·-- the cut replaces the row
   split at d<;>try (cases d; done)
   have J:id<h.length:=lq F (by simp)
   have G:∀(l m:Nat),Lo f l m->Hi j xs.length cap m->l<=m->m<=xs.length->jA P ν h w (Instr.sliceAt t (.slice base xs.length cap) f j none) (.own id (g+1)) (Đ h id (.row ty (g+1) false ((xs.drop l).take (m-l)))):=fun l m z D Y X=>by
    have hB:=H.blk id;rw[F] at hB;obtain⟨Z,cap',q1,_,q2⟩:=hB
    rw[E] at q1; injection q1 with e1 e2 e3; subst e1; subst e3
    have A:((xs.drop l).take (m-l)).length=m-l:=by simp; omega
    have O:∀b,ř (Value.slice (if cap=l then base else base.map (·.add (l*sz))) (m-l) (cap-l)) b->ř (ν id) b:=fun b hb=>by
     rw[E]
     cases base with
     |none=>split at hb<;>cases hb
     |some a =>
      split at hb
      ·exact hb
      ·have:(a.add (l*sz)).block=a.block:=by unfold Addr.add; split<;>rfl
       simp only[ř,aaL,dZ,Option.some.injEq] at hb ⊢;rw[<-hb,this]
    have C:∀b,b<w.heap.size->((lkB h id).live=true->¬ř (ν id) b)->w.heap[b]?=w.heap[b]?:=fun _ _ _=>rfl
    have hV:(Blk.row ty (g+1) false ((xs.drop l).take (m-l))).live=true->∀b,ř (Value.slice (if cap=l then base else base.map (·.add (l*sz))) (m-l) (cap-l)) b->((lkB h id).live=true/\ř (ν id) b)\/w.heap.size<=b :=
     fun _ b hb=>.inl ⟨by rw[F]; rfl,O b hb⟩
    have ev:=Ev.upd H (B:=.row ty (g+1) false ((xs.drop l).take (m-l))) (V:=.slice (if cap=l then base else base.map (·.add (l*sz))) (m-l) (cap-l)) (w':=w) J rfl rfl rfl (cX _) C hV (by
     rw[F]; exact⟨g+1,false,_,rfl,Nat.le_succ _,fun hf=>by omega⟩)
    refine⟨_,w,_,zF L M z D w,zP J rfl,HR.upd H J ev C hV ⟨_,cap-l,by rw[Ý,A],by rw[A]; omega,?_⟩,ev,á _ _ _⟩;rcases q2 with⟨rfl,rfl⟩|⟨b,off,c,e',rfl,q3,q4,q5⟩
    ·left; exact⟨by split<;>rfl,by omega⟩
    ·right
     by_cases K:cap=l
     ·refine⟨b,off,c,e',by rw[if_pos K],q3,by rw[K,Nat.sub_self,Nat.zero_mul]; omega,fun i x y=>?_⟩;have:=(cY.1 y).1;rw[A] at this; omega
     ·refine⟨b,off+l*ty.size,c,e',by rw[if_neg K]; simp[ζ,q],q3,?_,fun i x y=>?_⟩
      ·have:(cap-l)*ty.size=cap*ty.size-l*ty.size:=Nat.sub_mul _ _ _;have h5:l*ty.size<=cap*ty.size:=dB _ (by omega);omega
      ·have T:xs[l+i]?=some x:=by
        rw[d9] at y
        split at y
        ·simpa using y
        ·cases y
       obtain⟨us,q6,q7⟩:=q5 (l+i) x T;refine⟨us,CR.keep ev.keepA q6,?_⟩
       have:off+l*ty.size+i*ty.size=off+(l+i)*ty.size:=by rw[dE]; omega
       rw[this]; exact q7
   split at d<;>try (cases d; done)
   ·split at d<;>try (cases d; done)
    rename_i hb;simp only[cW,decide_eq_true_eq] at hb;cases d;have:=G _ xs.length (s rfl hb.1 (by omega)) (.inl ⟨p rfl,rfl⟩) (by omega) (cX _)
    rwa [dY (by simp)] at this
   ·split at d<;>try (cases d; done)
    rename_i hb;simp only[cW,decide_eq_true_eq] at hb;cases d;have:=G 0 _ (.inl ⟨o rfl,rfl⟩) (r rfl (by omega) (by omega)) (dU _) (by omega);simpa using this
  ·have fin:∀(l m:Nat),Lo f l m->Hi j xs.length cap m->l<=m->m<=xs.length->jA P ν h w (Instr.sliceAt t (.slice base xs.length cap) f j none) (.sub id g l (m-l)) h:=fun l m z D Y X=>by
    refine jA.still H (zF L M z D w) ?_;refine⟨rfl,ty,g,fz,xs,F,cX _,fun _=>⟨by omega,base,cap,E,by rw[q]⟩⟩
   split at d<;>try (cases d; done)
   ·split at d<;>try (cases d; done)
    rename_i hb;simp only[cW,decide_eq_true_eq] at hb;cases d;have:=fin _ _ (s rfl hb.1 (by omega)) (r rfl (by omega) (by omega)) (by omega) (by omega)
    rw[show ∀a b:Int,0<=a->a<=b->(b-a).toNat=b.toNat-a.toNat from fun a b _ _=>by omega]<;>first|exact this|omega
   ·split at d<;>try (cases d; done)
    rename_i hb;simp only[cW,decide_eq_true_eq] at hb;cases d;exact fin _ xs.length (s rfl hb.1 (by omega)) (.inl ⟨p rfl,rfl⟩) (by omega) (cX _)
   ·split at d<;>try (cases d; done)
    rename_i hb;simp only[cW,decide_eq_true_eq] at hb;cases d;have:=fin 0 _ (.inl ⟨o rfl,rfl⟩) (r rfl (by omega) (by omega)) (dU _) (by omega);simpa using this
 ·cases d
def an4 (H:HR ν h w) {id g lo n:Nat} {ty:Ty} {xs:CK (Val ty)} {u:Value} (l:lkB h id=.row ty g false xs) (T:lo+n=xs.length) (J:VR ν h w (.sub id g lo n) u) :
 ∃ν',VR ν' (Đ h id (.row ty (g+1) false (xs.drop lo))) w (.own id (g+1)) u/\HR ν' (Đ h id (.row ty (g+1) false (xs.drop lo))) w/\Ev h.length ν h w ν' (Đ h id (.row ty (g+1) false (xs.drop lo))) w:=by
 obtain⟨K,t2,X,M,D,k,L,q⟩:=J;rw[l] at k; cases k;obtain⟨_,base,cap,A,v⟩:=q rfl;have f:id<h.length:=lq l (by simp);have z:=H.blk id;rw[l] at z;obtain⟨r,cap',t,Q,I⟩:=z
 rw[A] at t; injection t with O Y N; subst O; subst N
 have d:(xs.drop lo).length=n:=by simp; omega
 have m:∀b,ř u b->ř (ν id) b:=fun b hb=>by
  rw[A];rw[v] at hb
  cases base with
  |none=>split at hb<;>cases hb
  |some a =>
   split at hb
   ·exact hb
   ·have:(a.add (lo*ty.size)).block=a.block:=by unfold Addr.add; split<;>rfl
    simp only[ř,aaL,dZ,Option.some.injEq] at hb ⊢;rw[<-hb,this]
 have e:∀b,b<w.heap.size->((lkB h id).live=true->¬ř (ν id) b)->w.heap[b]?=w.heap[b]?:=fun _ _ _=>rfl
 have y:(Blk.row ty (g+1) false (xs.drop lo)).live=true->∀b,ř u b->((lkB h id).live=true/\ř (ν id) b)\/w.heap.size<=b :=
  fun _ b hb=>.inl ⟨by rw[l]; rfl,m b hb⟩
 have ev:=Ev.upd H (B:=.row ty (g+1) false (xs.drop lo)) (V:=u) (w':=w) f rfl rfl rfl (cX _) e y (by
  rw[l]; exact⟨g+1,false,_,rfl,Nat.le_succ _,fun U=>by omega⟩)
 refine⟨_,zP f K,HR.upd H f ev e y ⟨_,cap-lo,by rw[Ý,d,v],by rw[d]; omega,?_⟩,ev⟩;rcases I with⟨rfl,rfl⟩|⟨b,off,c,C,rfl,s,S,G⟩
 ·left; exact⟨by split<;>rfl,by omega⟩
 ·right
  by_cases j:cap=lo
  ·refine⟨b,off,c,C,by rw[if_pos j],s,by rw[j,Nat.sub_self,Nat.zero_mul]; omega,fun i x p=>?_⟩;have:=(cY.1 p).1;rw[d] at this; omega
  ·refine⟨b,off+lo*ty.size,c,C,by rw[if_neg j]; simp[ζ],s,?_,fun i x p=>?_⟩
   ·have:(cap-lo)*ty.size=cap*ty.size-lo*ty.size:=Nat.sub_mul _ _ _;have W:lo*ty.size<=cap*ty.size:=dB _ (by omega);omega
   ·have o:xs[lo+i]?=some x:=by simpa using p
    obtain⟨us,F,E⟩:=G (lo+i) x o;refine⟨us,CR.keep ev.keepA F,?_⟩
    have:off+lo*ty.size+i*ty.size=off+(lo+i)*ty.size:=by rw[dE]; omega
    rw[this]; exact E
end
end Go.Am
end

noncomputable section
namespace Go.Am
variable [Ghost]
section
variable {ν ν':Nat->Value} {h h':CK Blk} {w w':World} {P:Program}
def Rk {z:Array Value} {n i:Nat} (hi:i<n):((Builtin.zeroCells z n).toList.drop (i*z.size)).take z.size=z.toList:=by
 have hb:i*z.size+z.size<=n*z.size:=by
  have:=dB z.size (show i+1<=n from hi)
  rwa [dE,fm] at this
 apply List.ext_getElem?
 intro j;rw[d9]
 split
 ·rename_i a;rw[eR];simp only[Builtin.zeroCells,gh,Array.toList_range,eP];rw[gu (by omega)];simp only[dZ]
  have b:(i*z.size+j) % z.size=j:=by rw[Nat.mul_comm,Nat.mul_add_mod]; exact Nat.mod_eq_of_lt a
  rw[b];simp[getElem!_pos,a]
 ·rename_i a;rw[List.getElem?_eq_none]; simpa using a
def aa9 {e:TypeId} {t:Ty} {i:TypeInfo} {z:Value} {c:CK AV} {x:Val t} {av:Nat->Prop} (hi:P.info? e=some i) (f:i.zero=some z)
 (d:(((P.info? e).bind (·.zero)).map cv).bind š=some c) (h2:Ü t c=some x) (H:HR ν h w) (a:∀b,av b->Av ν h b):CR w av t x z.cells.toList:=by
 simp only[hi,f,eS,dZ] at d;have:=(ach (ν:=ν) (h:=h) (w:=w) z).cells d;exact CR.mono a (Ĥ h2 (this.mono fun _ _ g=>VR1.data g.1))
def M7 {t:Ty} {x:Val t} {z:Array Value} {av:Nat->Prop} (b:z.size=t.size) (c:CR w av t x z.toList) (n:Nat):Db w av t (List.replicate n x) (Builtin.zeroCells z n).toList:=by
 refine⟨by simp[Builtin.zeroCells,b],fun i y hi=>?_⟩
 have a:i<n:=by simpa using(cY.1 hi).1
 rw[ic,if_pos a] at hi;cases hi;rw[<-b,Rk a];exact c
def Gs {n:Nat} (h:0<n):Builtin.nextslicecap n 0=n:=by simp[Builtin.nextslicecap]; omega
def acL {n:Int} (a : -9223372036854775808<=n) (h2:n<=9223372036854775807):IntKind.i64.wrap n=n:=by
 have e:IntKind.i64.wrap n=if n % 18446744073709551616>=9223372036854775808 then n % 18446744073709551616-18446744073709551616 else n % 18446744073709551616:=by
  simp[IntKind.wrap,IntKind.bits,IntKind.signed]
 rw[e]
 split<;>omega
def akL {nid:Nat} {t G ty:TypeId} {k:IntKind} {s x v:AV} {us o:Value} (H:HR ν h w) (K:nid<h.length) (hd:lkB h nid=.dead) (A:P.underlying G=some (.int k))
 (e:Ku P h nid t s x (fun v h=>some (v,h))=some (v,h')) (U:VR ν h w s us) (O:VR ν h w x o):jA P ν h w (Builtin.append_ #[t,G] ty #[us,o]) v h':=by
 unfold Ku at e
 split at e<;>try (cases e; done)
 rename_i n m C
 split at e<;>try (cases e; done)
 rename_i Z L
 split at e<;>try (cases e; done)
 rename_i d;obtain⟨i,z,hi,T,J,D,I,c⟩:=vy d
 split at e<;>try (cases e; done)
 rename_i zs p
 split at e<;>try (cases e; done)
 rename_i N q
 split at e<;>try (cases e; done)
 rename_i f;cases e;have S:=rq C;have y:us=.slice none 0 0:=U;have u:o=.int .i64 n:=O;subst y u;simp only[cW,decide_eq_true_eq,ä] at f;have r:=aa9 hi I p q H (av:=Av ν h) fun _ hb=>hb;have W:=M7 (by rw[c]) r n.toNat;have Q:IntKind.i64.wrap n=n:=acL (by omega) (by omega);have B:=grownCap_ge w n.toNat 0 m
 have a:=Jj (w':=w.drew.alloc (.cells ((Builtin.zeroCells z.cells n.toNat)++Builtin.zeroCells z.cells (grownCap w n.toNat 0 m-n.toNat)) m)) H (id:=nid) (g':=0) (xs':=List.replicate n.toNat N) (cap':=grownCap w n.toNat 0 m) K
  (fun V=>by rw[hd]; trivial) rfl rfl rfl rfl (by simpa using B) (by
   simp only[Array.size_append,size_zeroCells,c,<-dE]
   apply dB; omega) W (fun j v Y=>by
    have g:(Builtin.zeroCells z.cells n.toNat)[j]?=some v:=by simpa using Y
    rw[f8,if_pos (fA.1 g).1]; exact g)
 rw[fH] at a;refine⟨_,_,_,?_,zP K rfl,a.2,a.1,á _ _ _⟩
 have hb:n.toNat*i.bytes<=140737488355328:=by
  have:=fI f.2 D;omega
 have F:¬(281474976710656:Int)<n*(i.bytes:Int):=by
  have:((n.toNat*i.bytes:Nat):Int)=n*i.bytes:=by
   rw[iy,Int.toNat_of_nonneg (by omega)]
  omega
 have l:¬(281474976710656<Builtin.nextslicecap n.toNat 0*i.bytes):=by rw[Gs (by omega)]; omega
 have h0:¬n<0:=by omega
 have M:n.toNat≠0:=by omega
 have X:IntKind.i64.max=9223372036854775807:=rfl
 have E:¬(9223372036854775807:Int)<(n.toNat:Int):=by omega
 have b:¬i.size=0:=by omega
 simp[Builtin.append_,run_underlying S,run_underlying A,sizeOf,typeInfo,zeroValue,hi,I,asInt,asIntOf,Q,h0,F,l,M,X,E,b,Builtin.firstCells,Question.forced,newRow,grownCap];rw[if_neg (by omega),if_neg (by omega),if_neg (Nat.mul_ne_zero M b)]
def YY {nid:Nat} {t l:TypeId} {k:IntKind} {n:Int} {b:Ty} {C:CK AV} {m:Val b} (H:HR ν h w) (G:nid<h.length) (hd:lkB h nid=.dead) (x:SS P t=some l)
 (e:Vn P l b.size=true) (o:(((P.info? l).bind (·.zero)).map cv).bind š=some C) (p:Ü b C=some m) (h0:0<=n) (u:n.toNat<=4294967296) :
 jA P ν h w (Instr.makeSlice t (.int k n) (.int k n)) (.own nid 0) (Đ h nid (.row b 0 false (List.replicate n.toNat m))):=by
 obtain⟨i,z,hi,s,F,y,r,c⟩:=vy e;have E:=rq x;have q:=aa9 hi r o p H (av:=Av ν h) fun _ hb=>hb;have I:=M7 (by rw[c]) q n.toNat;have D:IntKind.i64.wrap n=n:=acL (by omega) (by omega)
 have a:=Jj (w':=w.alloc (.cells (Builtin.zeroCells z.cells n.toNat) l)) H (id:=nid) (g':=0) (xs':=List.replicate n.toNat m) (cap':=n.toNat) G
  (fun V=>by rw[hd]; trivial) rfl rfl rfl rfl (by simp) (by simp[size_zeroCells,c]) I (fun j v K=>by simpa using K)
 rw[fH] at a;refine⟨_,_,_,?_,zP G rfl,a.2,a.1,á _ _ _⟩
 have A:¬(281474976710656:Int)<(i.bytes:Int)*n:=by
  have hb:n.toNat*i.bytes<=140737488355328:=by
   have:=fI u y;omega
  have:((n.toNat*i.bytes:Nat):Int)=i.bytes*n:=by
   rw[iy,Int.toNat_of_nonneg h0,f7]
  omega
 have B:¬n<0:=by omega
 by_cases g:n.toNat*i.size=0
 ·have J:n.toNat=0:=by
   rcases Nat.mul_eq_zero.1 g with h|h
   ·exact h
   ·omega
  have f:n=0:=by omega
  subst f;simp[Instr.makeSlice,run_underlying E,sizeOf,typeInfo,zeroValue,hi,r,asInt,asIntOf,D,newRow,Builtin.zeroCells];congr 2;apply fo;simp[Array.toList_range]
 ·have d:z.cells.size=i.size:=by rw[c,s]
  simp[Instr.makeSlice,run_underlying E,sizeOf,typeInfo,zeroValue,hi,r,asInt,asIntOf,D,B,A,newRow,Builtin.zeroCells,d,g]
def XN:∀(h:CK Blk) (id:Nat),Đ h id (lkB h id)=h
 |[],_=>rfl
 |_::_,0=>rfl
 |x::h,id+1=>by simp[Đ,lkB,XN h id]
def alQ {t ty:TypeId} {ts:Array TypeId} (E:ts[0]?=some t) {x:AV} {ux:Value} (H:HR ν h w) (e:Lf P h t x some=some h') (hun:(P.underlying t).isSome=true) (hx:VR ν h w x ux) :
 jA P ν h w (Builtin.clear_ ts ty #[ux]) (.tup []) h':=by
 obtain⟨d,hd⟩:=Option.isSome_iff_exists.1 hun;unfold Lf at e
 split at e
 ·cases e;have:ux=.slice none 0 0:=hx;subst this;refine jA.still H (u:=.tuple #[]) ?_ ⟨#[],rfl,trivial⟩
  cases d<;>simp[Builtin.clear_,E,run_underlying hd]
 ·rename_i id g lo n el hel;have ht:=rq hel
  split at e<;>try (cases e; done)
  rename_i zs C
  split at e<;>try (cases e; done)
  rename_i a g' xs X
  split at e<;>try (cases e; done)
  rename_i hgg
  split at e<;>try (cases e; done)
  rename_i K hzv;cases e
  have hge:g=g':=by simpa using hgg
  subst hge;obtain⟨ho,t2,g2,fz2,xs2,W,hle,hv2⟩:=hx;rw[X] at W; cases W;obtain⟨V,base,cap,r,s⟩:=hv2 rfl;have hB:=H.blk id;rw[X] at hB;obtain⟨base',cap',q1,q0,q2⟩:=hB
  rw[r] at q1; injection q1 with e1 e2 e3; subst e1; subst e3
  by_cases hn0:n=0
  ·-- nothing to clear
   subst hn0
   have F:xs.take lo++List.replicate 0 K++xs.drop (lo+0)=xs:=by simp
   rw[F];have hid:id<h.length:=lq X (by simp)
   have O:Đ h id (.row a g false xs)=h:=by rw[<-X]; exact XN h id
   rw[O];refine jA.still H (u:=.tuple #[]) ?_ ⟨#[],rfl,trivial⟩;rw[s];generalize (if cap=lo then base else Option.map (fun x=>x.add (lo*a.size)) base)=bb;generalize cap-lo=cc
   cases bb<;>(simp only[Builtin.clear_,E]; simp[run_underlying ht])
  rcases q2 with⟨rfl,rfl⟩|⟨b,off,c,e',rfl,q3,q4,q5⟩
  ·omega
  have hne:¬cap=lo:=by omega
  rw[if_neg hne] at s;simp only[dZ,ζ] at s
  cases hi:P.info? el with
  |none=>simp[hi] at C
  |some i =>
  cases hz:i.zero with
  |none=>simp[hi,hz] at C
  |some z =>
  have D:=aa9 hi hz C hzv H (av:=Av ν h) fun _ hb=>hb
  have N:z.cells.size=a.size:=by simpa using D.length
  have S:=M7 (by rw[N]) D n
  have U:∀v∈(Builtin.zeroCells z.cells n).toList,v.oneCell'=true:=by
   intro v hv;obtain⟨j,l⟩:=List.mem_iff_getElem?.1 hv;simp only[Builtin.zeroCells,gh,Array.toList_range,eP] at l
   have I:j<n*z.cells.size:=by
    cases h1:(List.range (n*z.cells.size))[j]? with
    |none=>simp[h1] at l
    |some q=>simpa using(cY.1 h1).1
   rw[gu I] at l;simp only[dZ,Option.some.injEq] at l
   have T:0<z.cells.size:=by
    rcases fD z.cells.size with h0|h0
    ·rw[h0] at I; simp at I
    ·exact h0
   have hm:=g9 j T;refine CR.oneCell D v ?_;rw[<-l,getElem!_pos z.cells (j % z.cells.size) hm];simp
  have J:(Builtin.zeroCells z.cells n).toList.length=n*a.size:=by simp[Builtin.zeroCells,N]
  have hln:lo*a.size+n*a.size<=cap*a.size:=by rw[<-dE]; exact dB _ (by omega)
  have B:off+lo*a.size+(Builtin.zeroCells z.cells n).toList.length<=c.size:=by rw[J]; omega
  have Q:=run_storeCells_at P b (off+lo*a.size) e' (Builtin.zeroCells z.cells n).toList 0 c w q3 (by simpa using B) U;simp only[f6] at Q
  have f:(xs.take lo++List.replicate n K++xs.drop (lo+n)).length=xs.length:=by simp; omega
  obtain⟨ev,hr⟩:=Vl H (xs':=xs.take lo++List.replicate n K++xs.drop (lo+n)) (g':=g) (o':=off) (cap':=cap)
   (c':=(c.toList.take (off+lo*a.size)++(Builtin.zeroCells z.cells n).toList++c.toList.drop (off+lo*a.size+(Builtin.zeroCells z.cells n).toList.length)).toArray) X (by rw[r]; rfl) q3
   (by rw[f]; omega) (by simp only[fP,cZ,dk,ik,gn]; omega) (.inr ⟨rfl,by rw[f,r],f⟩) (fun j y l=>by
    have A:=fun k=>B0 c.toList (Builtin.zeroCells z.cells n).toList (off+lo*a.size) k (by simpa using B);have Y:=B0 xs (List.replicate n K) lo j (by simpa using V);rw[fH] at Y;rw[Y] at l
    have M:∀(y:Val a),xs[j]?=some y->(j<lo\/lo+n<=j)->∃us,CR w (Av ν h) a y us/\∀(k:Nat) (v:Value),us[k]?=some v->(c.toList.take (off+lo*a.size)++(Builtin.zeroCells z.cells n).toList++c.toList.drop (off+lo*a.size+(Builtin.zeroCells z.cells n).toList.length)).toArray[off+j*a.size+k]?=some v:=fun y hy p=>by
     obtain⟨us,L,q7⟩:=q5 j y hy;refine⟨us,L,fun k v G=>?_⟩
     have hkl:k<a.size:=by rw[<-L.length]; exact(cY.1 G).1
     have:=q7 k v G;simp only[World.cell?,q3] at this;rw[fE,A,J];rcases p with p|p
     ·have Z:=dB a.size (show j+1<=lo from p);rw[dE,fm] at Z;rw[if_pos (by omega)];simpa using this
     ·have Z:=dB a.size p;rw[dE] at Z;rw[if_neg (by omega),if_neg (by omega)];simpa using this
    split at l
    ·exact M y l (.inl ‹_›)
    ·split at l
     ·rename_i h1 h2;obtain⟨us,L,q7⟩:=S.cells (c:=(Builtin.zeroCells z.cells n)) (o:=0) (fun k v G=>by simpa using G) (j-lo) y (by simpa using l);refine⟨us,L,fun k v G=>?_⟩
      have hkl:k<a.size:=by rw[<-L.length]; exact(cY.1 G).1
      have h7:=q7 k v G
      have Z:j*a.size=lo*a.size+(j-lo)*a.size:=by rw[<-dE]; congr 1; omega
      have h6:=dB a.size (show j-lo+1<=n by omega);rw[dE,fm] at h6;rw[fE,A,J,if_neg (by omega),if_pos (by omega)];rw[show off+j*a.size+k-(off+lo*a.size)=0+(j-lo)*a.size+k by omega];simpa using h7
     ·exact M y l (.inr (by omega)))
  have hvs:ď ν id (.slice (some ⟨b,off,none⟩) (xs.take lo++List.replicate n K++xs.drop (lo+n)).length cap)=ν:=by rw[f,<-r,qZ]
  rw[hvs] at ev hr;refine⟨ν,_,.tuple #[],?_,⟨#[],rfl,trivial⟩,hr,ev,á _ _ _⟩;rw[s];obtain⟨m,rfl⟩:∃m,n=m+1:=⟨n-1,by omega⟩;simp only[Builtin.clear_,E];simp[run_underlying ht,zeroValue,typeInfo,hi,hz,Q]
 ·cases e
def box_ok {nid:Nat} {x:AV} {a:Value} {cs:CK AV} {c:TypeId} (H:HR ν h w) (e:nid<h.length) (hd:lkB h nid=.dead) (i:š x=some cs) (f:VR ν h w x a) :
 jA P ν h w (Instr.box c a) (.box nid 0) (Đ h nid (.cells cs)):=by
 have d:=f.cells i
 obtain⟨ev,g⟩:=Ev.new (w':=w.alloc (.cells a.cells c)) (o:=.cells a.cells c) H (id:=nid) (B:=.cells cs) (V:=.pointer (some ⟨w.heap.size,0,none⟩)) e hd rfl rfl rfl rfl (fun b hb=>by cases hb; rfl) fun ev =>
  ⟨w.heap.size,a.cells,c,Ý _ _ _,heap_alloc_new w _,d.mono fun _ _=>VRc.ev ev⟩
 refine⟨_,_,.pointer (some ⟨w.heap.size,0,none⟩),?_,⟨cs,w.heap.size,ñ _ e,Ý _ _ _,rfl⟩,g,ev,á _ _ _⟩;simp[Instr.box,newVar,newRow]
def aog {x:AV} {a:Value} {cs:CK AV} {c:TypeId} {ty:Ty} {y:Val ty} (H:HR ν h w) (k:š x=some cs) (g:Ü ty cs=some y) (i:VR ν h w x a) :
 jA P ν h w (Instr.box c a) (.eptr ty y 0) h:=by
 have d:=i.cells k;have f:(w.alloc (.cells a.cells c)).heap=w.heap.push (.cells a.cells c):=rfl;have e:=H.grow (w':=w.alloc (.cells a.cells c)) (fun b hb=>by rw[f]; simp[fU,gE hb]) (by rw[f]; simp) rfl rfl rfl h.length;refine⟨ν,_,.pointer (some ⟨w.heap.size,0,none⟩),?_,⟨w.heap.size,0,a.cells.toList,rfl,fun hb=>absurd (H.ltA hb) (Nat.lt_irrefl _),by rw[f]; simp,?_,?_⟩,e.2,e.1,rfl⟩
 ·simp[Instr.box,newVar,newRow]
 ·exact CR.keep e.1.keepA (Ĥ g (d.mono fun _ _ j=>j.1.data))
 ·exact CellsAt.of_cells (heap_alloc_new w _)
def amn {nid:Nat} {z:AV} {cs:CK AV} {c:TypeId} (H:HR ν h w) (g:nid<h.length) (hd:lkB h nid=.dead) (e:((P.info? c).bind (·.zero)).map cv=some z) (k:š z=some cs) :
 jA P ν h w (Instr.alloc c true (.tuple #[])) (.box nid 0) (Đ h nid (.cells cs)):=by
 cases hi:P.info? c with
 |none=>simp[hi] at e
 |some i =>
  cases a:i.zero with
  |none=>simp[hi,a] at e
  |some d =>
   simp only[hi,a,eS,dZ,Option.some.injEq] at e;subst e;have f:=(ach (ν:=ν) (h:=h) (w:=w) d).cells k
   obtain⟨ev,j⟩:=Ev.new (w':=w.alloc (.cells d.cells c)) (o:=.cells d.cells c) H (id:=nid) (B:=.cells cs) (V:=.pointer (some ⟨w.heap.size,0,none⟩)) g hd rfl rfl rfl rfl (fun b hb=>by cases hb; rfl) fun ev =>
    ⟨w.heap.size,d.cells,c,Ý _ _ _,heap_alloc_new w _,f.mono fun _ _=>VRc.ev ev⟩
   refine⟨_,_,.pointer (some ⟨w.heap.size,0,none⟩),?_,⟨cs,w.heap.size,ñ _ g,Ý _ _ _,rfl⟩,j,ev,á _ _ _⟩;simp[Instr.alloc,zeroValue,typeInfo,hi,a,newVar,newRow]
def aft {nid:Nat} {t:TypeId} (k v:Ty) (H:HR ν h w) (a:nid<h.length) (hd:lkB h nid=.dead):jA P ν h w (Instr.makeMap t none) (.omp nid) (Đ h nid (.map k v [])):=by
 obtain⟨ev,c⟩:=Ev.new (w':=w.alloc (.map #[] 0)) (o:=.map #[] 0) H (id:=nid) (B:=.map k v []) (V:=.map (some w.heap.size)) a hd rfl rfl rfl rfl (fun b hb=>by cases hb; rfl) fun ev =>
  ⟨w.heap.size,#[],0,Ý _ _ _,heap_alloc_new w _,rfl,fun i e hi=>by simp at hi⟩
 refine⟨_,_,.map (some w.heap.size),?_,⟨rfl,k,v,[],ñ _ a,(Ý _ _ _).symm⟩,c,ev,á _ _ _⟩;simp[Instr.makeMap]
end
end Go.Am
end

noncomputable section
namespace Go.Am
variable [Ghost]
section
variable {ν ν':Nat->Value} {h h':CK Blk} {w w':World} {P:Program}
def Qp (off:Nat):∀(vs:CK Value) (k:Nat) (cells:Array Value),off+k+vs.length<=cells.size ->
 ((vs.zipIdx k).foldl (fun cs (p:Value×Nat)=>cs.setIfInBounds (off+p.2) p.1) cells).toList=cells.toList.take (off+k)++vs++cells.toList.drop (off+k+vs.length)
 |[],k,cells,_=>by simp
 |v::vs,k,cells,c=>by
  simp only[di] at c;have b:=Qp off vs (k+1) (cells.setIfInBounds (off+k) v) (by simp; omega);simp only[List.zipIdx_cons,gA,b,Array.toList_setIfInBounds]
  have a:off+k<cells.toList.length:=by simp; omega
  have d:(cells.toList.set (off+k) v).take (off+(k+1))=cells.toList.take (off+k)++[v]:=by
   rw[show off+(k+1)=off+k+1 by omega,List.take_add_one];rw[List.take_set_of_le (by omega),List.getElem?_set_self a]; rfl
  have h2:(cells.toList.set (off+k) v).drop (off+(k+1)+vs.length)=cells.toList.drop (off+k+(v::vs).length):=by
   rw[List.drop_set_of_lt (by omega)];simp only[di];congr 1; omega
  rw[d,h2];simp
def Qw {a:Nat->BY (Nat×Nat)} {cells:Array Value} {i:Nat} {v:Value} {rest:CK (Nat×Value)} {off size:Nat} (d:a i=some (off,size)) (c:v.cells.size=size) (e:off+size<=cells.size) :
 Instr.fill a cells ((i,v)::rest)=Instr.fill a (cells.toList.take off++v.cells.toList++cells.toList.drop (off+size)).toArray rest:=by
 have h0:¬(v.cells.size≠size\/off+v.cells.size>cells.size):=by omega
 have b:=Qp off v.cells.toList 0 cells (by simp; omega);simp only[Instr.fill,d];rw[if_neg (by simpa using h0)];congr 1;apply fo;simp only[f6,gn,c] at b;rw[<-b,<-Array.foldl_toList,Array.toList_zipIdx]
def aeo {fs:Array Field} {places:Nat->BY (Nat×Nat)} (t:∀i f n,fs[i]?=some f->szP P f.type=some n->places i=some (f.offset,n)) :
 ∀(ps:CK (Nat×AV)) (us:CK (Nat×Value)) (cs d:CK AV) (c:Array Value),ai8 P fs ps cs=some d->ĕ (fun a b=>a.1=b.1/\VR ν h w a.2 b.2) ps us->ĕ (VRc ν h w) cs c.toList ->
  ∃c',Instr.fill places c us=some c'/\ĕ (VRc ν h w) d c'.toList
 |[],[],cs,d,c,e,_,p=>by cases e; exact⟨c,rfl,p⟩
 |[],_::_,_,_,_,_,g,_=>g.elim
 |_::_,[],_,_,_,_,g,_=>g.elim
 |(i,v)::ps,(j,u)::us,cs,d,c,e,g,p=>by
  obtain⟨⟨o,k⟩,g⟩:=g;simp only at o; subst o;simp only[ai8] at e
  split at e<;>try (cases e; done)
  rename_i f y
  split at e<;>try (cases e; done)
  rename_i vs l
  split at e<;>try (cases e; done)
  rename_i r
  split at e<;>try (cases e; done)
  rename_i z m;obtain⟨rfl,h2⟩:=vx m;have s:=k.cells l;have q:=Ki k l;have x:=p.length;simp at x
  have r:szP P f.type=some vs.length:=by simpa using r
  rw[Qw (t i f _ y r) q (by omega)];exact aeo t ps us _ d _ e g (((p.take _).append s).append (p.drop _))
def UP {sz:Nat} {places:Nat->BY (Nat×Nat)} (r:∀i,places i=some (i*sz,sz)) :
 ∀(ps:CK (Nat×AV)) (us:CK (Nat×Value)) (cs d:CK AV) (c:Array Value),Qx sz ps cs=some d->ĕ (fun a b=>a.1=b.1/\VR ν h w a.2 b.2) ps us->ĕ (VRc ν h w) cs c.toList ->
  ∃c',Instr.fill places c us=some c'/\ĕ (VRc ν h w) d c'.toList
 |[],[],cs,d,c,e,_,n=>by cases e; exact⟨c,rfl,n⟩
 |[],_::_,_,_,_,_,f,_=>f.elim
 |_::_,[],_,_,_,_,f,_=>f.elim
 |(i,v)::ps,(j,u)::us,cs,d,c,e,f,n=>by
  obtain⟨⟨m,g⟩,f⟩:=f;simp only at m; subst m;simp only[Qx] at e
  split at e<;>try (cases e; done)
  rename_i vs k
  split at e<;>try (cases e; done)
  rename_i p
  split at e<;>try (cases e; done)
  rename_i t l;obtain⟨rfl,h2⟩:=vx l;have q:=g.cells k;have o:=Ki g k;have s:=n.length;simp at s
  have p:vs.length=sz:=by simpa using p
  subst p;rw[Qw (r i) o (by omega)];exact UP r ps us _ d _ e f (((n.take _).append q).append (n.drop _))
def F7 {S:St} {a:Act} (H:Sim ν S a w):∀(ps:CK (Nat×Operand)),ĕ (fun(x:Nat×AV) (y:Nat×Value)=>x.1=y.1/\VR ν S.h w x.2 y.2) (ps.map fun p=>(p.1,ev S.t p.2)) (ps.map fun p=>(p.1,a.eval p.2))
 |[]=>trivial
 |p::ps=>⟨⟨rfl,ŏ H p.2⟩,F7 H ps⟩
def Dg (w:World):∀(fs:CK Field),fs.all (fun f=>(P.info? f.type).isSome)=true ->
 ∃l:CK (Nat×Nat),(fs.mapM (m:=Sem) fun(f:Field)=>do pure (f.offset,<-sizeOf f.type)).run P w=.ok l w/\∀(i:Nat),l[i]?=(fs[i]?).bind fun(f:Field)=>(szP P f.type).map fun n=>(f.offset,n)
 |[],_=>⟨[],rfl,fun i=>by simp⟩
 |f::fs,ha=>by
  simp only[fQ,cW] at ha;obtain⟨i,hi⟩:=gS.1 ha.1;obtain⟨l,b,h2⟩:=Dg w fs ha.2
  have a:szP P f.type=some i.size:=by simp[szP,hi]
  refine⟨(f.offset,i.size)::l,?_,fun j=>?_⟩
  ·simp only[List.mapM_cons,Sem.run_bind,nR a,Result.andThen_ok,Sem.run_pure];rw[b]; rfl
  ·cases j with
   |zero=>simp[a]
   |succ j=>simpa using h2 j
def S0 {S:St} {a:Act} {t:TypeId} {fs:Array Field} {ps:Array (Nat×Operand)} {z:AV} {e cs:CK AV} (H:Sim ν S a w) (s:P.underlying t=some (.struct fs)) (q:fs.toList.all (fun f=>(P.info? f.type).isSome)=true)
 (c:((P.info? t).bind (·.zero)).map cv=some z) (g:š z=some e) (C:ai8 P fs (ps.toList.map fun p=>(p.1,ev S.t p.2)) e=some cs) :
 jA P ν S.h w (Instr.build t (ps.map fun(i,x)=>(i,a.eval x))) (.agg cs) S.h:=by
 cases hi:P.info? t with
 |none=>simp[hi] at c
 |some i =>
 cases b:i.zero with
 |none=>simp[hi,b] at c
 |some d =>
 simp only[hi,b,eS,dZ,Option.some.injEq] at c;subst c;have D:=(ach (ν:=ν) (h:=S.h) (w:=w) d).cells g;obtain⟨l,o,k⟩:=Dg (P:=P) w fs.toList q
 obtain⟨c',E,h2⟩:=aeo (ν:=ν) (h:=S.h) (w:=w) (P:=P) (fs:=fs) (places:=fun j=>l[j]?) (fun j f n B y=>by
  show l[j]?=_
  rw[k j]; simp only[gI]; rw[B]; simp[y]) _ _ e cs d.cells C (F7 H ps.toList) D
 refine jA.still H.heap (u:=.agg c') ?_ ⟨c',rfl,h2⟩
 have A:(fs.mapM (m:=Sem) fun f=>do pure (f.offset,<-sizeOf f.type)).run P w=.ok l.toArray w:=by
  rw[Array.mapM_eq_mapM_toList,Sem.run_map,o]; rfl
 have v:(ps.map fun(x:Nat×Operand)=>(x.1,a.eval x.2)).toList=ps.toList.map fun p=>(p.1,a.eval p.2):=by simp
 simp only[Instr.build,Sem.run_bind,zeroValue,typeInfo,run_program,Result.andThen_ok,hi,b,Sem.run_pure,run_underlying s];rw[A];simp only[Result.andThen_ok]
 have r:Instr.fill (fun x=>l.toArray[x]?) d.cells (ps.map fun(x:Nat×Operand)=>(x.1,a.eval x.2)).toList=some c':=by
  rw[v]; simpa using E
 erw [r]
 rfl
end
end Go.Am
end

noncomputable section
namespace Go.Am
variable [Ghost]
section
variable {ν ν':Nat->Value} {h h':CK Blk} {w w':World} {P:Program}
def acx {S:St} {a:Act} {t e:TypeId} {n sz:Nat} {ps:Array (Nat×Operand)} {z:AV} {f cs:CK AV} (H:Sim ν S a w) (l:P.underlying t=some (.array n e)) (m:szP P e=some sz)
 (c:((P.info? t).bind (·.zero)).map cv=some z) (g:š z=some f) (q:Qx sz (ps.toList.map fun p=>(p.1,ev S.t p.2)) f=some cs) :
 jA P ν S.h w (Instr.build t (ps.map fun(i,x)=>(i,a.eval x))) (.agg cs) S.h:=by
 cases hi:P.info? t with
 |none=>simp[hi] at c
 |some i =>
 cases b:i.zero with
 |none=>simp[hi,b] at c
 |some d =>
 simp only[hi,b,eS,dZ,Option.some.injEq] at c;subst c;have r:=(ach (ν:=ν) (h:=S.h) (w:=w) d).cells g;obtain⟨c',s,h2⟩:=UP (ν:=ν) (h:=S.h) (w:=w) (sz:=sz) (places:=fun j=>some (j*sz,sz)) (fun j=>rfl) _ _ f cs d.cells q (F7 H ps.toList) r;refine jA.still H.heap (u:=.agg c') ?_ ⟨c',rfl,h2⟩
 have o:(ps.map fun(x:Nat×Operand)=>(x.1,a.eval x.2)).toList=ps.toList.map fun p=>(p.1,a.eval p.2):=by simp
 simp only[Instr.build,Sem.run_bind,zeroValue,typeInfo,run_program,Result.andThen_ok,hi,b,Sem.run_pure,run_underlying l,nR m]
 have k:Instr.fill (fun j=>some (j*sz,sz)) d.cells (ps.map fun(x:Nat×Operand)=>(x.1,a.eval x.2)).toList=some c':=by rw[o]; exact s
 erw [k]
 rfl
def ahB {t:TypeId} {agg:Bool} {n o:Nat} {cs e:CK AV} {v:AV} {us:Array Value} (H:HR ν h w) (k:ldP P t=some (agg,n)) (m:Ri cs o n=some e) (j:mkv agg e=some v) (p:ĕ (VRc ν h w) cs us.toList) :
 jA P ν h w (part t us o) v h:=by
 obtain⟨d,hd,rfl,g⟩:=WG k;obtain⟨s,h2⟩:=pK m
 have a:ĕ (VRc ν h w) e ((us.toList.drop o).take n):=by rw[s]; exact(p.drop o).take n
 obtain⟨r,q⟩:=amM j a;refine jA.still H ?_ r;unfold part;simp only[Sem.run_bind,zG hd,Result.andThen_ok]
 cases c:Rj d with
 |true =>
  simp only[if_true,Sem.run_bind,nR g,Result.andThen_ok,Sem.run_pure,aa5];congr 2;apply fo;rw[Array.toList_extract,List.extract_eq_take_drop];congr 1; omega
 |false =>
  have i:n=1:=by rw[<-h2]; exact q c
  subst i;simp only[aa5]
  cases f:us.toList.drop o with
  |nil=>rw[f] at a; have:=a.length; rw[h2] at this; simp at this
  |cons u rest =>
   have b:us[o]?=some u:=by
    have:=congrArg (fun l=>l[0]?) f;simpa using this
   simp[b]
def alF {t:TypeId} {f:Nat} {fs:Array Field} {a:Field} {agg:Bool} {n:Nat} {cs c:CK AV} {v:AV} {b:Value} (H:HR ν h w) (e:P.underlying t=some (.struct fs)) (k:fs[f]?=some a)
 (i:ldP P a.type=some (agg,n)) (j:Ri cs a.offset n=some c) (g:mkv agg c=some v) (d:VR ν h w (.agg cs) b):jA P ν h w (Instr.field t b f) v h:=by
 obtain⟨us,rfl,l⟩:=d;obtain⟨ν',w',u,m,h2⟩:=ahB (P:=P) H i j g l;refine⟨ν',w',u,?_,h2⟩;simp only[Instr.field,Sem.run_bind,run_underlying e,Result.andThen_ok,k,asAgg,Sem.run_pure];exact m
def abY {t e:TypeId} {n m:Nat} {k:IntKind} {j:Int} {agg:Bool} {cs c:CK AV} {v:AV} {a:Value} (H:HR ν h w) (g:P.underlying t=some (.array n e))
 (o:0<=j/\j<n) (b:ldP P e=some (agg,m)) (p:Ri cs (j.toNat*m) m=some c) (l:mkv agg c=some v) (f:VR ν h w (.agg cs) a):jA P ν h w (Instr.index t a (.int k j)) v h:=by
 obtain⟨us,rfl,q⟩:=f;obtain⟨ν',w',u,r,h2⟩:=ahB (P:=P) H b p l q;obtain⟨d,hd,_,i⟩:=WG b;refine⟨ν',w',u,?_,h2⟩;simp only[Instr.index,asIntOf,Sem.run_bind,Sem.run_pure,run_underlying g,Result.andThen_ok,o,and_self,if_true,nR i];exact r
def shift_ok {x v:AV} {j:Value} {o:Nat} (e:Df h x o some=some v) (d:VR ν h w x j):∃a,j=.pointer (some a)/\VR ν h w v (.pointer (some (a.add o))):=by
 unfold Df at e
 split at e<;>try (cases e; done)
 ·cases e;obtain⟨cs,b,c,h2,rfl⟩:=d;exact⟨_,rfl,cs,b,c,h2,by rw[ζ]⟩
 ·cases e;obtain⟨b,o',us,rfl,c,h2,i,g⟩:=d;exact⟨_,rfl,b,o',us,by rw[ζ,Nat.add_assoc],c,h2,i,g⟩
 ·split at e<;>try (cases e; done)
  rename_i t g' fz xs k
  split at e<;>try (cases e; done)
  rename_i f;cases e;obtain⟨p,t2,q,n,l,c,h2,i⟩:=d;rw[k] at c; cases c;have m:=eq_of_beq f;subst m;obtain⟨hi,b,o',cap,g,rfl⟩:=i rfl;exact⟨_,rfl,by rw[ζ]; rfl,_,_,_,_,k,cX _,fun _=>⟨hi,b,o',cap,g,by rw[ζ,Nat.add_assoc]⟩⟩
def aam {t:TypeId} {f:Nat} {fs:Array Field} {b:Field} {n:Nat} {x v:AV} {c:Value} (H:HR ν h w) (g:P.underlying t=some (.struct fs)) (j:fs[f]?=some b)
 (i:szP P b.type=some (n+1)) (e:Df h x b.offset some=some v) (d:VR ν h w x c):jA P ν h w (Instr.fieldAt t c f) v h:=by
 obtain⟨a,rfl,k⟩:=shift_ok e d;refine jA.still H ?_ k;simp[Instr.fieldAt,Instr.sureAddr,run_underlying g,j,fieldPlace,nR i]
def Qe {t e:TypeId} {n sz id off:Nat} {k:IntKind} {j:Int} {a:Value} (H:HR ν h w) (d:P.underlying t=some (.array n e)) (g:0<=j/\j<n) (f:szP P e=some sz) (c:VR ν h w (.box id off) a) :
 jA P ν h w (Instr.indexAt t a (.int k j)) (.box id (off+j.toNat*sz)) h:=by
 obtain⟨cs,b,i,h2,rfl⟩:=c;refine jA.still H (u:=.pointer (some ⟨b,off+j.toNat*sz,none⟩)) ?_ ⟨cs,b,i,h2,rfl⟩;simp[Instr.indexAt,Instr.sureAddr,asIntOf,run_underlying d,nR f,g,ζ]
def Xv {k:IntKind} {n:Int} {v:AV} (e:arK k n some=some v):v=.int k (k.wrap n):=by
 unfold arK at e;cases e
 cases k<;>rfl
def NZ {gt:Bool} {f:Value->Value->Sem Value} (j:∀(k:IntKind) (a b:Int),(f (.int k a) (.int k b)).run P w=.ok (.int k (match gt with|true=>SP a b|false=>abZ a b)) w) :
 ∀(l:CK AV) (us:CK Value) (x v:AV) (c:Value),mK gt x l some=some v->VR ν h w x c->ĕ (VR ν h w) l us->∃u,(us.foldlM f c).run P w=.ok u w/\VR ν h w v u
 |[],[],x,v,c,e,i,_=>by cases e; exact⟨c,rfl,i⟩
 |[],_::_,_,_,_,_,_,d=>d.elim
 |_::_,[],_,_,_,_,_,d=>d.elim
 |y::l,uy::us,x,v,c,e,i,d=>by
  cases x<;>try (simp[mK] at e; done)
  cases y<;>try (simp[mK] at e; done)
  rename_i k a q b;simp only[mK] at e
  split at e<;>try (cases e; done)
  rename_i m _;subst m
  have key:∀g:Bool,(match g with|true=>mK true (.int k (SP a b)) l some|false=>mK false (.int k (abZ a b)) l some)=some v->mK g (.int k (match g with|true=>SP a b|false=>abZ a b)) l some=some v:=fun g h=>by cases g<;>exact h
  have e:=key gt e;have p:c=.int k a:=i;have h2:uy=.int k b:=d.1;subst p h2;obtain⟨u,o,n⟩:=NZ j l us _ v _ e (show VR ν h w (.int k _) (.int k _) from rfl) d.2;refine⟨u,?_,n⟩;simp only[List.foldlM_cons,Sem.run_bind,j,Result.andThen_ok];exact o
end
end Go.Am
end

noncomputable section
namespace Go.Am
variable [Ghost]
section
variable {ν ν':Nat->Value} {h h':CK Blk} {w w':World} {P:Program}
def oo {t:TypeId} {k:Ty} (a:JY P t k=true) :
 (P.underlying t=some .bool/\k=.bool)\/(∃i,P.underlying t=some (.int i)/\k=.int i):=by
 unfold JY at a
 split at a<;>try (cases a; done)
 ·split at a<;>try (cases a; done)
  exact .inl ⟨‹_›,rfl⟩
 ·split at a<;>try (cases a; done)
  have:=eq_of_beq a;subst this;exact .inr ⟨_,‹_›,rfl⟩
def keyVal:(k:Ty)->Val k->Value
 |.bool,b=>.bool b
 |.int i,n=>.int i n
 |.str,s=>.string s
 |_,_=>undef
def CR.keyVal {av:Nat->Prop} {t:TypeId} {k:Ty} {x:Val k} {v:Value} (a:JY P t k=true) (b:CR w av k x [v]):v=keyVal k x:=by
 rcases oo a with⟨_,rfl⟩|⟨i,_,rfl⟩
 all_goals
  have:[v]=[_]:=b;simpa[Am.keyVal] using this
def aiK {av:Nat->Prop} {t:TypeId} {k:Ty} {x:Val k} (a:JY P t k=true):CR w av k x [keyVal k x]:=by
 rcases oo a with⟨_,rfl⟩|⟨i,_,rfl⟩<;>exact(rfl:[_]=[_])
def KB {t:TypeId} {k:Ty} {x:Val k} {empty:Bool} (b:JY P t k=true) (m:Nat):(Instr.checkKey empty (m+1) t (keyVal k x)).run P w=.ok () w:=by
 rcases oo b with⟨a,rfl⟩|⟨i,a,rfl⟩<;>simp[Instr.checkKey,run_underlying a,keyVal]
def EK {t:TypeId} {k:Ty} (b:JY P t k=true):∃d,P.underlying t=some d/\∀x y:Val k,Instr.sameNow d (keyVal k x) (keyVal k y)=some (kP k x y):=by
 rcases oo b with⟨a,rfl⟩|⟨i,a,rfl⟩
 ·exact⟨_,a,fun _ _=>rfl⟩
 ·refine⟨_,a,fun x y=>?_⟩;simp only[Instr.sameNow,keyVal,kP,if_true];congr 1
def Ents (w:World) (av:Nat->Prop) (k v:Ty) (es:CK (Val k×Val v)) (a:CK MapEntry):Prop :=
 ĕ (fun(e:Val k×Val v) (m:MapEntry)=>m.key=keyVal k e.1/\∃us,CR w av v e.2 us/\m.val=zw v us) es a
def J6 {d:TypeDesc} {av:Nat->Prop} {k v:Ty} {x:Val k} (hd:∀y,Instr.sameNow d (keyVal k x) (keyVal k y)=some (kP k x y)):∀(es:CK (Val k×Val v)) (ms:CK MapEntry) (i:Nat),Ents w av k v es ms ->
 (tv x es=none/\Instr.findNow d (keyVal k x) ms i=some none) \/
 ∃y j us,tv x es=some y/\Instr.findNow d (keyVal k x) ms i=some (some (i+j,zw v us))/\CR w av v y us/\j<es.length/\(∀b,TM x b es=es.set j (x,b))/\∃e,es[j]?=some e/\kP k x e.1=true
 |[],[],i,_=>.inl ⟨rfl,rfl⟩
 |[],_::_,_,c=>c.elim
 |_::_,[],_,c=>c.elim
 |e::es,m::ms,i,c=>by
  obtain⟨⟨t,us,h2,s⟩,c⟩:=c;have f:=hd e.1;rw[<-t] at f
  cases a:kP k x e.1 with
  |true =>
   rw[a] at f;exact .inr ⟨e.2,0,us,by simp[tv,a],by simp[Instr.findNow,f,s],h2,by simp,fun b=>by simp[TM,a],e,rfl,a⟩
  |false =>
   rw[a] at f;rcases J6 hd es ms (i+1) c with⟨n,l⟩|⟨y,j,g,n,l,r,z,q,u,p,o⟩
   ·exact .inl ⟨by simp[tv,a,n],by simp[Instr.findNow,f,l]⟩
   ·refine .inr ⟨y,j+1,g,by simp[tv,a,n],by simp[Instr.findNow,f,l]; omega,r,by simp; omega,fun b=>by simp[TM,a,q],u,by simpa using p,o⟩
def YP {k v:Ty} {x:Val k} {b:Val v}:∀{es:CK (Val k×Val v)},tv x es=none->TM x b es=es++[(x,b)]
 |[],_=>rfl
 |e::es,a=>by
  cases c:kP k x e.1 with
  |true=>simp[tv,c] at a
  |false=>simp only[tv,c] at a; simp[TM,c,YP a]
def ents (H:HR ν h w) {t:TypeId} {m:AV} {um:Value} {k v:Ty} {es:CK (Val k×Val v)} (A:JY P t k=true) (p:VR ν h w m um) (e:ă h m=.mp k v es) :
 ∃r,um=.map r/\((r=none/\es=[])\/∃b c d,r=some b/\w.heap[b]?=some (.map c d)/\Ents w (Av ν h) k v es c.toList):=by
 have fin:∀(c:Array MapEntry),c.size=es.length->(∀(i:Nat) (e:Val k×Val v),es[i]?=some e->∃(m:MapEntry) (us:CK Value),c[i]?=some m/\CR w (Av ν h) k e.1 [m.key]/\CR w (Av ν h) v e.2 us/\m.val=zw v us) ->
  Ents w (Av ν h) k v es c.toList:=fun c z B=>by
  refine ĕ.of_get (by simpa using z.symm) fun i a b ha hb=>?_;obtain⟨m,us,l,h2,j,f⟩:=B i a ha
  have:b=m:=by simp at hb; rw[l] at hb; exact(Option.some.inj hb).symm
  subst this;exact⟨CR.keyVal A h2,us,j,f⟩
 cases m with
 |mp x u o =>
  simp only[ă] at e;cases e;obtain⟨r,l,h2⟩:=p;refine⟨r,by simpa using l,?_⟩;rcases h2 with h2|⟨b,c,d,h2,_,j,f,C⟩
  ·exact .inl h2
  ·exact .inr ⟨b,c,d,h2,j,fin c f C⟩
 |omp id =>
  obtain⟨D,x,u,o,q,y⟩:=p;simp only[ă,q] at e;cases e;have s:=H.blk id;rw[q] at s;obtain⟨b,c,d,l,h2,j,f⟩:=s;exact⟨some b,by rw[y,l],.inr ⟨b,c,d,rfl,h2,fin c j f⟩⟩
 |own id g=>simp only[ă] at e; (repeat' split at e)<;>cases e
 |sub id g lo n=>simp only[ă] at e; (repeat' split at e)<;>cases e
 |_=>simp[ă] at e
def Jd {t:TypeId} {k:Ty} {i:AV} {b:Value} {x:Val k} (c:JY P t k=true) (hi:VR ν h w i b) (e:Ü k [i]=some x):b=keyVal k x:=by
 rcases oo c with⟨_,rfl⟩|⟨j,_,rfl⟩
 ·cases i<;>simp[Ü,Β] at e; subst e; exact hi
 ·cases i<;>try (simp[Ü,Β] at e; done)
  rename_i f n;simp only[Ü,Β] at e
  split at e<;>try (cases e; done)
  rename_i y a
  split at a<;>try (cases a; done)
  rename_i d _;subst d; cases a; cases e; exact hi
def aiD (ok:Bool) (y:AV) (b:Bool):BY AV:=match ok with|true=>some (.tup [y,.bool b])|false=>some y
def aiu {t:TypeId} {m i v:AV} {um J:Value} {ok:Bool} (H:HR ν h w) (e:vm P h t m i ok some=some v) (hm:VR ν h w m um) (hi:VR ν h w i J):∃u,(Instr.lookup t um J ok).run P w=.ok u w/\VR ν h w v u:=by
 unfold vm at e
 split at e<;>try (cases e; done)
 rename_i K et D
 split at e<;>try (cases e; done)
 rename_i k C z hkt het M
 cases q:P.info? et with
 |none=>simp[q] at M
 |some L =>
 cases B:L.zero with
 |none=>simp[q,B] at M
 |some l =>
 simp only[q,B,eS,dZ,Option.some.injEq] at M;subst M
 -- what the run does, once the search is known
 have run:∀(x:Val k) (r:BY Nat) (ms:CK MapEntry),JY P K k=true->J=keyVal k x->um=.map r->(r=none/\ms=[]\/∃b a c,r=some b/\w.heap[b]?=some (.map a c)/\a.toList=ms) ->
  ∀d,P.underlying K=some d ->
  (∀y j,Instr.findNow d (keyVal k x) ms 0=some (some (j,y))->(Instr.lookup t um J ok).run P w=.ok (if ok then .tuple #[y,.bool true] else y) w) /\
  (Instr.findNow d (keyVal k x) ms 0=some none->(Instr.lookup t um J ok).run P w=.ok (if ok then .tuple #[l,.bool false] else l) w):=by
  intro x r ms A O o S d hd;subst O o;have s:=fun em=>KB (P:=P) (w:=w) (x:=x) (empty:=em) A 9999;have s:∀em,(Instr.checkKey em 10000 K (keyVal k x)).run P w=.ok () w:=s;rcases S with⟨rfl,rfl⟩|⟨b,a,c,rfl,hb,rfl⟩
  ·constructor
   ·intro y j F; simp[Instr.findNow] at F
   ·intro F;simp only[Instr.lookup,Sem.run_bind,run_underlying D,Result.andThen_ok,Sem.run_pure,s];simp[Instr.findKey,run_underlying hd,Instr.findNow,zeroValue,typeInfo,q,B]
  ·constructor
   ·intro y j F;simp only[Instr.lookup,Sem.run_bind,run_underlying D,Result.andThen_ok,Sem.run_pure,rc hb,s];simp[Instr.findKey,run_underlying hd,F]
   ·intro F;simp only[Instr.lookup,Sem.run_bind,run_underlying D,Result.andThen_ok,Sem.run_pure,rc hb,s];simp[Instr.findKey,run_underlying hd,F,zeroValue,typeInfo,q,B]
 have I:∀{V:AV},aiD ok (cv l) false=some V->VR ν h w V (if ok then .tuple #[l,.bool false] else l):=fun {V} hV=>by
  cases ok with
  |false=>cases hV; exact ach l
  |true =>
   cases hV;refine⟨#[l,.bool false],rfl,?_,rfl,trivial⟩;have:=ach (ν:=ν) (h:=h) (w:=w) l
   cases D:(cv l).isTup with
   |true=>exact absurd D (by rw[ajn]; simp)
   |false=>rwa [zq D] at this
 split at e<;>try (cases e; done)
 ·rename_i k' v' es A f
  split at e<;>try (cases e; done)
  rename_i U _;cases U
  split at e<;>try (cases e; done)
  rename_i x N;have E:=Jd A hi N;obtain⟨d,hd,p⟩:=EK (P:=P) (t:=K) (k:=k) A;obtain⟨r,o,S⟩:=ents H A hm f
  have Q:∃ms,Ents w (Av ν h) k C es ms/\(r=none/\ms=[]\/∃b a c,r=some b/\w.heap[b]?=some (.map a c)/\a.toList=ms):=by
   rcases S with⟨rfl,rfl⟩|⟨b,a,c,rfl,hb,W⟩
   ·exact⟨[],trivial,.inl ⟨rfl,rfl⟩⟩
   ·exact⟨_,W,.inr ⟨b,a,c,rfl,hb,rfl⟩⟩
  obtain⟨ms,W,T⟩:=Q;obtain⟨r1,r2⟩:=run x r ms A E o T d hd;rcases J6 (p x) es ms 0 W with⟨Y,X⟩|⟨y,j,us,Y,X,h6,_⟩
  ·have G:(match (tv x es:BY (Val C)) with|some y=>aiD ok (enc C y) true|none=>aiD ok (cv l) false)=some v:=e;rw[Y] at G;exact⟨_,r2 X,I G⟩
  ·have G:(match (tv x es:BY (Val C)) with|some y=>aiD ok (enc C y) true|none=>aiD ok (cv l) false)=some v:=e;rw[Y] at G;refine⟨_,r1 _ _ X,?_⟩;have Z:=Ld h6
   cases ok with
   |false=>cases G; exact Z
   |true =>
    cases G;refine⟨#[zw C us,.bool true],rfl,?_,rfl,trivial⟩
    have D:(enc C y).isTup=false:=by cases C<;>rfl
    rwa [zq D] at Z
 ·rename_i A f
  split at e<;>try (cases e; done)
  rename_i x N;have E:=Jd A hi N;obtain⟨d,hd,p⟩:=EK (P:=P) (t:=K) (k:=k) A
  have o:um=.map none:=by
   cases m with
   |nilm=>exact hm
   |own id g=>simp only[ă] at f; (repeat' split at f)<;>cases f
   |sub id g lo n=>simp only[ă] at f; (repeat' split at f)<;>cases f
   |omp id=>simp only[ă] at f; (repeat' split at f)<;>cases f
   |_=>simp[ă] at f
  obtain⟨r1,r2⟩:=run x none [] A E o (.inl ⟨rfl,rfl⟩) d hd;exact⟨_,r2 rfl,I e⟩
def ait {t:TypeId} {m i v:AV} {um a:Value} {ok:Bool} (H:HR ν h w) (e:vm P h t m i ok some=some v) (b:VR ν h w m um) (hi:VR ν h w i a):jA P ν h w (Instr.lookup t um a ok) v h:=by
 obtain⟨u,c,h2⟩:=aiu H e b hi;exact jA.still H c h2
def Jg {x:AV} {cs:CK AV} (e:š (acY h x)=some cs):∃vs,š x=some vs/\cs=vs.map (ă h):=by
 cases x with
 |agg l=>simp only[acY,š,Option.some.injEq] at e; exact⟨l,rfl,e.symm⟩
 |any=>cases e
 |und=>cases e
 |tup=>cases e
 |own id g =>
  refine⟨_,rfl,?_⟩;simp only[acY] at e
  have:ă h (.own id g)=.any\/∃t xs,ă h (.own id g)=.slc t xs:=by
   simp only[ă]; (repeat' split)<;>first|exact .inl rfl|exact .inr ⟨_,_,rfl⟩
  rcases this with a|⟨t,xs,a⟩<;>rw[a] at e<;>cases e
  simp[a]
 |sub id g lo n =>
  refine⟨_,rfl,?_⟩;simp only[acY] at e
  have:ă h (.sub id g lo n)=.any\/∃t xs,ă h (.sub id g lo n)=.slc t xs:=by
   simp only[ă]; (repeat' split)<;>first|exact .inl rfl|exact .inr ⟨_,_,rfl⟩
  rcases this with a|⟨t,xs,a⟩<;>rw[a] at e<;>cases e
  simp[a]
 |omp id =>
  refine⟨_,rfl,?_⟩;simp only[acY] at e
  have:ă h (.omp id)=.any\/∃k v xs,ă h (.omp id)=.mp k v xs:=by
   simp only[ă]; (repeat' split)<;>first|exact .inl rfl|exact .inr ⟨_,_,_,rfl⟩
  rcases this with a|⟨k,v,xs,a⟩<;>rw[a] at e<;>cases e
  simp[a]
 |_=>cases e; exact⟨_,rfl,rfl⟩
def aei {a:AV} {id:Nat} {k v:Ty} {es:CK (Val k×Val v)} (b:lkB h id=.map k v es):lkB (sS h a) id=.map k v es:=by
 have key:∀(j g:Nat) (t:Ty) (fz:Bool) (xs:CK (Val t)),lkB h j=.row t g fz xs->lkB (Đ h j (.row t g true xs)) id=.map k v es:=fun j g t fz xs c=>by
  by_cases d:id=j
  ·subst d; rw[b] at c; cases c
  ·rw[Ù _ d]; exact b
 cases a<;>try exact b
 all_goals
  simp only[sS]
  split
  ·exact key _ _ _ _ _ ‹_›
  ·exact b
def WT {id:Nat} {k v:Ty} {es:CK (Val k×Val v)}:∀(as:CK AV) {h:CK Blk},lkB h id=.map k v es->lkB (C8 h as) id=.map k v es
 |[],_,b=>b
 |a::as,_,b=>WT as (aei b)
def alp {t:TypeId} {k:Ty} (a:JY P t k=true) {x y:Val k} (e:kP k x y=true):x=y:=by
 rcases oo a with⟨_,rfl⟩|⟨j,_,rfl⟩
 ·simpa[kP] using e
 ·simpa[kP] using e
def X7 {t:TypeId} {k:Ty} (a:JY P t k=true) (x:Val k) (m:Nat):Instr.sameBits m (keyVal k x) (keyVal k x)=true:=by
 rcases oo a with⟨_,rfl⟩|⟨j,_,rfl⟩<;>simp[Instr.sameBits,keyVal]
def ĕ.set {α β:Type} {R:α->β->Prop}:∀{l:CK α} {m:CK β} (i:Nat) {a:α} {b:β},ĕ R l m->R a b->ĕ R (l.set i a) (m.set i b)
 |[],[],_,_,_,_,_=>trivial
 |_::_,_::_,0,_,_,h,c=>⟨c,h.2⟩
 |_::_,_::_,i+1,_,_,h,c=>⟨h.1,ĕ.set i h.2 c⟩
 |[],_::_,_,_,_,h,_=>h.elim
 |_::_,[],_,_,_,h,_=>h.elim
def YV {t:TypeId} {m i x:AV} {um ui A:Value} (H:HR ν h w) (e:mn P h t m i x some=some h') (hm:VR ν h w m um) (hi:VR ν h w i ui) (hx:VR ν h w x A) :
 ∃w',(Instr.mapUpdate t um ui A).run P w=.ok () w'/\HR ν h' w'/\Ev h.length ν h w ν h' w'/\h'.length=h.length:=by
 unfold mn at e
 split at e<;>try (cases e; done)
 rename_i kt et ht
 split at e<;>try (cases e; done)
 rename_i id
 split at e<;>try (cases e; done)
 rename_i k v es hl
 split at e<;>try (cases e; done)
 rename_i hc;simp only[cW,beq_iff_eq] at hc;obtain⟨G,hnm,T⟩:=hc
 split at e<;>try (cases e; done)
 rename_i a cs ha hcs
 split at e<;>try (cases e; done)
 rename_i b hb;cases e;obtain⟨vs,s,rfl⟩:=Jg hcs;obtain⟨hfe,hfm⟩:=aiX s h;have hcx:=hx.cells s;have hsn:=Iv H (hcx.mono fun _ _ q=>q.1) (hfm hnm);obtain⟨e1,H1,hlv⟩:=FH vs H;rw[hfe];have n:=WT vs hl;have S:=Ĥ hb hsn
 have C:A=zw v A.cells.toList:=by
  unfold zw;rw[<-T]
  cases x with
  |agg l=>obtain⟨us,rfl,_⟩:=hx; rfl
  |any=>cases s
  |und=>cases s
  |tup=>cases s
  |_ =>
   rw[QO ((hx.one rfl rfl).oneCell s)]; rfl
 obtain⟨ho,k2,v2,es2,M,hmv⟩:=hm;rw[hl] at M; cases M;have hB:=H1.blk id;rw[n] at hB;obtain⟨I,f,p,Z,h2,h3,h4⟩:=hB;rw[hmv,Z];have hui:=Jd G hi ha;subst hui
 have X:Ents w (Av ν (C8 h vs)) k v es f.toList:=by
  obtain⟨r,D,z⟩:=ents H1 (m:=.omp id) (um:=.map (some I)) (k:=k) (v:=v) (es:=es) G ⟨rfl,k,v,es,n,Z.symm⟩ (by simp only[ă,n]);cases D;rcases z with⟨z,_⟩|⟨b',en',cl',z,L,W⟩
  ·cases z
  ·cases z;rw[h2] at L;cases L;exact W
 obtain⟨d,hd,E⟩:=EK (P:=P) (t:=kt) (k:=k) G;have O:id<(C8 h vs).length:=lq n (by simp)
 -- the map with other f
 have fin:∀(c:Array MapEntry) (g:Nat) (o:CK (Val k×Val v)),Ents w (Av ν (C8 h vs)) k v o c.toList ->
  HR ν (Đ (C8 h vs) id (.map k v o)) {w with heap:=w.heap.setIfInBounds I (.map c g)} /\
  Ev (C8 h vs).length ν (C8 h vs) w ν (Đ (C8 h vs) id (.map k v o)) {w with heap:=w.heap.setIfInBounds I (.map c g)}:=by
  intro c g o U;have F:=ħ h2
  have u:∀q,q<w.heap.size->((lkB (C8 h vs) id).live=true->¬ř (ν id) q)->({w with heap:=w.heap.setIfInBounds I (.map c g)}:World).heap[q]?=w.heap[q]?:=fun q _ K=>by
   have:I≠q:=fun he=>K (by rw[n]; rfl) (by rw[Z,he]; rfl);simp[fV,this]
  have hV:(Blk.map k v o).live=true->∀q,ř (ν id) q->((lkB (C8 h vs) id).live=true/\ř (ν id) q)\/w.heap.size<=q:=fun _ q K=>.inl ⟨by rw[n]; rfl,K⟩;have ev:=Ev.upd H1 (B:=.map k v o) (V:=ν id) (w':={w with heap:=w.heap.setIfInBounds I (.map c g)}) O rfl rfl rfl (by simp) u hV (by rw[n]; exact⟨⟨o,rfl⟩,Ý _ _ _⟩)
  have J:=HR.upd H1 O ev u hV ⟨I,c,g,(Ý _ _ _).trans Z,by simp[F],by simpa using U.length.symm,fun j q hj=>by
   obtain⟨m,D,z,us,L,W⟩:=U.get hj;refine⟨m,us,by simpa using D,?_,CR.keep ev.keepA L,W⟩
   rw[z]; exact aiK G⟩
  rw[qZ] at ev J;exact⟨J,ev⟩
 have Q:∀em,(Instr.checkKey em 10000 kt (keyVal k a)).run P w=.ok () w:=fun em=>KB (P:=P) (w:=w) (x:=a) (empty:=em) G 9999;rcases J6 (E a) es f.toList 0 X with⟨h5,Y⟩|⟨y,j,us,h5,Y,h7,h8,h9,e',h10,h11⟩
 ·rw[YP h5]
  obtain⟨J,ev⟩:=fin (f.push {key:=keyVal k a,val:=A,born:=p}) (p+1) (es++[(a,b)]) (by
   rw[Array.toList_push]
   exact ĕ.append X ⟨⟨rfl,_,S,C⟩,trivial⟩)
  refine⟨_,?_,J,e1.trans ev (by rw[κ]; exact cX _),by rw[á,κ]⟩;simp only[Instr.mapUpdate,Sem.run_bind,run_underlying ht,Result.andThen_ok,rc h2,Q];simp[Instr.findKey,run_underlying hd,Y,setObj,Sem.run,h2]
 ·rw[h9];obtain⟨m,D,z,us',L,W⟩:=X.get h10
  have q1':f[j]?=some m:=by simpa using D
  obtain⟨J,ev⟩:=fin (f.modify j fun e=>{e with key:=keyVal k a,val:=A}) p (es.set j (a,b)) (by
   rw[Array.toList_modify]
   have:(f.toList.modify j fun e=>{e with key:=keyVal k a,val:=A})=f.toList.set j {m with key:=keyVal k a,val:=A}:=by
    apply List.ext_getElem?
    intro q;rw[List.getElem?_modify,ii]
    by_cases K:j=q
    ·subst K;have F:=(cY.1 D).1;simp only[if_true,D,F];rfl
    ·simp[K]
   rw[this]
   exact ĕ.set j X ⟨rfl,_,S,C⟩)
  refine⟨_,?_,J,e1.trans ev (by rw[κ]; exact cX _),by rw[á,κ]⟩
  have N:m.key=keyVal k a:=by rw[z,<-alp G h11]
  simp only[Instr.mapUpdate,Sem.run_bind,run_underlying ht,Result.andThen_ok,rc h2,Q];simp only[dH] at Y;have hsb:Instr.sameBits 10000 (keyVal k a) (keyVal k a)=true:=X7 G a 10000;simp[Instr.findKey,run_underlying hd,Y,q1',N,Instr.keyThatStays,hsb,setObj,Sem.run,h2]
end
end Go.Am
end

noncomputable section
namespace Go.Am
variable [Ghost]
section
variable {ν ν':Nat->Value} {h h':CK Blk} {w w':World} {P:Program}
def ac0 {t:TypeId} {n o:Nat} {d:TypeDesc} (hd:P.underlying t=some d) (f:szP P t=some n) (us:Array Value) (i:Rj d=false->n=1) (j:o+n<=us.size) :
 (part t us o).run P w=.ok (aa5 (Rj d) ((us.toList.drop o).take n)) w:=by
 unfold part;simp only[Sem.run_bind,zG hd,Result.andThen_ok]
 cases c:Rj d with
 |true =>
  simp only[if_true,Sem.run_bind,nR f,Result.andThen_ok,Sem.run_pure,aa5];congr 2;apply fo;rw[Array.toList_extract,List.extract_eq_take_drop];congr 1; omega
 |false =>
  have g:=i c;subst g
  have a:o<us.size:=by omega
  have b:us[o]?=some us[o]:=by simp[a]
  have e:us.toList.drop o=us[o]::us.toList.drop (o+1):=by
   rw[dT (by simpa using a)]; simp
  simp[b,aa5,e]
def an0:∀(n d:Nat) (t:TypeId) (cs M:CK AV) (rest:BY Bool) (r:Bool),n<=d->an1 P n t cs M rest=some r ->
 ∃e g,rest=some g/\r=(e&&g)/\∃D,P.underlying t=some D/\(Rj D=false->cs.length=1)/\∀us c,ĕ (VRc ν h w) cs us->ĕ (VRc ν h w) M c->(Op.equalIn d t (aa5 (Rj D) us) (aa5 (Rj D) c)).run P w=.ok e w:=by
 intro n
 induction n with
 |zero=>intro d t cs M rest r _ e; cases e
 |succ n ih =>
  intro d t cs M rest r hnd e;obtain⟨d,rfl⟩:∃d',d=d'+1:=⟨d-1,by omega⟩;unfold an1 at e
  split at e<;>try (cases e; done)
  ·rename_i C
   split at e<;>try (cases e; done)
   rename_i a b
   split at e<;>try (cases e; done)
   rename_i g;cases e;refine⟨_,g,rfl,rfl,_,C,fun _=>rfl,fun us c B h2=>?_⟩;obtain⟨u,rfl,K⟩:=B.one;obtain⟨v,rfl,J⟩:=h2.one;have p:u=.bool a:=K.1;have o:v=.bool b:=J.1;subst p o;exact run_equalIn_bool' w d t a b C
  ·rename_i i C
   split at e<;>try (cases e; done)
   rename_i k a k' b
   split at e<;>try (cases e; done)
   rename_i hk _;subst hk
   split at e<;>try (cases e; done)
   rename_i g;cases e;refine⟨_,g,rfl,rfl,_,C,fun _=>rfl,fun us c B h2=>?_⟩;obtain⟨u,rfl,K⟩:=B.one;obtain⟨v,rfl,J⟩:=h2.one;have p:u=.int k a:=K.1;have o:v=.int k b:=J.1;subst p o;have:=run_equalIn_int w d t k i a b C
   rw[show(a==b)=decide (a=b) from by by_cases hab:a=b<;>simp[hab]] at this
   exact this
  ·rename_i fs C
   split at e<;>try (cases e; done)
   rename_i hst
   have key:∀(l:CK Field) (r:Bool),eqFs P (an1 P n) cs M l rest=some r->∃e g,rest=some g/\r=(e&&g)/\∀us c:Array Value,ĕ (VRc ν h w) cs us.toList->ĕ (VRc ν h w) M c.toList->(Op.eqFields d us c l).run P w=.ok e w:=by
    intro l
    induction l with
    |nil=>intro r e; exact⟨true,r,e,by simp,fun us c _ _=>rfl⟩
    |cons f l G =>
     intro r e;unfold eqFs at e
     split at e
     ·rename_i O;obtain⟨Z,g,B,h2,I⟩:=G r e;refine⟨Z,g,B,h2,fun us c A s=>?_⟩
      have : ¬ (f.name ≠ "_") := by simpa using O
      simp only[Op.eqFields,if_neg this];exact I us c A s
     ·rename_i O
      split at e<;>try (cases e; done)
      rename_i m H
      split at e<;>try (cases e; done)
      rename_i x y hx hy;obtain⟨p,r1,B,h2,D,X,Q,I⟩:=ih d f.type x y _ r (by omega) e;obtain⟨o,r2,h4,h5,h6⟩:=G r1 B;refine⟨p&&o,r2,h4,by rw[h2,h5,Bool.and_assoc],fun us c A s=>?_⟩;obtain⟨K,J⟩:=pK hx;obtain⟨Y,g4⟩:=pK hy
      have hnn : f.name ≠ "_" := by simpa using O
      have U:∀{l:CK AV} {us:Array Value} {z:CK AV},ĕ (VRc ν h w) l us.toList->z=(l.drop f.offset).take m->z.length=m->f.offset+m<=us.size\/m=0:=fun {l us z} q p o=>by
       have:=q.length;rw[p] at o;simp at o this;omega
      have E:Rj D=false->m=1:=fun j=>by rw[<-J]; exact Q j
      have W:∀{l:CK AV} {us:Array Value} {z:CK AV},ĕ (VRc ν h w) l us.toList->z=(l.drop f.offset).take m->z.length=m->(part f.type us f.offset).run P w=.ok (aa5 (Rj D) ((us.toList.drop f.offset).take m)) w:=fun {l us z} q p o=>by
       rcases U q p o with j|j
       ·exact ac0 X H us E j
       ·subst j
        have F:Rj D=true:=by cases hq:Rj D with
         |true=>rfl
         |false=>exact absurd (E hq) (by simp)
        unfold part;simp only[Sem.run_bind,zG X,Result.andThen_ok,F,if_true,nR H,Sem.run_pure,aa5];congr 2;apply Array.ext';simp
      have p1:=W A K J;have p2:=W s Y g4;have T:=I ((us.toList.drop f.offset).take m) ((c.toList.drop f.offset).take m) (by rw[K]; exact(A.drop _).take _) (by rw[Y]; exact(s.drop _).take _);have S:=h6 us c A s;simp only[Op.eqFields,if_pos hnn,Sem.run_bind,p1,p2,Result.andThen_ok,T]
      cases p with
      |true=>simp[S]
      |false=>simp
   obtain⟨Z,g,B,h2,I⟩:=key _ r e;refine⟨Z,g,B,h2,_,C,fun j=>by simp[Rj] at j,fun us c A s=>?_⟩
   have j:P.fieldsOf t=fs:=by simp[Program.fieldsOf,C]
   show(Op.equalIn (d+1) t (.agg us.toArray) (.agg c.toArray)).run P w=_;rw[run_equalIn_struct w d t _ _ (by rw[j]; exact C) hst,j];exact I us.toArray c.toArray (by simpa using A) (by simpa using s)
  ·rename_i len V C
   split at e<;>try (cases e; done)
   rename_i m H
   have key:∀(l:CK Nat) (r:Bool),eqIs P (an1 P n) V m cs M l rest=some r->∃e g,rest=some g/\r=(e&&g)/\∀us c:Array Value,ĕ (VRc ν h w) cs us.toList->ĕ (VRc ν h w) M c.toList->(Op.eqItems d V m us c l).run P w=.ok e w:=by
    intro l
    induction l with
    |nil=>intro r e; exact⟨true,r,e,by simp,fun us c _ _=>rfl⟩
    |cons i l G =>
     intro r e;unfold eqIs at e
     split at e<;>try (cases e; done)
     rename_i x y hx hy;obtain⟨p,r1,B,h2,D,X,Q,I⟩:=ih d V x y _ r (by omega) e;obtain⟨o,r2,h4,h5,h6⟩:=G r1 B;refine⟨p&&o,r2,h4,by rw[h2,h5,Bool.and_assoc],fun us c A s=>?_⟩;obtain⟨K,J⟩:=pK hx;obtain⟨Y,g4⟩:=pK hy
     have U:∀{l:CK AV} {us:Array Value} {z:CK AV},ĕ (VRc ν h w) l us.toList->z=(l.drop (i*m)).take m->z.length=m->(i*m)+m<=us.size\/m=0:=fun {l us z} q p o=>by
      have:=q.length;rw[p] at o;simp at o this;omega
     have E:Rj D=false->m=1:=fun j=>by rw[<-J]; exact Q j
     have W:∀{l:CK AV} {us:Array Value} {z:CK AV},ĕ (VRc ν h w) l us.toList->z=(l.drop (i*m)).take m->z.length=m->(part V us (i*m)).run P w=.ok (aa5 (Rj D) ((us.toList.drop (i*m)).take m)) w:=fun {l us z} q p o=>by
      rcases U q p o with j|j
      ·exact ac0 X H us E j
      ·subst j
       have F:Rj D=true:=by cases hq:Rj D with
        |true=>rfl
        |false=>exact absurd (E hq) (by simp)
       unfold part;simp only[Sem.run_bind,zG X,Result.andThen_ok,F,if_true,nR H,Sem.run_pure,aa5];congr 2;apply Array.ext';simp
     have p1:=W A K J;have p2:=W s Y g4;have T:=I ((us.toList.drop (i*m)).take m) ((c.toList.drop (i*m)).take m) (by rw[K]; exact(A.drop _).take _) (by rw[Y]; exact(s.drop _).take _);have S:=h6 us c A s;simp only[Op.eqItems,Sem.run_bind,p1,p2,Result.andThen_ok,T]
     cases p with
     |true=>simp[S]
     |false=>simp
   obtain⟨Z,g,B,h2,I⟩:=key _ r e;refine⟨Z,g,B,h2,_,C,fun j=>by simp[Rj] at j,fun us c A s=>?_⟩
   obtain⟨N,L,hsz⟩:∃N,P.info? V=some N/\N.size=m:=by
    unfold szP at H
    split at H
    ·cases H; exact⟨_,‹_›,rfl⟩
    ·cases H
   have hco:P.cellsOf V=m:=by simp[Program.cellsOf,L,hsz]
   show(Op.equalIn (d+1) t (.agg us.toArray) (.agg c.toArray)).run P w=_;rw[run_equalIn_array w d us.toArray c.toArray C L,hco];exact I us.toArray c.toArray (by simpa using A) (by simpa using s)
def amf {op:BinOp} {t:TypeId} {x y v:AV} {i g:Value} (X Y:Operand) (H:HR ν h w) (e:binK P op t x y some=some v) (s:VR ν h w x i) (q:VR ν h w y g) :
 jA P ν h w (do eqGuard op t X Y i g; binOp op t i g) v h:=by
 unfold binK at e
 split at e
 ·rename_i k a z b;have f:i=.int k a:=s;have h2:g=.int z b:=q;subst f h2
  split at e
  ·rename_i l A
   have c:(eqGuard op t X Y (.int k a) (.int z b)).run P w=.ok () w:=by cases op<;>simp[eqGuard]
   unfold shK at e
   split at e<;>try (cases e; done)
   rename_i hb
   have hb:¬b<0:=by have:=of_decide_eq_true hb; omega
   split at e
   ·cases e;refine jA.still H (u:=.int k (shlI k a b)) ?_ rfl;rw[Sem.run_bind,c,Result.andThen_ok]
    cases op<;>simp only[abV,Option.some.injEq,reduceCtorEq] at A
    simp[binOp,Op.shift,hb,shlI]
   ·cases e;refine jA.still H (u:=.int k (jd k a b)) ?_ rfl;rw[Sem.run_bind,c,Result.andThen_ok]
    cases op<;>simp only[abV,Option.some.injEq,reduceCtorEq] at A
    simp[binOp,Op.shift,hb,jd]
  rename_i F
  split at e<;>try (cases e; done)
  rename_i G _;subst G
  have c:(eqGuard op t X Y (.int k a) (.int k b)).run P w=.ok () w:=by cases op<;>simp[eqGuard]
  split at e
  ·rename_i r d;cases e;refine jA.still H (u:=.bool r) ?_ rfl;rw[Sem.run_bind,c,Result.andThen_ok]
   cases op<;>simp only[cmpI,reduceCtorEq,Option.some.injEq] at d<;>subst d<;>simp[binOp,Op.intCmp]
  ·split at e
   ·rename_i r d;rw[Xv e];refine jA.still H (u:=.int k (k.wrap r)) ?_ rfl;rw[Sem.run_bind,c,Result.andThen_ok]
    cases op<;>simp only[arI,reduceCtorEq,Option.some.injEq] at d<;>subst d<;>simp[binOp,Op.intArith]
   ·split at e<;>try (cases e; done)
    ·split at e<;>try (cases e; done)
     rename_i hb
     have hb:¬b=0:=by simpa using hb
     rw[Xv e];refine jA.still H (u:=.int k (k.wrap (a.tdiv b))) ?_ rfl;rw[Sem.run_bind,c,Result.andThen_ok];simp[binOp,Op.intDiv,hb]
    ·split at e<;>try (cases e; done)
     rename_i hb
     have hb:¬b=0:=by simpa using hb
     cases e;refine jA.still H (u:=.int k (a.tmod b)) ?_ rfl;rw[Sem.run_bind,c,Result.andThen_ok];simp[binOp,Op.intDiv,hb]
    ·cases e;refine jA.still H (u:=.int k (andI k a b)) ?_ rfl;rw[Sem.run_bind,c,Result.andThen_ok];simp[binOp,Op.intBits,andI,akJ]
    ·cases e;refine jA.still H (u:=.int k (orI k a b)) ?_ rfl;rw[Sem.run_bind,c,Result.andThen_ok];simp[binOp,Op.intBits,orI,akJ]
    ·cases e;refine jA.still H (u:=.int k (xorI k a b)) ?_ rfl;rw[Sem.run_bind,c,Result.andThen_ok];simp[binOp,Op.intBits,xorI,akJ]
    ·cases e;refine jA.still H (u:=.int k (Ko k a b)) ?_ rfl;rw[Sem.run_bind,c,Result.andThen_ok];simp[binOp,Op.intBits,Ko,akJ]
 ·rename_i a b;have f:i=.bool a:=s;have h2:g=.bool b:=q;subst f h2
  split at e<;>try (cases e; done)
  rename_i E
  have c:(eqGuard op t X Y (.bool a) (.bool b)).run P w=.ok () w:=by cases op<;>simp[eqGuard]
  have B:(Op.equalIn 10000 t (.bool a) (.bool b)).run P w=.ok (a==b) w:=run_equalIn_bool' w 9999 t a b E
  split at e<;>try (cases e; done)
  ·cases e;refine jA.still H (u:=.bool (a==b)) ?_ rfl;rw[Sem.run_bind,c,Result.andThen_ok];simp[binOp,Op.equal,Op.maxDepth,B]
  ·cases e;refine jA.still H (u:=.bool (!(a==b))) ?_ rfl;rw[Sem.run_bind,c,Result.andThen_ok];simp[binOp,Op.equal,Op.maxDepth,B]
 ·rename_i a b;have f:i=.string a:=s;have h2:g=.string b:=q;subst f h2
  have c:(eqGuard op t X Y (.string a) (.string b)).run P w=.ok () w:=by cases op<;>simp[eqGuard]
  split at e<;>try (cases e; done)
  ·cases e;refine jA.still H (u:=.bool (a.toList==b.toList)) ?_ rfl;rw[Sem.run_bind,c,Result.andThen_ok];simp[binOp,Op.stringOp]
  ·cases e;refine jA.still H (u:=.bool (!(a.toList==b.toList))) ?_ rfl;rw[Sem.run_bind,c,Result.andThen_ok];simp[binOp,Op.stringOp]
 ·rename_i cs M;obtain⟨us,rfl,f⟩:=s;obtain⟨p,rfl,h2⟩:=q
  split at e<;>try (cases e; done)
  rename_i j
  split at e<;>try (cases e; done)
  rename_i m
  split at e<;>try (cases e; done)
  rename_i r d;obtain⟨O,N,L,C,D,J,I,K⟩:=an0 (ν:=ν) (h:=h) (w:=w) 8 10000 t cs M _ r (by omega) d;cases L;rw[Bool.and_true] at C;subst C;have o:=K us.toList p.toList f h2
  have n:Rj D=true:=by rw[J] at j; cases D<;>first|rfl|(simp[aggT] at j; done)
  rw[n] at o
  have o:(Op.equalIn 10000 t (.agg us) (.agg p)).run P w=.ok r w:=by simpa[aa5] using o
  split at e<;>try (cases e; done)
  ·cases e;refine jA.still H (u:=.bool r) ?_ rfl;rw[Sem.run_bind,run_eqGuard_agg w _ t X Y us p m,Result.andThen_ok,run_eql_struct,o]; rfl
  ·cases e;refine jA.still H (u:=.bool (!r)) ?_ rfl;rw[Sem.run_bind,run_eqGuard_agg w _ t X Y us p m,Result.andThen_ok,run_neq_struct,o]; rfl
 ·cases e
def ag4 {op:UnOp} {x v:AV} {a:Value} (H:HR ν h w) (c:VR ν h w x a)
 (e:(match op,x with|.not,.bool b=>some (AV.bool (!b))|.neg,.int k n=>arK k (0-n) some|_,_=>none)=some v):jA P ν h w (Op.unary op a) v h:=by
 split at e<;>try (cases e; done)
 ·cases e;rename_i b c;have:a=.bool b:=c;subst this;exact jA.still H rfl rfl
 ·rename_i k n c;have:a=.int k n:=c;subst this;rw[Xv e];exact jA.still H (u:=.int k (k.wrap (0-n))) rfl rfl
end
end Go.Am
end

noncomputable section
namespace Go.Am
variable [Ghost]
section
variable {ν ν':Nat->Value} {h h':CK Blk} {w w':World} {P:Program}
def Tc (b:AV):∀(as:CK AV) (h:CK Blk),ă (C8 h as) b=ă h b
 |[],_=>rfl
 |a::as,h=>by rw[C8,Tc b as,Jh]
def Db.mono {av a:Nat->Prop} (d:∀b,a b->av b) {t:Ty} {xs:CK (Val t)} {news:CK Value} (c:Db w av t xs news):Db w a t xs news :=
 ⟨c.1,fun i x hi=>CR.mono d (c.2 i x hi)⟩
def Qk {a:AV} {id:Nat} {h:CK Blk} (b:lkB h id=.dead):lkB (sS h a) id=.dead:=by
 have key:∀(j g:Nat) (t:Ty) (fz:Bool) (xs:CK (Val t)),lkB h j=.row t g fz xs->lkB (Đ h j (.row t g true xs)) id=.dead:=fun j g t fz xs c=>by
  by_cases d:id=j
  ·subst d; rw[b] at c; cases c
  ·rw[Ù _ d]; exact b
 cases a<;>try exact b
 all_goals
  simp only[sS]
  split
  ·exact key _ _ _ _ _ ‹_›
  ·exact b
def Qg {id:Nat}:∀(as:CK AV) {h:CK Blk},lkB h id=.dead->lkB (C8 h as) id=.dead
 |[],_,a=>a
 |_::as,_,a=>Qg as (Qk a)
def aef {v:AV} {id:Nat} {h:CK Blk} (a:lkB h id=.dead):lkB (frz h v) id=.dead:=by
 unfold frz; split
 ·exact Qg _ a
 ·exact Qk a
def Qh {id:Nat}:∀(ps:CK (Nat×AV)) {h:CK Blk},lkB h id=.dead->lkB (frzA h ps) id=.dead
 |[],_,a=>a
 |(_,_)::ps,_,a=>Qh ps (aef a)
def ac3 {h0:CK Blk} {ty:Ty}:∀(ps:CK (Nat×AV)) (us:CK (Nat×Value)) (k:Nat) (c:Array Value) (xs:CK (Val ty)) (h:CK Blk),(∀b,ă h b=ă h0 b)->HR ν h w->Rl h0 ty k ps=some xs ->
 ĕ (fun(a:Nat×AV) (b:Nat×Value)=>a.1=b.1/\VR ν h w a.2 b.2) ps us->(k+ps.length)*ty.size<=c.size ->
 ∃c' news,Instr.fill (fun i=>some (i*ty.size,ty.size)) c us=some c'/\c'.toList=c.toList.take (k*ty.size)++news++c.toList.drop ((k+ps.length)*ty.size)/\Db w (Av ν (frzA h ps)) ty xs news/\xs.length=ps.length /\
  Ev h.length ν h w ν (frzA h ps) w/\HR ν (frzA h ps) w/\(∀b,Av ν (frzA h ps) b->Av ν h b)/\(frzA h ps).length=h.length
 |[],[],k,c,xs,h,g,H,e,_,_=>by
  cases e;exact⟨c,[],rfl,by simp,⟨by simp,fun i x hi=>by simp at hi⟩,rfl,Ev.refl _ _ _ _,H,fun _ hb=>hb,rfl⟩
 |[],_::_,_,_,_,_,_,_,_,d,_=>d.elim
 |_::_,[],_,_,_,_,_,_,_,d,_=>d.elim
 |(i,v)::ps,(j,u)::us,k,c,xs,h,g,H,e,d,Q=>by
  obtain⟨⟨A,o⟩,d⟩:=d;simp only at A o; subst A;simp only[Rl] at e
  split at e<;>try (cases e; done)
  rename_i z;simp only[cW,beq_iff_eq] at z;obtain⟨rfl,E⟩:=z
  split at e<;>try (cases e; done)
  rename_i cs K
  split at e<;>try (cases e; done)
  rename_i x O
  split at e<;>try (cases e; done)
  rename_i xs' C;cases e;obtain⟨vs,p,rfl⟩:=Jg K;obtain⟨I,G⟩:=aiX p h;have J:=o.cells p;have L:=Iv H (J.mono fun _ _ q=>q.1) (G E);have s:vs.map (ă h)=vs.map (ă h0):=fi fun b _=>g b;rw[s] at L;have n:=Ĥ O L;obtain⟨N,H1,F⟩:=FH vs H;simp only[frzA,I]
  have f:u.cells.size=ty.size:=by have:=n.length; simpa using this
  have t:(i+1+ps.length)*ty.size<=c.size:=by rw[show i+1+ps.length=i+(ps.length+1) by omega]; simpa using Q
  have hi:i*ty.size+ty.size<=c.size:=by
   have:=dB ty.size (show i+1<=i+1+ps.length by omega);rw[dE i 1,fm] at this;omega
  have m:u.cells.toList.length=ty.size:=by simpa using f
  have B:(c.toList.take (i*ty.size)++u.cells.toList++c.toList.drop (i*ty.size+ty.size)).toArray.size=c.size:=by
   simp only[fP,cZ,dk,ik,gn,m]; omega
  obtain⟨c',news,X,h2,W,V,U,T,M,S⟩:=ac3 ps us (i+1) (c.toList.take (i*ty.size)++u.cells.toList++c.toList.drop (i*ty.size+ty.size)).toArray xs' (C8 h vs)
   (fun b=>(Tc b vs h).trans (g b)) H1 C (d.mono fun _ _ q=>⟨q.1,q.2.ev N⟩) (by rw[B]; exact t)
  refine⟨c',u.cells.toList++news,?_,?_,?_,by simp[V],N.trans U (by rw[κ]; exact cX _),T,fun b hb=>F b (M b hb),by rw[S,κ]⟩
  ·rw[Qw rfl f hi]; exact X
  ·rw[h2]
   have Z:(c.toList.take (i*ty.size)++u.cells.toList++c.toList.drop (i*ty.size+ty.size)).take ((i+1)*ty.size)=c.toList.take (i*ty.size)++u.cells.toList:=by
    have l:(c.toList.take (i*ty.size)++u.cells.toList).length=(i+1)*ty.size:=by
     rw[cZ,dk,gn,m,dE,fm]; omega
    rw[<-l,List.take_left]
   have Y:(c.toList.take (i*ty.size)++u.cells.toList++c.toList.drop (i*ty.size+ty.size)).drop ((i+1+ps.length)*ty.size)=c.toList.drop ((i+(ps.length+1))*ty.size):=by
    have l:(c.toList.take (i*ty.size)++u.cells.toList).length=i*ty.size+ty.size:=by
     rw[cZ,dk,gn,m]; omega
    rw[show(i+1+ps.length)*ty.size=(c.toList.take (i*ty.size)++u.cells.toList).length+ps.length*ty.size by rw[l,dE,dE,fm],<-gg,List.drop_left,gg];congr 1;rw[dE,dE,fm]; omega
   show(List.take ((i+1)*ty.size) _++news++List.drop ((i+1+ps.length)*ty.size) _)=_;rw[Z,Y];simp
  ·have r:Db w (Av ν (frzA (C8 h vs) ps)) ty [x] u.cells.toList:=⟨by simp[f],fun q y D=>by
    cases q with
    |zero =>
     simp at D; subst D;simp only[Nat.zero_mul,g8];rw[dY (by omega)];exact CR.mono M n
    |succ q=>simp at D⟩
   exact r.append W
def Xo {S:St} {a:Act} {nid n:Nat} {t e:TypeId} {ty:Ty} {ps:Array (Nat×Operand)} {xs:CK (Val ty)} (H:Sim ν S a w) (s:nid<S.h.length) (hd:lkB S.h nid=.dead) (I:SS P t=some e)
 (d:Vn P e ty.size=true) (f:ps.toList.length=n) (u:n*ty.size<=65536) (D:Rl S.h ty 0 (ps.toList.map fun p=>(p.1,ev S.t p.2))=some xs) :
 jA P ν S.h w (Instr.buildSlice t n (ps.map fun(i,x)=>(i,a.eval x))) (.own nid 0) (Đ (frzA S.h (ps.toList.map fun p=>(p.1,ev S.t p.2))) nid (.row ty 0 false xs)):=by
 obtain⟨i,z,hi,l,r,J,C,B⟩:=vy d;have E:=rq I
 have o:((Array.range (n*ty.size)).map (fun j=>(if n*ty.size=0 then(#[]:Array Value) else z.cells)[j % (if n*ty.size=0 then(#[]:Array Value) else z.cells).size]!)).size=n*ty.size:=by simp
 obtain⟨c',news,M,h2,A,q,L,K,N,k⟩:=ac3 (ν:=ν) (w:=w) (h0:=S.h) _ (ps.toList.map fun p=>(p.1,a.eval p.2)) 0 ((Array.range (n*ty.size)).map (fun j=>(if n*ty.size=0 then(#[]:Array Value) else z.cells)[j % (if n*ty.size=0 then(#[]:Array Value) else z.cells).size]!)) xs S.h (fun _=>rfl) H.heap D (F7 H ps.toList)
  (by rw[o]; simp only[dF]; rw[f,dH]; exact cX _)
 rw[dF,f] at h2 q
 have g:c'.toList=news:=by
  rw[h2];simp
 have m:lkB (frzA S.h (ps.toList.map fun p=>(p.1,ev S.t p.2))) nid=.dead:=Qh _ hd
 have b:=Jj (w':=w.alloc (.cells c' e)) K (id:=nid) (g':=0) (xs':=xs) (cap':=n) (by rw[k]; exact s) (fun V=>by rw[m]; trivial) rfl rfl rfl rfl (by omega) (by
  have:c'.size=news.length:=by rw[<-g]; simp
  rw[this,A.1,q]; exact cX _) A (fun j v y=>by rw[<-g] at y; simpa using y)
 rw[q] at b;refine⟨_,_,_,?_,zP (by rw[k]; exact s) rfl,b.2,(L.trans b.1 (by rw[k]; exact cX _)),by rw[á,k]⟩
 have F:(ps.map fun(x:Nat×Operand)=>(x.1,a.eval x.2)).toList=ps.toList.map fun p=>(p.1,a.eval p.2):=by simp
 have G:¬(16777216<n*ty.size):=by omega
 have c:Instr.fill (fun i=>some (i*ty.size,ty.size)) ((Array.range (n*ty.size)).map (fun j=>(if n*ty.size=0 then(#[]:Array Value) else z.cells)[j % (if n*ty.size=0 then(#[]:Array Value) else z.cells).size]!)) (ps.map fun(x:Nat×Operand)=>(x.1,a.eval x.2)).toList=some c':=by rw[F]; exact M
 simp only[Instr.buildSlice,Sem.run_bind,run_underlying E,Result.andThen_ok,sizeOf,typeInfo,run_program,hi,Sem.run_pure,l];rw[show(2:Nat) ^ 24=16777216 from rfl,if_neg (by omega:¬n*ty.size>16777216)]
 by_cases h0:n*ty.size=0
 ·simp only[h0,if_true,Sem.run_bind,Sem.run_pure,Result.andThen_ok] at c ⊢
  erw [c]
  simp[newRow]
 ·simp only[h0,if_false,Sem.run_bind,zeroValue,typeInfo,run_program,hi,C,Sem.run_pure,Result.andThen_ok] at c ⊢
  erw [c]
  simp[newRow]
end
end Go.Am
end

noncomputable section
namespace Go.Am
variable {ρ:Type}
def FP (k:IntKind) (n:Int) (K:AV->BY ρ):arK k n K=(arK k n some).bind K:=rfl
def CL (P:Program) (op:BinOp) (t:TypeId) (x y:AV) (K:AV->BY ρ):binK P op t x y K=(binK P op t x y some).bind K:=by
 unfold binK; (repeat' split)<;>first|rfl|exact FP _ _ _|(unfold shK; (repeat' split)<;>rfl)
def Ch (d:BY TypeDesc) (h:CK Blk) (x:AV) (K:AV->BY ρ):aln d h x K=(aln d h x some).bind K:=by
 unfold aln; (repeat' split)<;>rfl
def rj (sz:Nat) (h:CK Blk) (x i:AV) (K:AV->BY ρ):Ip sz h x i K=(Ip sz h x i some).bind K:=by
 unfold Ip; (repeat' split)<;>rfl
def qY (h:CK Blk) (x:AV) (o:Nat) (K:AV->BY ρ):Df h x o K=(Df h x o some).bind K:=by
 unfold Df; (repeat' split)<;>rfl
def wH (P:Program) (h:CK Blk) (t:TypeId) (a:AV) (K:AV->BY ρ):SO P h t a K=(SO P h t a some).bind K:=by
 unfold SO; (repeat' split)<;>rfl
def qW (P:Program) (h:CK Blk) (t:TypeId) (a v:AV) (K:CK Blk->BY ρ):yQ P h t a v K=(yQ P h t a v some).bind K:=by
 unfold yQ; (repeat' split)<;>rfl
def B4 (sz:Nat) (h:CK Blk) (x:AV) (lo hi:BY AV) (eat:Bool) (K:AV->CK Blk->BY ρ) :
 ti sz h x lo hi eat K=(ti sz h x lo hi eat fun v h=>some (v,h)).bind fun r=>K r.1 r.2:=by
 unfold ti; (repeat' split)<;>rfl
def yM (P:Program) (h:CK Blk) (nid:Nat) (t:TypeId) (s x:AV) (K:AV->CK Blk->BY ρ) :
 BS P h nid t s x K=(BS P h nid t s x fun v h=>some (v,h)).bind fun r=>K r.1 r.2:=by
 unfold BS; (repeat' split)<;>rfl
def BX (P:Program) (h:CK Blk) (nid:Nat) (t:TypeId) (s x:AV) (K:AV->CK Blk->BY ρ) :
 Ku P h nid t s x K=(Ku P h nid t s x fun v h=>some (v,h)).bind fun r=>K r.1 r.2:=by
 unfold Ku; (repeat' split)<;>rfl
def CH (P:Program) (h:CK Blk) (t:TypeId) (x:AV) (K:CK Blk->BY ρ):Lf P h t x K=(Lf P h t x some).bind K:=by
 unfold Lf; (repeat' split)<;>rfl
def oj (P:Program) (h:CK Blk) (t:TypeId) (m i:AV) (ok:Bool) (K:AV->BY ρ):vm P h t m i ok K=(vm P h t m i ok some).bind K:=by
 unfold vm; (repeat' split)<;>rfl
def oD (P:Program) (h:CK Blk) (t:TypeId) (m i x:AV) (K:CK Blk->BY ρ):mn P h t m i x K=(mn P h t m i x some).bind K:=by
 unfold mn; (repeat' split)<;>rfl
def jh (gt:Bool) (l:CK AV) (K:AV->BY ρ):∀x,mK gt x l K=(mK gt x l some).bind K:=by
 induction l with
 |nil=>intro x; rfl
 |cons y l a =>
  intro x
  cases x<;>cases y<;>try rfl
  unfold mK; (repeat' split)<;>first|rfl|exact a _
def opR (P:Program) (S:St) (nid:Nat) (eat:Bool) (o:Op):BY (AV×St):=opK P S nid eat o fun v S=>some (v,S)
def iD {α β γ:Type} {x:BY α} {y:BY β} {f:α->BY β} {g:β->BY γ} {k:α->BY γ} {z:BY γ}
 (b:z=x.bind k) (h2:y=x.bind f) (h:∀a,k a=(f a).bind g):z=y.bind g:=by
 subst b h2; cases x with
 |none=>rfl
 |some a=>exact h a
def jv (j:Int) (K:Nat->BY ρ):∀(n q:Nat),Yg n q j K=(Yg n q j some).bind K
 |0,_=>rfl
 |n+1,q=>by
  unfold Yg
  split
  ·rfl
  ·exact jv j K n (q+1)
def Jk {j:Int} {v:Nat}:∀{n q:Nat},Yg n q j some=some v->j=(v:Int)/\q<=v/\v<q+n
 |0,_,h=>by cases h
 |n+1,q,h=>by
  unfold Yg at h
  split at h
  ·rename_i hd;cases h;exact⟨of_decide_eq_true hd,cX _,by omega⟩
  ·obtain⟨a,h2,b⟩:=Jk h;exact⟨a,by omega,by omega⟩
def VI (P:Program) (S:St) (nid:Nat) (eat:Bool) (o:Op) (K:AV->St->BY ρ) :
 opK P S nid eat o K=(opR P S nid eat o).bind fun r=>K r.1 r.2:=by
 unfold opR;unfold opK;dsimp only
 (repeat' split)<;>first
  |rfl
  |exact iD (Ch ..) (Ch ..) fun _=>rfl
  |exact iD (wH ..) (wH ..) fun _=>rfl
  |exact iD (qW ..) (qW ..) fun _=>rfl
  |exact iD (CL ..) (CL ..) fun _=>rfl
  |exact iD (oD ..) (oD ..) fun _=>rfl
  |exact iD (oj ..) (oj ..) fun _=>rfl
  |exact iD (yM ..) (yM ..) fun _=>rfl
  |exact iD (BX ..) (BX ..) fun _=>rfl
  |exact iD (CH ..) (CH ..) fun _=>rfl
  |exact iD (jh _ _ _ _) (jh _ _ _ _) fun _=>rfl
  |exact iD (FP ..) (FP ..) fun _=>rfl
  |exact iD (B4 ..) (B4 ..) fun _=>rfl
  |exact iD (qY ..) (qY ..) fun _=>rfl
  |exact iD (rj ..) (rj ..) fun _=>rfl
  |exact iD (jv ..) (jv ..) fun _=>rfl
  |exact iD (jv ..) (jv ..) fun _=>by(repeat' split)<;>rfl
end Go.Am
end
